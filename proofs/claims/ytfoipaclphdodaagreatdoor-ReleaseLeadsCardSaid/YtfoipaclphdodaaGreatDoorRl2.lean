/-
  Part 2 of the proof: own lemmas and contracts on plain data. No condition beyond those that each lemma states.
-/
import Derived.Test.YtfoipaclphdodaaGreatDoorRl1
import Derived.Tactics
import Derived.Tactics2
import Derived.Lib.SplitLaws
import Derived.Lib.Join
import Derived.Lib.IndexAny
import Derived.Shelf.Strings.Builder1
import Derived.Shelf.Strings.Builder2
import Derived.Shelf.Small.Bits
import Derived.Shelf.Small.Strs
import Derived.Shelf.Small.Wraps
import Derived.Shelf.Strings.BuilderF
import Derived.Shelf.Strings.BuilderK
import Derived.Shelf.Utf8.RuneCount
import Derived.Shelf.Strings.Builder2Cap
import Derived.Shelf.Strconv.Itoa0
import Derived.Shelf.Strings.Search1
import Derived.Shelf.Strings.Search2
import Derived.Shelf.Strings.Search3
import Derived.Shelf.Strings.Cut
import Derived.Shelf.Strings.Count
import Derived.Shelf.LaysM
import Derived.Shelf.Strings.Shaped
import Derived.Shelf.Sort.Plain
import Derived.Shelf.Strings.Split
import Derived.Shelf.Strings.Replace
import Derived.Shelf.Strings.SplitShaped
import Derived.Shelf.Unicode.Decode
import Derived.Shelf.Strings.RuneCount
import Derived.Shelf.Unicode.DecodeSlow
import Derived.Shelf.Unicode.DecodeAny
import Derived.Shelf.Strings.BuilderCap
import Derived.Shelf.Slices.CompactS
import Derived.Shelf.Slices.SearchI
import Derived.Shelf.Slices.Cells
import Derived.Shelf.Slices.In.SortNone
import Derived.Lib.AtoiErrMem
import Derived.WalkKit
import Derived.ProofKit
import Derived.Carry
import Derived.Lib.SmallJoins
import Derived.Deep.Slices
set_option linter.all false
set_option maxRecDepth 1000000
set_option maxHeartbeats 4000000
namespace Go.Proofs.YtfoipaclphdodaaGreatDoor
section
open Go.Ab Civ
theorem plain1_a {n:Int}{h:AH}:Ac 255 [uv n] h (bv (ZbP n)):=by
 refine tI' k255 fun N hn _ _ hbd=>?_
 simp only[tb'] at hbd ⊢
 refine wk'<|wm<|Zad mp (ZhN) pt<|mw<|?_
 refine Za6 (t:=5) gt pt pt (fun hg5=>?_) (fun hg5=>?_)
 ·refine so<|so<|Vw (Zal lk lkb)<|mw<|so<|so<|Vw (Zal lk lkb)<|mw<|so<|so<|Vw (Zal lk lkb)<|ms<|?_
  refine Zbe<|Zae rz<|rT'<|?_
  refine bvx ?_;unfold ZbP;rw[Bool.eq_iff_iff];simp_all
 refine sd<|mw<|sd<|Zad mp (ZuT) pt<|Vw (Zaj lk lk)<|mw<|?_
 refine Za6 (t:=9) gt pt pt (fun hg9=>?_) (fun hg9=>?_)
 ·refine so<|so<|Vw (Zal lk lkb)<|mw<|so<|so<|Vw (Zal lk lkb)<|mr<|Zae rz<|rT'<|?_
  refine bvx ?_;unfold ZbP;rw[Bool.eq_iff_iff];simp_all
 refine sd<|mw<|sd<|Vw (Za7 lk lki)<|Vw (Zaj lk lk)<|mw<|?_
 refine sp' (t:=13) gt pt pt (fun hg13=>?_) (fun hg13=>?_)
 ·refine so<|so<|Vw (Zal lk lkb)<|mr<|Zae rz<|rT'<|?_
  refine bvx ?_;unfold ZbP;rw[Bool.eq_iff_iff];simp_all
 refine sd<|mw<|sd<|Vw (Za7 lk lki)<|Vw (Zaj lk lk)<|mr<|Zae rz<|rT'<|?_
 refine bvx ?_;unfold ZbP;rw[Bool.eq_iff_iff];simp_all
theorem all_a {p:Int→Bool}{f:FuncId}(hp : ∀ (n:Int) (h:AH),ACalls Tryz.prog f [uv n] h fun x h'=>h'=h∧x=.ret (bv (p n))) {s:ByteArray}(hs:s.size≤maxLen) {h:AH} :
  Ac 117 [sv s,.v (.func (.func f) #[] #[])] h (bv (allB p s)):=by
 have hm:s.size≤9223372036854775807:=by simpa [maxLen] using hs
 refine tI' k117 fun N hn _ _ hbd=>?_
 simp only[tb'] at hbd ⊢
 refine wk'<|Zac<|wm<|Vw (ZcJ lk)<|ms<|Zaf<|?_
 refine w_lp (ι:=Nat) (fun (k:Nat)=>[(8,iv (k:Int)),(4,.any),(5,.any)]++rn' 9 9) (fun (k:Nat)=>[]) (fun (k:Nat)=>k≤s.size ∧ ∀ j (hj:j<s.size),j<k→p s[j].toNat=true) (fun (k:Nat)=>s.size-k) (0) (by exact⟨by omega,fun j hj h0=>absurd h0 om⟩) ?_
 rintro k hi1
 try simp only[sm',Nat.reduceAdd]
 obtain⟨hk1,hk2⟩:=hi1
 refine wr'<|Vw (ZaO lk lk)<|sn'<|Zac<|?_
 refine cd' lk (fun hc1=>?_) (fun hc1=>?_)
 ·refine za<|Zac<|Zaf<|wm<|ms<|wm<|mw<|?_
  refine mv' lk pt ?_
  refine V' (v_ix lk lk om om) pt ?_
  refine ZfE lk mp (hp _ _) pt<|Vw (ZaE lk)<|sn'<|?_
  rw[Zd5 om] at *
  refine Zav lk (fun hc2=>?_) (fun hc2=>?_)
  ·refine wo<|Zaq<|Zah<|Zah<|Zaq<|Zah<|Zae rz<|rT'<|?_
   refine bvx ?_;rw[ZvD (k:=k) om (by simpa [Zd5 (show k<s.size by omega)] using hc2)]
  refine ZaB<|Zau<|Zan<|Zap<|?_
  refine ad<|mw<|Zam<|Zaz<|?_
  refine lT' (k+1) (by (try dsimp only);refine⟨by omega,fun j hj h0=>?_⟩;by_cases e:j=k;subst e;simpa [Zd5 hj] using hc2;exact hk2 j hj om)
 refine Zay<|Zar<|Zar<|ZaN<|Zan<|wo<|Zae rz<|rT'<|?_
 refine bvx ?_;rw[Zqv fun j hj=>hk2 j hj om]
theorem Zh7 {s:ByteArray}{h:AH}(hs:s.size≤maxLen:=by first | assumption | omega):Ac 198 [sv s] h (bv (allB ZbP s)):=by
 refine tI' k198 fun N hn _ _ hbd=>?_
 simp only[tb'] at hbd ⊢
 refine wk'<|wm<|?_
 refine Zad mp (all_a (fun _ _=>plain1_a) hs) pt ?_
 exact mr<|Zae rz<|rT' rfl
theorem Zku {n a b:Int}{h:AH}:Ac 197 [iv n,iv a,iv b] h (bv (wi n a b)):=by
 refine tI' k197 fun N hn _ _ hbd=>?_
 simp only[tb'] at hbd ⊢
 refine wk'<|wm<|mw<|Vw (ZfC lk lk)<|mw<|?_
 refine sp' (t:=10) gt pt pt (fun hg10=>?_) (fun hg10=>?_)
 ·refine sd<|mw<|sd<|mw<|sd<|Vw (ZdF lk lk)<|Vw (Zal lk lk)<|mr<|Zae rz<|rT'<|?_
  refine bvx ?_;unfold wi;rw[Bool.eq_iff_iff];simp;omega
 refine so<|so<|so<|Vw (Zaj lk lkb)<|mr<|Zae rz<|rT'<|?_
 refine bvx ?_;unfold wi;rw[Bool.eq_iff_iff];simp;omega
theorem Zgp {y:Int}{h:AH}(h0:1≤y) (h1:y≤20000):Ac 220 [iv y] h (iv (bef y)):=by
 refine tI' k220 fun N hn _ _ hbd=>?_
 simp only[tb'] at hbd ⊢
 refine wk'<|wm<|?_
 refine V' (Za3 lk lki om om) pt ?_
 refine ms<|wm<|?_
 refine V' (ZfB lki lk om om) pt ?_
 refine mv' lk pt ?_
 refine V' (ZgE lk lki om om om) pt ?_
 refine V' (ZbM lk lk om om) pt ?_
 refine mv' lk pt ?_
 refine V' (ZgE lk lki om om om) pt ?_
 refine V' (Za3 lk lk om om) pt ?_
 refine mv' lk pt ?_
 refine V' (ZgE lk lki om om om) pt ?_
 refine V' (ZbM lk lk om om) pt ?_
 refine mr<|Zae rz<|rT'<|?_
 unfold bef;rfl
theorem Zk7 {h:AH}:Ac 221 [] h (iv 719162):=by
 refine tI' k221 fun N hn _ _ hbd=>?_
 simp only[tb'] at hbd ⊢
 refine wk'<|wr'<|?_
 refine Zad mp (Zgp (by first | assumption | omega) (by first | assumption | omega)) pt ?_
 refine mr<|Zae rz<|rT'<|?_
 rw[bef_1970]
theorem ZuD {h:AH}:Ac 195 [] h (iv (-719162)):=by
 refine tI' k195 fun N hn _ _ hbd=>?_
 simp only[tb'] at hbd ⊢
 refine wk'<|wr'<|Zad mp0 (Zk7) pt<|?_
 refine V' (v_neg lk om om) pt ?_
 exact mr<|Zae rz<|rT' rfl
theorem last_a {h:AH}:Ac 196 [] h (iv 2932896):=by
 refine tI' k196 fun N hn _ _ hbd=>?_
 simp only[tb'] at hbd ⊢
 refine wk'<|wr'<|?_
 refine Zad mp (Zgp om om) pt ?_
 refine Zad mp0 (Zk7) pt ?_
 refine V' (Za3 lk lk (by rw[Zc7];omega) (by rw[Zc7];omega)) pt ?_
 refine V' (Za3 lk lki (by rw[Zc7];omega) (by rw[Zc7];omega)) pt ?_
 refine mr<|Zae rz<|rT'<|?_
 rw[Zc7];rfl
theorem ZnL {h:AH}:Ac 104 [] h (iv (-62135596800)):=by
 refine tI' k104 fun N hn _ _ hbd=>?_
 simp only[tb'] at hbd ⊢
 refine wk'<|wr'<|Zad mp0 (ZuD) pt<|?_
 refine V' (ZfB lk lki om om) pt ?_
 exact mr<|Zae rz<|rT' rfl
theorem most_a {h:AH}:Ac 105 [] h (iv 253402300799):=by
 refine tI' k105 fun N hn _ _ hbd=>?_
 simp only[tb'] at hbd ⊢
 refine wk'<|wr'<|Zad mp0 (last_a) pt<|?_
 refine ad<|V' (ZfB lk lki om om) pt ?_
 refine V' (Za3 lk lki om om) pt ?_
 exact mr<|Zae rz<|rT' rfl
theorem time_a {n:Int}{h:AH}:Ac 121 [iv n] h (bv (Zhv n)):=by
 refine tI' k121 fun N hn _ _ hbd=>?_
 simp only[tb'] at hbd ⊢
 refine wk'<|wm<|Zad mp0 (ZnL) pt<|Zad mp0 (most_a) pt<|Zad mp (Zku) pt<|ms<|?_
 exact Zbe<|Zae rz<|rT' rfl
theorem ZnJ {a b:Int}{s:ByteArray}{h:AH}(hs:s.size≤maxLen:=by first | assumption | omega):Ac 106 [.agg [iv a,iv b,sv s]] h (iv (locE (a,b,s))):=by
 refine tI' k106 fun N hn _ _ hbd=>?_
 simp only[tb'] at hbd ⊢
 refine wr'<|E' (ZaR cv rfl hl0 ha0) pt<|ms<|Zac<|Zaf<|wr'<|fq<|Vw (Zaa lk gx gt0)<|Zad mp (Zku) pt<|Vw (ZaE lk)<|?_
 refine mv' lk pt ?_
 refine Za6 (t:=8) gt pt pt (fun hg8=>?_) (fun hg8=>?_)
 ·refine so<|so<|so<|so<|Vw (Zal lk lkb)<|ms<|Zbb lk<|wk'<|?_
  refine Zbe<|Zaq<|Zah<|Zae rz<|rT'<|?_
  refine ivx ?_;unfold locE;simp_all [wi];try omega
 refine sd<|fq<|sd<|Vw (Zaa lk gx gt1)<|sd<|Zad mp (Zku) pt<|sd<|Vw (ZaE lk)<|Vw (Zaj lk lk)<|ms<|?_
 refine Zav lk (fun hc1=>?_) (fun hc1=>?_)
 ·refine wo<|Zaq<|Zah<|Zae rz<|rT'<|?_
  refine ivx ?_;unfold locE;simp_all [wi];try omega
 refine wr'<|fq<|Vw (Zaa lk gx gt2)<|Vw (v_eqlE lk)<|mw<|?_
 refine sp' (t:=18) gt pt pt (fun hg18=>?_) (fun hg18=>?_)
 ·refine so<|so<|so<|so<|Vw (Zal lk lkb)<|mw<|so<|so<|so<|so<|Vw (Zal lk lkb)<|ms<|?_
  refine Zbb lk<|wo<|Zaq<|Zah<|Zae rz<|rT'<|?_
  refine ivx ?_;unfold locE;simp_all [wi];try omega
 refine sd<|fq<|sd<|Vw (Zaa lk gx gt2)<|sd<|Vw (ZcJ lk)<|sd<|Vw (ZbE lk lki)<|Vw (Zaj lk lk)<|mw<|?_
 refine sp' (t:=24) gt pt pt (fun hg24=>?_) (fun hg24=>?_)
 ·refine so<|so<|so<|so<|Vw (Zal lk lkb)<|ms<|Zbb lk<|wk'<|?_
  refine Zbe<|Zaq<|Zah<|Zae rz<|rT'<|?_
  refine ivx ?_;unfold locE;simp_all [wi];try omega
 refine sd<|fq<|sd<|Vw (Zaa lk gx gt2)<|sd<|Zad mp (Zh7) pt<|sd<|Vw (ZaE lk)<|Vw (Zaj lk lk)<|ms<|?_
 refine Zav lk (fun hc2=>?_) (fun hc2=>?_)
 ·refine wo<|Zaq<|Zah<|Zae rz<|rT'<|?_
  refine ivx ?_;unfold locE;simp_all [wi];try omega
 refine ZaB<|Zau<|Zan<|wo<|Zae rz<|rT'<|?_
 refine ivx ?_;unfold locE;simp_all [wi];try omega
end
section
open Go.Ab Civ
attribute [local simp] Zbi
section
theorem Zi7 {a0 a1 a2:AV}{l:List AV}:((a0::a1::a2::l).drop 0).take 3=[a0,a1,a2]:=rfl
theorem Zjq {τ:Operand→AV}{y0 y1:Operand}{x0_0 x1_0 x1_1 x1_2:AV}(h0:Zao (τ y0)=some [x0_0]) (l0:[x0_0].all leaf=true) (h1:Zao (τ y1)=some [x1_0,x1_1,x1_2]) (l1:[x1_0,x1_1,x1_2].all leaf=true):Zak τ [(0,1,y0),(1,3,y1)] [(iv 0),(iv 0),(iv 0),(.v (.string ⟨#[]⟩))]=some [x0_0,x1_0,x1_1,x1_2]:=by
 simp only[Zak,h0,l0,h1,l1]
 rfl
theorem Zsz { e:Ent}:([]:AH)++[e]=[e]:=rfl
theorem ZoT {e0 d0:Ent}:([e0]:AH)++[d0]=[e0,d0]:=rfl
theorem ZfT {a0 a1 a2 a3 c0 c1 c2 c3:AV}{l:List AV}:setCells (a0::a1::a2::a3::l) 0 [c0,c1,c2,c3]=c0::c1::c2::c3::l:=rfl
theorem Zsy {a0 a1 a2 a3:AV}{l:List AV}:(a0::a1::a2::a3::l).take 4=[a0,a1,a2,a3]:=rfl
theorem ZfS {a0 a1 a2 a3:AV}{l:List AV}:((a0::a1::a2::a3::l).drop 1).take 3=[a1,a2,a3]:=rfl
theorem Zm4 {a0 b0:Int}{a1 b1:Int}{a2 b2:ByteArray}:Za4 [.int,.int,.str] [iv a0,iv a1,sv a2] [iv b0,iv b1,sv b2]=some (decide (a0=b0∧a1=b1∧a2=b2)):=by
 simp only[Za4,Zc3,if_true,Zb3,Option.some.injEq]
 simp only[Bool.decide_and,Bool.and_true]
 try (congr 1 <;> simp)
 try rfl
theorem ZoS {a0 a1 a2 a3:AV}{l:List AV}:((a0::a1::a2::a3::l).drop 0).take 4=[a0,a1,a2,a3]:=rfl
end
def c60:AC:=(Sr [Oo 1 (.box 38 4 (t 0)),Mc 2 0] (.seq (Sr [Fa 8 3 1,Ld 9 8,Oo 10 (.len false (t 9)),Bc 11 .gtr 10 1000] (Cd 11 (Sr [Mc 2 2] .ret) .skip)) (.seq (Sr [Fa 12 0 1,Oo 13 (.load true 3 (t 12)),Cl 14 106 [(t 13)],Mv 3 14] (Sr [Mv 15 3,Bc 16 .neq 15 0] (Cd 16 (Sr [Mv 17 3,Mv 2 17] .ret) .skip))) (.seq (.drw [Cl 18 104 [],Bc 19 .sub 18 1,Fa 20 0 1,Oo 21 (.load true 3 (t 20)),Oo 22 (.build [(iv 0),(iv 0),(iv 0),Ss] [(0,(1,(t 19))),(1,(3,(t 21)))]),Oo 4 (.new 89 4 [(iv 0),(iv 0),(iv 0),Ss])] [false] [⟨none,none,(.store 4 (t 4) (t 22))⟩]) (.seq (Sr [Fa 23 3 1,Ld 24 23,Oo 25 (.len false (t 24)),Mc 26 0] (.block 0 (.loop (Sr [Bn 27 .lss 26 25] (.seq (Cd 27 .skip (.exit 0)) (.seq (.block 1 (Sr [Oo 28 (.ia 4 (t 24) (t 26)),Oo 29 (.load true 4 (t 28)),Oo 6 (.new 89 4 [(iv 0),(iv 0),(iv 0),Ss]),⟨none,none,(.store 4 (t 6) (t 29))⟩] (.seq (.block 2 (Sr [Fa 31 0 6,Ld 32 31,Cl 33 121 [(t 32)],Oo 34 (.un .not (t 33)),Mv 30 34] (Cd 30 (Sr [Mc 2 3] .ret) (Sr [Fa 36 0 6,Ld 37 36,Fa 38 0 4,Ld 39 38,Bn 40 .leq 37 39,Mv 35 40] (Cd 35 (Sr [Mc 2 4] .ret) .skip))))) (.seq (Sr [Fa 41 1 6,Oo 42 (.load true 3 (t 41)),Cl 43 106 [(t 42)],Mv 7 43] (Sr [Mv 44 7,Bc 45 .neq 44 0] (Cd 45 (Sr [Mv 46 7,Mv 2 46] .ret) .skip))) (.seq (Sr [Fa 47 1 6,Oo 48 (.load true 3 (t 47)),Fa 49 1 4,Oo 50 (.load true 3 (t 49)),Oo 51 (.eqs false [.int,.int,.str] (t 48) (t 50))] (Cd 51 (Sr [Mc 2 4] .ret) .skip)) (.reg [Oo 52 (.load true 4 (t 6)),⟨none,none,(.store 4 (t 4) (t 52))⟩])))))) (.reg [Bc 53 .add 26 1,Mv 26 53]))))))) (Sr [Mc 2 0] .ret))))))
theorem k60:Zaw Tryz.prog 60=some ⟨c60,[(.tmp 2)],54⟩:=by kernel_rfl
theorem Zvk {a b:Int}{c:ByteArray}{l:List Chg}{full:Bool}{h:AH}(hs:c.size≤maxLen) (hl : ∀ x∈l,x.2.2.2.size≤maxLen) :
  Ac 60 [.agg [iv a,iv b,sv c,.sl l.length 4 full (rows chgC l)]] h (iv (Zbd ((a,b,c),l))):=by
 refine tI' k60 fun N hn hlt _ hbd=>?_
 simp only[tb'] at hbd ⊢
 refine wr'<|E' (ZaR cv rfl hl0 ha0) pt<|ms<|Zac<|wr'<|fq<|Vw (Zaa lk gx gt3)<|Vw (ZaA lk)<|Vw (ZbE lk lki)<|Zam<|?_
 refine Zan ?_
 refine cd' lk (fun hc1=>?_) (fun hc1=>?_)
 ·refine wo<|Zah<|Zae rz<|rT'<|?_
  refine ivx ?_;rw[Zbd,if_pos (by simp only;omega)]
 refine za<|Zac<|wr'<|fq<|Vw (Zag lk gx Zi7 rfl)<|Zad mp (ZnJ) pt<|ms<|wm<|?_
 refine Vw (Zba lk lki)<|sn'<|?_
 refine cd' lk (fun hc2=>?_) (fun hc2=>?_)
 ·refine wm<|mr<|Zah<|Zae rz<|rT'<|?_
  refine ivx ?_;rw[Zbd,if_neg (by simp only;omega),if_pos hc2]
 refine za<|?_
 have hE:Zbd ((a,b,c),l)=chk (-62135596801) (a,b,c) l:=by rw[Zbd,if_neg (by simp only;omega),if_neg (by simpa using hc2)]
 refine Zac<|ZaH<|?_
 refine ZaC mp0 (fun hE hX=>ZnL) pt ?_
 refine D' (Za3 lk lki om om) pt ?_
 refine dg<|Dw (Zag lk gx Zi7 rfl)<|Dw (Zat (Zjq cv rfl cv rfl))<|Zc5 rfl rfl (hlk hn rfl) (Zil) pt Zsz<|ZaM<|?_
 refine Zc4 ZoT ?_
 refine E' (Zai lk cv gx rfl nb rfl ZfT hs1) ptn<|sn'<|Zac<|wr'<|fq<|Vw (Zaa lk gx gt3)<|Vw (ZaA lk)<|ms<|Zaf<|?_
 refine w_lp (ι:=Nat×Int×Int×Int×ByteArray) (fun (x_:Nat×Int×Int×Int×ByteArray)=>match x_ with | ⟨k,wa,ws,wv,wn⟩=>[(26,iv (k:Int)),(2,.any),(6,.any),(7,.any)]++rn' 27 27) (fun (x_:Nat×Int×Int×Int×ByteArray)=>match x_ with | ⟨k,wa,ws,wv,wn⟩=>[(1,.mk 0 89 4 [iv wa,iv ws,iv wv,sv wn])]) (fun (x_:Nat×Int×Int×Int×ByteArray)=>match x_ with | ⟨k,wa,ws,wv,wn⟩=>k≤l.length∧Zbd ((a,b,c),l)=chk wa (ws,wv,wn) (l.drop k)) (fun (x_:Nat×Int×Int×Int×ByteArray)=>match x_ with | ⟨k,wa,ws,wv,wn⟩=>l.length-k) (⟨0,-62135596801,a,b,c⟩) (by exact⟨by omega,by rw[hE];simp⟩) ?_
 rintro⟨k,wa,ws,wv,wn⟩ hi1
 try simp only[sm',Nat.reduceAdd]
 obtain⟨hk1,hk2⟩:=hi1
 refine wr'<|Vw (ZaO lk lk)<|sn'<|Zac<|?_
 refine cd' lk (fun hc3=>?_) (fun hc3=>?_)
 ·have hk:k<l.length:=by omega
  have hsz:l[k].2.2.2.size≤maxLen:=hl _ (List.getElem_mem hk)
  rw[List.drop_eq_getElem_cons hk] at hk2
  refine za<|Zac<|Zaf<|wr'<|?_
  refine V' (ZaJ lk lk (fun _=>rfl) nb ro om ro rfl) pt ?_
  refine Vw (Zas lk Zsy rfl)<|E' (ZaV hl2 ha2) pt<|E' (Zai lk cv gx rfl nb rfl ZfT hs2) ptn<|sn'<|Zac<|Zaf<|wr'<|fq<|Vw (Zaa lk gx gt0)<|Zad mp (time_a) pt<|Vw (ZaE lk)<|mw<|?_
  refine sn' ?_
  refine Zav lk (fun hc4=>?_) (fun hc4=>?_)
  ·refine wo<|Zaq<|Zah<|Zaq<|Zah<|Zah<|Zaq<|Zah<|Zae rz<|?_
   refine rT' ?_
   refine ivx ?_;rw[hk2,Zrg (by simpa using hc4)]
  refine wr'<|fq<|Vw (Zaa lk gx gt0)<|fq<|Vw (Zaa lk gx gt0)<|Vw (ZdF lk lk)<|ms<|?_
  refine cd' lk (fun hc5=>?_) (fun hc5=>?_)
  ·refine wo<|Zaq<|Zah<|Zaq<|Zah<|Zah<|Zaq<|Zah<|Zae rz<|?_
   refine rT' ?_
   refine ivx ?_;rw[hk2,Zrf (by simpa using hc4) om]
  refine ZaB<|Zau<|Zan<|Zac<|wr'<|fq<|Vw (Zag lk gx ZfS rfl)<|Zad mp (ZnJ) pt<|ms<|wr'<|?_
  refine mw<|Vw (Zba lk lki)<|sn'<|?_
  refine cd' lk (fun hc6=>?_) (fun hc6=>?_)
  ·refine wm<|mr<|Zah<|Zaq<|Zah<|Zah<|Zaq<|Zah<|Zae rz<|?_
   refine rT' ?_
   refine ivx ?_;rw[hk2,Zre (by simpa using hc4) om hc6]
  refine za<|Zac<|wr'<|fq<|Vw (Zag lk gx ZfS rfl)<|fq<|Vw (Zag lk gx ZfS rfl)<|Vw (Zo3 lk lk Zm4)<|sn'<|?_
  refine cd' lk (fun hc7=>?_) (fun hc7=>?_)
  ·refine wo<|Zah<|Zaq<|Zah<|Zah<|Zaq<|Zah<|Zae rz<|rT'<|?_
   refine ivx ?_;rw[hk2,Zrd (by simpa using hc4) om (by simpa using hc6) (Zmd.2 (by obtain⟨x1,x2,x3⟩:=hc7;exact Prod.ext x1 (Prod.ext x2 x3)))]
  refine za<|Zap<|Vw (Zag lk gx ZoS rfl)<|E' (Zai lk cv gx rfl nb rfl ZfT hs1) ptn<|Zam<|Zau<|Zan<|Zap<|?_
  refine ad<|mw<|Zam<|Zaz<|?_
  refine lU' (⟨k+1,l[k].1,l[k].2.1,l[k].2.2.1,l[k].2.2.2⟩) (by (try dsimp only);exact⟨by omega,by rw[hk2,ZiA (by simpa using hc4) om (by simpa using hc6) (ZpQ (fun e=>hc7 (by rw[e];simp)))]⟩) (by refine zz ?_;exact bk' 2 hn hlt)
 refine Zay<|Zar<|Zar<|ZaN<|Zan<|wo<|Zae rz<|rT'<|?_
 refine ivx ?_;rw[hk2,List.drop_eq_nil_of_le om,chk_nil]
end
section
open Go.Ab
abbrev Bs:=List UInt8
def bA (l:Bs):ByteArray:=⟨l.toArray⟩
def aB (s:ByteArray):Bs:=s.data.toList
theorem aB_len (s:ByteArray):(aB s).length=s.size:=rfl
theorem Zg0 (l:Bs):(bA l).size=l.length:=rfl
theorem Zqt (s:ByteArray) (a b:Nat):s.extract a b=bA (((aB s).drop a).take (b-a)):=by
 apply ByteArray.ext
 rw[ByteArray.data_extract]
 apply Array.ext'
 rw[Array.toList_extract,List.extract_eq_take_drop]
 rfl
theorem Zqg {f:ByteArray}:f=⟨#[]⟩↔f.size=0:=by
 constructor
 ·rintro rfl;rfl
 ·intro h
  exact ByteArray.ext (Array.eq_empty_of_size_eq_zero h)
end
section
open Go.Ab
abbrev strC (s:ByteArray):List AV:=[sv s]
theorem ZcL {n:Nat}(l:List ByteArray):AV.ltL n (rows strC l)=true:=ZcB (fun _ _=>rfl) l
attribute [local simp] ZcL
theorem Zpe : ∀ x,(strC x).length=1:=fun _=>rfl
theorem Zeh (l:List ByteArray):(rows strC l).length=l.length*1:=Zbk Zpe l
end
section
open Go.Ab
def cutC (x:UInt8):Bs→List Bs
 | []=>[[]]
 | c::l=>if c=x then []::cutC x l else match cutC x l with
  | []=>[[c]]
  | y::ys=>(c::y)::ys
theorem Zge {x:UInt8} : ∀ {l:Bs}{i:Nat},Lib.index l [x]=i→cutC x l=l.take i::cutC x (l.drop (i+1))∧i<l.length∧l[i]?=some x
 | [],i,h=>by simp[Lib.index] at h
 | c::l,i,h=>by
  unfold Lib.index at h
  by_cases hc:x=c
  ·subst hc
   simp at h
   obtain rfl:i=0:=by omega
   simp[cutC]
  ·have h0:[x].isPrefixOf (c::l)=false:=by simp[List.isPrefixOf,hc]
   rw[h0] at h
   simp only[Bool.false_eq_true,if_false] at h
   have hge:=Lib.index_ge l [x]
   by_cases e:Lib.index l [x] = -1
   ·rw[if_pos (by simpa using e)] at h;omega
   ·rw[if_neg (by simpa using e)] at h
    obtain⟨j,rfl⟩ : ∃ j,i=j+1:=⟨i-1,by omega⟩
    have hj:Lib.index l [x]=(j:Int):=by
     omega
    obtain⟨h1,h2,h3⟩:=Zge hj
    refine⟨?_,by simp;omega,by simpa using h3⟩
    rw[cutC,if_neg (Ne.symm hc),h1]
    rfl
end
end Go.Proofs.YtfoipaclphdodaaGreatDoor
namespace Go.Ab
section
open Go.RowKit
section
variable {P : Program}
theorem ACalls.of_below {f:FuncId}{args:List AV}{h:AH}{c:AV}(he:enters P f=true)
  (hc : ∀ w g (vs:Array Value),SimH w g h→RepL w g args vs.toList→Calls P f vs w fun e w' => ∃ v,e=.returned v∧Below w.heap.size w w'∧Rep w' g c v):ACalls P f args h fun x h'=>h'=h∧x=.ret c:=by
 refine⟨he,fun w g vs hs ha=>(hc w g vs hs ha).mono ?_⟩
 rintro e w' ⟨v,rfl,hb,hr⟩
 have hold : ∀ k,k<w.heap.size→w'.heap[k]?=w.heap[k]?:=fun k hk=>hb.block k hk
 have hs':SimH w' g h:=hs.world (fun k hk=>hold k (hk.elim (hs.lt k) (fun ho=>(hs.own_not_D ho).2))) hb.size
 exact⟨.ret c,h,g,hr,hs',Gh.le.refl g,⟨hb.os,hb.tape,hb.output,hb.size,fun k hk _=>hold k hk⟩,fun k hk=>.inl hk,rfl,rfl⟩
end
end
end Go.Ab
namespace Go.Proofs
section
open Go.Shelf
def Tryz.lays137_ren:Go.Shelf.Ren:=⟨fun | 137=>120 | 217=>208 | 266=>261 | n=>n,fun | 9=>9 | 5=>5 | 3=>3 | n=>n,fun | n=>n⟩
theorem Tryz.lays137:Go.Proofs.Lays.n137 Tryz.prog Tryz.lays137_ren:={
 mixed:=by kernel_rfl
 f137:=Tryz.func120.trans (congrArg some (by kernel_rfl))
 f217:=Tryz.func208.trans (congrArg some (by kernel_rfl))
 f266:=Tryz.func261.trans (congrArg some (by kernel_rfl))
 t3:=Tryz.underlying3
 a3:=Tryz.isAgg3
 z3:=Tryz.sizeOf3
 v3:=Tryz.zeroValue3
 t5:=Tryz.underlying5
 a5:=Tryz.isAgg5
 z5:=Tryz.sizeOf5
 v5:=Tryz.zeroValue5
 t9:=Tryz.underlying9
 a9:=Tryz.isAgg9
 z9:=Tryz.sizeOf9
 v9:=Tryz.zeroValue9 }
open Go.RowKit in
theorem Tryz.strings_IndexByte (s:ByteArray) (c:Int) (w:World) :
  Calls Tryz.prog 120 #[.string s,.int .u8 c] w fun e w'=>e=.returned (.int .i64 (Lib.indexByte s.data.toList c.toNat.toUInt8))∧w'=w:=Any.strings_IndexByte Tryz.lays137 s c w
def Tryz.lays145_ren:Go.Shelf.Ren:=⟨fun | 145=>310 | 220=>320 | 219=>329 | 217=>208 | 225=>335 | 224=>336 | 267=>337 | 266=>261 | 314=>340 | n=>n,fun | 9=>9 | 4=>4 | 59=>331 | 3=>3 | 5=>5 | 46=>154 | 146=>360 | 51=>250 | n=>n,fun | 1=>0 | n=>n⟩
theorem Tryz.lays145:Go.Proofs.Lays.n145 Tryz.prog Tryz.lays145_ren:={
 mixed:=by kernel_rfl
 f145:=Tryz.func310.trans (congrArg some (by kernel_rfl))
 f217:=Tryz.func208.trans (congrArg some (by kernel_rfl))
 f219:=Tryz.func329.trans (congrArg some (by kernel_rfl))
 f220:=Tryz.func320.trans (congrArg some (by kernel_rfl))
 f224:=Tryz.func336.trans (congrArg some (by kernel_rfl))
 f225:=Tryz.func335.trans (congrArg some (by kernel_rfl))
 f266:=Tryz.func261.trans (congrArg some (by kernel_rfl))
 f267:=Tryz.func337.trans (congrArg some (by kernel_rfl))
 f314:=Tryz.func340.trans (congrArg some (by kernel_rfl))
 t3:=Tryz.underlying3
 a3:=Tryz.isAgg3
 z3:=Tryz.sizeOf3
 v3:=Tryz.zeroValue3
 t4:=Tryz.underlying4
 a4:=Tryz.isAgg4
 z4:=Tryz.sizeOf4
 v4:=Tryz.zeroValue4
 t5:=Tryz.underlying5
 a5:=Tryz.isAgg5
 z5:=Tryz.sizeOf5
 v5:=Tryz.zeroValue5
 t9:=Tryz.underlying9
 a9:=Tryz.isAgg9
 z9:=Tryz.sizeOf9
 v9:=Tryz.zeroValue9
 t46:=Tryz.underlying154
 a46:=Tryz.isAgg154
 z46:=Tryz.sizeOf154
 v46:=Tryz.zeroValue154
 t51:=Tryz.underlying250
 a51:=Tryz.isAgg250
 z51:=Tryz.sizeOf250
 v51:=Tryz.zeroValue250
 t59:=Tryz.underlying331
 a59:=Tryz.isAgg331
 z59:=Tryz.sizeOf331
 v59:=Tryz.zeroValue331
 t146:=Tryz.underlying360
 a146:=Tryz.isAgg360
 z146:=Tryz.sizeOf360
 v146:=Tryz.zeroValue360
 g1:=by kernel_rfl }
open Go.RowKit Go.Lib in
theorem Tryz.strings_Cut (s sep:ByteArray) (m:Int) (w:World) (hs:s.size<4294967281) (hm:w.cell? ⟨0,0,none⟩=some (.int .i64 m)) :
  Calls Tryz.prog 310 #[.string s,.string sep] w fun e w'=>e=.returned (.tuple #[.string ⟨(Lib.cut s.data.toList sep.data.toList).1.toArray⟩,.string ⟨(Lib.cut s.data.toList sep.data.toList).2.1.toArray⟩,.bool (Lib.cut s.data.toList sep.data.toList).2.2]) ∧ ∃ n,w'=w.drewN n:=Any.strings_Cut Tryz.lays145 s sep m w hs hm
def Tryz.lays190_ren:Go.Shelf.Ren:=⟨fun | 190=>160 | 125=>100 | 258=>237 | 128=>183 | 129=>184 | 302=>284 | 303=>285 | 304=>286 | 305=>287 | 306=>288 | 307=>289 | 308=>290 | 309=>291 | 310=>292 | 333=>311 | 329=>245 | 330=>246 | 334=>312 | 335=>313 | 336=>101 | 344=>321 | n=>n,fun | 31=>27 | 9=>9 | 3=>3 | 46=>154 | 0=>0 | 51=>250 | 53=>252 | 4=>4 | 183=>244 | 182=>243 | 131=>108 | 5=>5 | 218=>292 | 222=>296 | 228=>326 | 229=>284 | n=>n,fun | n=>n⟩
theorem Tryz.lays190:Go.Proofs.Lays.n190 Tryz.prog Tryz.lays190_ren:={
 mixed:=by kernel_rfl
 f125:=Tryz.func100.trans (congrArg some (by kernel_rfl))
 f128:=Tryz.func183.trans (congrArg some (by kernel_rfl))
 f129:=Tryz.func184.trans (congrArg some (by kernel_rfl))
 f190:=Tryz.func160.trans (congrArg some (by kernel_rfl))
 f258:=Tryz.func237.trans (congrArg some (by kernel_rfl))
 f302:=Tryz.func284.trans (congrArg some (by kernel_rfl))
 f303:=Tryz.func285.trans (congrArg some (by kernel_rfl))
 f304:=Tryz.func286.trans (congrArg some (by kernel_rfl))
 f305:=Tryz.func287.trans (congrArg some (by kernel_rfl))
 f306:=Tryz.func288.trans (congrArg some (by kernel_rfl))
 f307:=Tryz.func289.trans (congrArg some (by kernel_rfl))
 f308:=Tryz.func290.trans (congrArg some (by kernel_rfl))
 f309:=Tryz.func291.trans (congrArg some (by kernel_rfl))
 f310:=Tryz.func292.trans (congrArg some (by kernel_rfl))
 f329:=Tryz.func245.trans (congrArg some (by kernel_rfl))
 f330:=Tryz.func246.trans (congrArg some (by kernel_rfl))
 f333:=Tryz.func311.trans (congrArg some (by kernel_rfl))
 f334:=Tryz.func312.trans (congrArg some (by kernel_rfl))
 f335:=Tryz.func313.trans (congrArg some (by kernel_rfl))
 f336:=Tryz.func101.trans (congrArg some (by kernel_rfl))
 f344:=Tryz.func321.trans (congrArg some (by kernel_rfl))
 t0:=Tryz.underlying0
 a0:=Tryz.isAgg0
 z0:=Tryz.sizeOf0
 v0:=Tryz.zeroValue0
 t3:=Tryz.underlying3
 a3:=Tryz.isAgg3
 z3:=Tryz.sizeOf3
 v3:=Tryz.zeroValue3
 t4:=Tryz.underlying4
 a4:=Tryz.isAgg4
 z4:=Tryz.sizeOf4
 v4:=Tryz.zeroValue4
 t5:=Tryz.underlying5
 a5:=Tryz.isAgg5
 z5:=Tryz.sizeOf5
 v5:=Tryz.zeroValue5
 t9:=Tryz.underlying9
 a9:=Tryz.isAgg9
 z9:=Tryz.sizeOf9
 v9:=Tryz.zeroValue9
 t31:=Tryz.underlying27
 a31:=Tryz.isAgg27
 z31:=Tryz.sizeOf27
 v31:=Tryz.zeroValue27
 t46:=Tryz.underlying154
 a46:=Tryz.isAgg154
 z46:=Tryz.sizeOf154
 v46:=Tryz.zeroValue154
 t51:=Tryz.underlying250
 a51:=Tryz.isAgg250
 z51:=Tryz.sizeOf250
 v51:=Tryz.zeroValue250
 t53:=Tryz.underlying252
 a53:=Tryz.isAgg252
 z53:=Tryz.sizeOf252
 v53:=Tryz.zeroValue252
 t131:=Tryz.underlying108
 a131:=Tryz.isAgg108
 z131:=Tryz.sizeOf108
 v131:=Tryz.zeroValue108
 t182:=Tryz.underlying243
 a182:=Tryz.isAgg243
 z182:=Tryz.sizeOf243
 v182:=Tryz.zeroValue243
 t183:=Tryz.underlying244
 a183:=Tryz.isAgg244
 z183:=Tryz.sizeOf244
 v183:=Tryz.zeroValue244
 t218:=Tryz.underlying292
 a218:=Tryz.isAgg292
 z218:=Tryz.sizeOf292
 v218:=Tryz.zeroValue292
 t222:=Tryz.underlying296
 a222:=Tryz.isAgg296
 z222:=Tryz.sizeOf296
 v222:=Tryz.zeroValue296
 t228:=Tryz.underlying326
 a228:=Tryz.isAgg326
 z228:=Tryz.sizeOf326
 v228:=Tryz.zeroValue326
 t229:=Tryz.underlying284
 a229:=Tryz.isAgg284
 z229:=Tryz.sizeOf284
 v229:=Tryz.zeroValue284 }
open Go.Sort Go.RowKit in
theorem Tryz.slices_Sort_string (blk off cap:Nat) (ss:List (List UInt8)) (w:World) (hH:Holds encStr w blk off ss.toArray) (hblk:blk<w.heap.size) (hsz:ss.length<4611686018427387904) :
  Calls Tryz.prog 160 #[.slice (some ⟨blk,off,none⟩) ss.length cap] w fun e w' =>
   e=.returned (.tuple #[]) ∧ ∃ n os,w'=grow (putRow encStr (Sort.ahead w n) blk off (ss.mergeSort fun x y=>decide (x≤y)).toArray) os:=Any.slices_Sort_string Tryz.lays190 blk off cap ss w hH hblk hsz
def Tryz.lays154_ren:Go.Shelf.Ren:=⟨fun | 154=>317 | 138=>323 | 165=>324 | 143=>325 | 166=>326 | 197=>327 | 169=>328 | 195=>330 | 218=>331 | 240=>332 | 241=>333 | 219=>329 | 260=>334 | 276=>338 | 277=>339 | 217=>208 | 225=>335 | 224=>336 | 267=>337 | 266=>261 | 314=>340 | n=>n,fun | 9=>9 | 3=>3 | 4=>4 | 72=>344 | 0=>0 | 76=>348 | 105=>350 | 21=>21 | 5=>5 | 70=>342 | 20=>20 | 37=>198 | 75=>347 | 127=>352 | 164=>353 | 46=>154 | 119=>356 | 139=>359 | 138=>358 | 146=>360 | 51=>250 | 80=>214 | n=>n,fun | 1=>0 | 3=>1 | 4=>2 | n=>n⟩
theorem Tryz.lays154:Go.Proofs.Lays.n154 Tryz.prog Tryz.lays154_ren:={
 mixed:=by kernel_rfl
 f138:=Tryz.func323.trans (congrArg some (by kernel_rfl))
 f143:=Tryz.func325.trans (congrArg some (by kernel_rfl))
 f154:=Tryz.func317.trans (congrArg some (by kernel_rfl))
 f165:=Tryz.func324.trans (congrArg some (by kernel_rfl))
 f166:=Tryz.func326.trans (congrArg some (by kernel_rfl))
 f169:=Tryz.func328.trans (congrArg some (by kernel_rfl))
 f195:=Tryz.func330.trans (congrArg some (by kernel_rfl))
 f197:=Tryz.func327.trans (congrArg some (by kernel_rfl))
 f217:=Tryz.func208.trans (congrArg some (by kernel_rfl))
 f218:=Tryz.func331.trans (congrArg some (by kernel_rfl))
 f219:=Tryz.func329.trans (congrArg some (by kernel_rfl))
 f224:=Tryz.func336.trans (congrArg some (by kernel_rfl))
 f225:=Tryz.func335.trans (congrArg some (by kernel_rfl))
 f240:=Tryz.func332.trans (congrArg some (by kernel_rfl))
 f241:=Tryz.func333.trans (congrArg some (by kernel_rfl))
 f260:=Tryz.func334.trans (congrArg some (by kernel_rfl))
 f266:=Tryz.func261.trans (congrArg some (by kernel_rfl))
 f267:=Tryz.func337.trans (congrArg some (by kernel_rfl))
 f276:=Tryz.func338.trans (congrArg some (by kernel_rfl))
 f277:=Tryz.func339.trans (congrArg some (by kernel_rfl))
 f314:=Tryz.func340.trans (congrArg some (by kernel_rfl))
 t0:=Tryz.underlying0
 a0:=Tryz.isAgg0
 z0:=Tryz.sizeOf0
 v0:=Tryz.zeroValue0
 t3:=Tryz.underlying3
 a3:=Tryz.isAgg3
 z3:=Tryz.sizeOf3
 v3:=Tryz.zeroValue3
 t4:=Tryz.underlying4
 a4:=Tryz.isAgg4
 z4:=Tryz.sizeOf4
 v4:=Tryz.zeroValue4
 t5:=Tryz.underlying5
 a5:=Tryz.isAgg5
 z5:=Tryz.sizeOf5
 v5:=Tryz.zeroValue5
 t9:=Tryz.underlying9
 a9:=Tryz.isAgg9
 z9:=Tryz.sizeOf9
 v9:=Tryz.zeroValue9
 t20:=Tryz.underlying20
 a20:=Tryz.isAgg20
 z20:=Tryz.sizeOf20
 v20:=Tryz.zeroValue20
 t21:=Tryz.underlying21
 a21:=Tryz.isAgg21
 z21:=Tryz.sizeOf21
 v21:=Tryz.zeroValue21
 t37:=Tryz.underlying198
 a37:=Tryz.isAgg198
 z37:=Tryz.sizeOf198
 v37:=Tryz.zeroValue198
 t46:=Tryz.underlying154
 a46:=Tryz.isAgg154
 z46:=Tryz.sizeOf154
 v46:=Tryz.zeroValue154
 t51:=Tryz.underlying250
 a51:=Tryz.isAgg250
 z51:=Tryz.sizeOf250
 v51:=Tryz.zeroValue250
 t70:=Tryz.underlying342
 a70:=Tryz.isAgg342
 z70:=Tryz.sizeOf342
 v70:=Tryz.zeroValue342
 t72:=Tryz.underlying344
 a72:=Tryz.isAgg344
 z72:=Tryz.sizeOf344
 v72:=Tryz.zeroValue344
 t75:=Tryz.underlying347
 a75:=Tryz.isAgg347
 z75:=Tryz.sizeOf347
 v75:=Tryz.zeroValue347
 t76:=Tryz.underlying348
 a76:=Tryz.isAgg348
 z76:=Tryz.sizeOf348
 v76:=Tryz.zeroValue348
 t105:=Tryz.underlying350
 a105:=Tryz.isAgg350
 z105:=Tryz.sizeOf350
 v105:=Tryz.zeroValue350
 t119:=Tryz.underlying356
 a119:=Tryz.isAgg356
 z119:=Tryz.sizeOf356
 t127:=Tryz.underlying352
 a127:=Tryz.isAgg352
 z127:=Tryz.sizeOf352
 v127:=Tryz.zeroValue352
 t138:=Tryz.underlying358
 a138:=Tryz.isAgg358
 z138:=Tryz.sizeOf358
 v138:=Tryz.zeroValue358
 t139:=Tryz.underlying359
 a139:=Tryz.isAgg359
 z139:=Tryz.sizeOf359
 v139:=Tryz.zeroValue359
 t146:=Tryz.underlying360
 a146:=Tryz.isAgg360
 z146:=Tryz.sizeOf360
 v146:=Tryz.zeroValue360
 t164:=Tryz.underlying353
 a164:=Tryz.isAgg353
 z164:=Tryz.sizeOf353
 v164:=Tryz.zeroValue353
 g1:=by kernel_rfl
 g3:=by kernel_rfl
 g4:=by kernel_rfl }
theorem Tryz.Builder_Extra_154:Builder.Extra Tryz.prog Tryz.lays154_ren:={
 sizeBuilder:=by kernel_rfl
 liesBuilder:=by kernel_rfl
 t5:=Tryz.underlying5
 a5:=Tryz.isAgg5
 z5:=Tryz.sizeOf5
 v5:=Tryz.zeroValue5
 infoByte:=by kernel_rfl
 cellsByte:=by kernel_rfl
 sizeByte:=by kernel_rfl
 neB5:=by decide }
open Go.RowKit Go.Lib in
theorem Tryz.strings_Replace (s old new:ByteArray) (n:Int) (m:Int) (w:World) (hs:s.size<4294967281) (hm:w.cell? ⟨0,0,none⟩=some (.int .i64 m)) (h1:1≤old.size) (hlen:s.size+Lib.countB s old*new.size≤140737488355328) :
  Calls Tryz.prog 317 #[.string s,.string old,.string new,.int .i64 n] w fun e w' =>
   e=.returned (.string ⟨(Lib.replace s.data.toList old.data.toList new.data.toList n).toArray⟩)∧Below w.heap.size w w':=Any.strings_Replace Tryz.lays154 Tryz.Builder_Extra_154 s old new n m w hs hm h1 hlen
def Tryz.lays194_ren:Go.Shelf.Ren:=⟨fun | 194=>161 | n=>n,fun | 31=>27 | 9=>9 | 3=>3 | 4=>4 | 0=>0 | n=>n,fun | n=>n⟩
theorem Tryz.lays194:Go.Proofs.Lays.n194 Tryz.prog Tryz.lays194_ren:={
 mixed:=by kernel_rfl
 f194:=Tryz.func161.trans (congrArg some (by kernel_rfl))
 t0:=Tryz.underlying0
 a0:=Tryz.isAgg0
 z0:=Tryz.sizeOf0
 v0:=Tryz.zeroValue0
 t3:=Tryz.underlying3
 a3:=Tryz.isAgg3
 z3:=Tryz.sizeOf3
 v3:=Tryz.zeroValue3
 t4:=Tryz.underlying4
 a4:=Tryz.isAgg4
 z4:=Tryz.sizeOf4
 v4:=Tryz.zeroValue4
 t9:=Tryz.underlying9
 a9:=Tryz.isAgg9
 z9:=Tryz.sizeOf9
 v9:=Tryz.zeroValue9
 t31:=Tryz.underlying27
 a31:=Tryz.isAgg27
 z31:=Tryz.sizeOf27
 v31:=Tryz.zeroValue27 }
open Go.RowKit Go.Lib Go.Sort in
theorem Tryz.slices_Compact_string (blk off cap:Nat) (zs:List (List UInt8)) (w:World) (hH:Holds encStr w blk off zs.toArray) (hsz:zs.length≤9223372036854775807) (hcap:zs.length≤cap) :
  Calls Tryz.prog 161 #[.slice (some ⟨blk,off,none⟩) zs.length cap] w fun e w'=>e=.returned (.slice (some ⟨blk,off,none⟩) (Lib.compact zs).length cap) ∧ ∃ q,w'=putRow encStr (Sort.ahead w q) blk off (Lib.compact zs++List.replicate (zs.length-(Lib.compact zs).length) []).toArray:=Any.slices_Compact_string Tryz.lays194 blk off cap zs w hH hsz hcap
open Go.RowKit Go.Lib Go.Sort in
theorem Tryz.slices_Compact_string_empty (a:Option Addr) (cap:Nat) (w:World) :
  Calls Tryz.prog 161 #[.slice a 0 cap] w fun e w'=>e=.returned (.slice a 0 cap)∧w'=w:=Any.slices_Compact_string_empty Tryz.lays194 a cap w
open Go.RowKit Go.Sort in
theorem Tryz.slices_Sort_string_none (p:Option Addr) (cap:Nat) (w:World) :
  Calls Tryz.prog 160 #[.slice p 0 cap] w fun e w'=>e=.returned (.tuple #[])∧w'=w:=Any.slices_Sort_string_none Tryz.lays190 p cap w
end
end Go.Proofs
namespace Go.Proofs.YtfoipaclphdodaaGreatDoor
section
open Go.Ab
attribute [local simp] ZcL
def c132:AC:=(Sr [Mb 6 false] (Sr [Mv 7 0,Mv 8 1,Bn 9 .geq 7 8,Mv 10 9,Ot 11 10 (mt 0),Ot 12 10 (mt 2),Ot 13 10 (.bin .leq (t 11) (t 12)),Oo 14 (.pick (t 10) (t 13) (.const (.bool false))),Mv 6 14] .ret))
theorem k132:Zaw Tryz.prog 132=some ⟨c132,[(.tmp 6)],15⟩:=by kernel_rfl
theorem Zek {n a b:Int}{h:AH}:Ac 132 [iv n,iv a,iv b] h (bv (wi n a b)):=by
 refine tI' k132 fun N hn _ _ hbd=>?_
 simp only[tb'] at hbd ⊢
 refine wk'<|wm<|mw<|Vw (ZfC lk lk)<|mw<|?_
 refine sp' (t:=10) gt pt pt (fun hg10=>?_) (fun hg10=>?_)
 ·refine sd<|mw<|sd<|mw<|sd<|Vw (ZdF lk lk)<|Vw (Zal lk lk)<|mr<|Zae rz<|rT'<|?_
  refine bvx ?_;unfold wi;rw[Bool.eq_iff_iff];simp;omega
 refine so<|so<|so<|Vw (Zaj lk lkb)<|mr<|Zae rz<|rT'<|?_
 refine bvx ?_;unfold wi;rw[Bool.eq_iff_iff];simp;omega
end
section
open Go.Ab
abbrev Dat:=Int×Int×Int
abbrev Frm:=Int×Int×Int
abbrev Rul:=ByteArray×Int×Int×Int×Frm×Int×Int×Int×ByteArray
abbrev Unt:=Dat×Int×Int
abbrev Era:=Int×ByteArray×Int×ByteArray×Bool×Unt
abbrev Zon:=ByteArray×List Era
abbrev Lnk:=ByteArray×ByteArray
abbrev Src:=List Rul×List Zon×List Lnk
set_option synthInstance.maxSize 4096 in
instance decEra:DecidableEq Era:=inferInstance
set_option synthInstance.maxSize 4096 in
instance decRul:DecidableEq Rul:=inferInstance
instance decZon:DecidableEq Zon:=inferInstance
instance decLnk:DecidableEq Lnk:=inferInstance
instance decSrc:DecidableEq Src:=inferInstance
abbrev rulC (r:Rul):List AV:=[sv r.1,iv r.2.1,iv r.2.2.1,iv r.2.2.2.1,iv r.2.2.2.2.1.1,iv r.2.2.2.2.1.2.1,iv r.2.2.2.2.1.2.2,iv r.2.2.2.2.2.1,iv r.2.2.2.2.2.2.1,iv r.2.2.2.2.2.2.2.1,sv r.2.2.2.2.2.2.2.2]
abbrev eraC (x:Era):List AV:=[iv x.1,sv x.2.1,iv x.2.2.1,sv x.2.2.2.1,bv x.2.2.2.2.1,iv x.2.2.2.2.2.1.1,iv x.2.2.2.2.2.1.2.1,iv x.2.2.2.2.2.1.2.2,iv x.2.2.2.2.2.2.1,iv x.2.2.2.2.2.2.2]
abbrev zonC (z:Zon):List AV:=[sv z.1,.sl z.2.length 10 false (rows eraC z.2)]
abbrev lnkC (l:Lnk):List AV:=[sv l.1,sv l.2]
abbrev srcC (s:Src):List AV:=[.sl s.1.length 11 false (rows rulC s.1),.sl s.2.1.length 2 false (rows zonC s.2.1),.sl s.2.2.length 2 false (rows lnkC s.2.2)]
theorem ZbL {n:Nat}(l:List Rul):AV.ltL n (rows rulC l)=true:=ZcB (fun n x=>by simp[AV.ltL,AV.lt]) l
theorem Zce {n:Nat}(l:List Era):AV.ltL n (rows eraC l)=true:=ZcB (fun n x=>by simp[AV.ltL,AV.lt]) l
theorem ZbZ {n:Nat}(l:List Zon):AV.ltL n (rows zonC l)=true:=ZcB (fun n x=>by simp[AV.ltL,AV.lt,Zce]) l
theorem Zbv {n:Nat}(l:List Lnk):AV.ltL n (rows lnkC l)=true:=ZcB (fun n x=>by simp[AV.ltL,AV.lt]) l
theorem Zcq : ∀ x,(rulC x).length=11:=fun _=>rfl
theorem ZcV : ∀ x,(eraC x).length=10:=fun _=>rfl
theorem Zcp : ∀ x,(zonC x).length=2:=fun _=>rfl
theorem Zbf : ∀ x,(lnkC x).length=2:=fun _=>rfl
theorem Zm7 (l:List Zon):(rows zonC l).length=l.length*2:=Zbk Zcp l
theorem Zeo (l:List Lnk):(rows lnkC l).length=l.length*2:=Zbk Zbf l
theorem ZpR (l:List Lnk):(rows lnkC l).all leaf=true:=ZdZ (fun _=>rfl) l
end
section
open Go.Ab Go.RowKit
theorem Zof {w w':World}(h:Below w.heap.size w w') : ∀ n:Nat,Below w.heap.size w (w'.drewN n)
 | n=>⟨h.os,h.tape,h.output,h.size,h.block⟩
theorem ZnQ {s:ByteArray}{n:Int}{h:AH}:Ac 120 [sv s,uv n] h (iv (Lib.indexByte (aB s) n.toNat.toUInt8)):=by
 refine ACalls.of_below (by kernel_rfl) fun w g vs hs ha=>?_
 simp only[RepL,Rep] at ha
 obtain⟨u1,us1,e1,rfl,u2,us2,rfl,rfl,rfl⟩:=ha
 obtain rfl:vs = #[.string s,.int .u8 n]:=by cases vs;simp_all
 refine (Tryz.strings_IndexByte s n w).mono ?_
 rintro e w' ⟨rfl,rfl⟩
 refine⟨_,rfl,Below.refl _ _,?_⟩
 simp only[Rep];rfl
theorem cut_a {s p:ByteArray}{h:AH}(hz:s.size<4294967281):Ac 310 [sv s,sv p] h (.tup [sv (bA (Lib.cut (aB s) (aB p)).1),sv (bA (Lib.cut (aB s) (aB p)).2.1),bv (Lib.cut (aB s) (aB p)).2.2]):=by
 refine ACalls.of_below (by kernel_rfl) fun w g vs hs ha=>?_
 simp only[RepL,Rep] at ha
 obtain⟨u1,us1,e1,rfl,u2,us2,rfl,rfl,rfl⟩:=ha
 obtain rfl:vs = #[.string s,.string p]:=by cases vs;simp_all
 obtain⟨m,hm⟩:=hs.glob.w.maxLen
 refine (Tryz.strings_Cut s p m w hz hm).mono ?_
 rintro e w' ⟨rfl,n,rfl⟩
 refine⟨_,rfl,Zof (Below.refl _ _) n,?_⟩
 simp only[Rep,RepL]
 exact⟨_,rfl,_,_,rfl,rfl,_,_,rfl,rfl,_,_,rfl,rfl,rfl⟩
end
section
open Go.Ab Civ
section
theorem Zjs {τ:Operand→AV}{y0 y1 y2 y3 y4 y5 y6 y7 y8 y9 y10 y11:Operand}{x0_0 x1_0 x2_0 x3_0 x4_0 x5_0 x6_0 x7_0 x8_0 x9_0 x10_0 x11_0:AV}(h0:Zao (τ y0)=some [x0_0]) (l0:[x0_0].all leaf=true) (h1:Zao (τ y1)=some [x1_0]) (l1:[x1_0].all leaf=true) (h2:Zao (τ y2)=some [x2_0]) (l2:[x2_0].all leaf=true) (h3:Zao (τ y3)=some [x3_0]) (l3:[x3_0].all leaf=true) (h4:Zao (τ y4)=some [x4_0]) (l4:[x4_0].all leaf=true) (h5:Zao (τ y5)=some [x5_0]) (l5:[x5_0].all leaf=true) (h6:Zao (τ y6)=some [x6_0]) (l6:[x6_0].all leaf=true) (h7:Zao (τ y7)=some [x7_0]) (l7:[x7_0].all leaf=true) (h8:Zao (τ y8)=some [x8_0]) (l8:[x8_0].all leaf=true) (h9:Zao (τ y9)=some [x9_0]) (l9:[x9_0].all leaf=true) (h10:Zao (τ y10)=some [x10_0]) (l10:[x10_0].all leaf=true) (h11:Zao (τ y11)=some [x11_0]) (l11:[x11_0].all leaf=true):Zak τ [(0,1,y0),(1,1,y1),(2,1,y2),(3,1,y3),(4,1,y4),(5,1,y5),(6,1,y6),(7,1,y7),(8,1,y8),(9,1,y9),(10,1,y10),(11,1,y11)] [(iv 0),(iv 0),(iv 0),(iv 0),(iv 0),(iv 0),(iv 0),(iv 0),(iv 0),(iv 0),(iv 0),(iv 0)]=some [x0_0,x1_0,x2_0,x3_0,x4_0,x5_0,x6_0,x7_0,x8_0,x9_0,x10_0,x11_0]:=by
 simp only[Zak,h0,l0,h1,l1,h2,l2,h3,l3,h4,l4,h5,l5,h6,l6,h7,l7,h8,l8,h9,l9,h10,l10,h11,l11]
 rfl
theorem Zec {a0 a1 a2:AV}{l:List AV}:((a0::a1::a2::l).drop 0).take 3=[a0,a1,a2]:=rfl
theorem Zm6 {τ:Operand→AV}{y0 y1 y2:Operand}{x0_0 x1_0 x2_0:AV}(h0:Zao (τ y0)=some [x0_0]) (l0:[x0_0].all leaf=true) (h1:Zao (τ y1)=some [x1_0]) (l1:[x1_0].all leaf=true) (h2:Zao (τ y2)=some [x2_0]) (l2:[x2_0].all leaf=true):Zak τ [(0,1,y0),(1,1,y1),(2,1,y2)] [(iv 0),(iv 0),(iv 0)]=some [x0_0,x1_0,x2_0]:=by
 simp only[Zak,h0,l0,h1,l1,h2,l2]
 rfl
theorem Zhb {a0 a1 a2 c0 c1 c2:AV}{l:List AV}:setCells (a0::a1::a2::l) 0 [c0,c1,c2]=c0::c1::c2::l:=rfl
theorem Zv9 {τ:Operand→AV}:Zak τ [] [(iv 0),(iv 0),(iv 0)]=some [(iv 0),(iv 0),(iv 0)]:=rfl
end
def c218:AC:=(Sr [Mb 6 false] (Sr [Mv 7 0,Mv 8 1,Bn 9 .geq 7 8,Mv 10 9,Ot 11 10 (mt 0),Ot 12 10 (mt 2),Ot 13 10 (.bin .leq (t 11) (t 12)),Oo 14 (.pick (t 10) (t 13) (.const (.bool false))),Mv 6 14] .ret))
theorem k218:Zaw Tryz.prog 218=some ⟨c218,[(.tmp 6)],15⟩:=by kernel_rfl
def c267:AC:=(Sr [Mb 2 false] (Sr [Mv 3 0,Bc 4 .rem 3 4,Bc 5 .eql 4 0,Mv 6 5,Ot 7 6 (mt 0),Ot 8 6 (.bin .rem (t 7) (Ci 100)),Ot 9 6 (.bin .neq (t 8) (Ci 0)),Ot 10 6 (mt 9),Of 11 10 (mt 0),Of 12 10 (.bin .rem (t 11) (Ci 400)),Of 13 10 (.bin .eql (t 12) (Ci 0)),Ot 14 6 (.pick (t 10) (.const (.bool true)) (t 13)),Oo 15 (.pick (t 6) (t 14) (.const (.bool false))),Mv 2 15] .ret))
theorem k267:Zaw Tryz.prog 267=some ⟨c267,[(.tmp 2)],16⟩:=by kernel_rfl
def c266:AC:=(Sr [Oo 0 (.mv (.const (.slice none 0 0)))] (Sr [Oo 1 (.lit 3 1 12 [(iv 0),(iv 0),(iv 0),(iv 0),(iv 0),(iv 0),(iv 0),(iv 0),(iv 0),(iv 0),(iv 0),(iv 0)] [(0,(1,(Ci 31))),(1,(1,(Ci 28))),(2,(1,(Ci 31))),(3,(1,(Ci 30))),(4,(1,(Ci 31))),(5,(1,(Ci 30))),(6,(1,(Ci 31))),(7,(1,(Ci 31))),(8,(1,(Ci 30))),(9,(1,(Ci 31))),(10,(1,(Ci 30))),(11,(1,(Ci 31)))]),Mv 0 1] .ret))
theorem k266:Zaw Tryz.prog 266=some ⟨c266,[(.tmp 0)],2⟩:=by kernel_rfl
def c219:AC:=(Sr [Mc 4 0] (Sr [Cl 6 266 [],Mv 7 1,Bc 8 .sub 7 1,Oo 9 (.ia 1 (t 6) (t 8)),Ld 10 9,Mv 5 10] (.seq (Sr [Mv 11 1,Bc 12 .eql 11 2,Mv 13 12,Ot 14 13 (mt 0),Ot 15 13 (.call (.func 267) [(t 14)]),Oo 16 (.pick (t 13) (t 15) (.const (.bool false)))] (Cd 16 (.reg [Mv 17 5,Bc 18 .add 17 1,Mv 5 18]) .skip)) (Sr [Mv 19 5,Mv 4 19] .ret))))
theorem k219:Zaw Tryz.prog 219=some ⟨c219,[(.tmp 4)],20⟩:=by kernel_rfl
def c143:AC:=(Sr [Oo 1 (.box 79 3 (t 0)),Mc 2 0] (Sd [Fa 5 0 1,Ld 6 5,Cl 7 220 [(t 6)],Cl 8 221 [],Bn 9 .sub 7 8,Fa 10 2 1,Ld 11 10,Bn 12 .add 9 11,Bc 13 .sub 12 1,Mv 3 13] (.seq (Sr [Mc 4 1] (.block 0 (.loop (.seq (Sr [Mv 14 4,Fa 15 1 1,Ld 16 15,Bn 17 .lss 14 16] (Cd 17 .skip (.exit 0))) (.seq (.block 1 (.reg [Mv 20 3,Fa 21 0 1,Ld 22 21,Mv 23 4,Cl 24 219 [(t 22),(t 23)],Bn 25 .add 20 24,Mv 3 25])) (.reg [Mv 18 4,Bc 19 .add 18 1,Mv 4 19])))))) (Sr [Mv 26 3,Mv 2 26] .ret))))
theorem k143:Zaw Tryz.prog 143=some ⟨c143,[(.tmp 2)],27⟩:=by kernel_rfl
def c142:AC:=(Sr [Oo 1 (.box 79 3 (t 0)),Mb 2 false] (Sd [Fa 3 0 1,Ld 4 3,Cl 5 218 [(t 4),(Ci 1),(Ci 9999)],Mv 6 5,Ot 7 6 (.fa 1 (t 1)),Ot 8 6 (.load false 1 (t 7)),Ot 9 6 (.call (.func 218) [(t 8),(Ci 1),(Ci 12)]),Oo 10 (.pick (t 6) (t 9) (.const (.bool false))),Mv 11 10,Ot 12 11 (.fa 2 (t 1)),Ot 13 11 (.load false 1 (t 12)),Ot 14 11 (.fa 0 (t 1)),Ot 15 11 (.load false 1 (t 14)),Ot 16 11 (.fa 1 (t 1)),Ot 17 11 (.load false 1 (t 16)),Ot 18 11 (.call (.func 219) [(t 15),(t 17)]),Ot 19 11 (.call (.func 218) [(t 13),(Ci 1),(t 18)]),Oo 20 (.pick (t 11) (t 19) (.const (.bool false))),Mv 2 20] .ret))
theorem k142:Zaw Tryz.prog 142=some ⟨c142,[(.tmp 2)],21⟩:=by kernel_rfl
def c83:AC:=(Sr [Oo 1 (.box 79 3 (t 0)),Mc 2 0,Mc 3 0] (.seq (Sr [Oo 4 (.load true 3 (t 1)),Cl 5 142 [(t 4)],Oo 6 (.un .not (t 5))] (Cd 6 (Sr [Mc 2 0,Mc 3 3] .ret) .skip)) (Sr [Oo 7 (.load true 3 (t 1)),Cl 8 143 [(t 7)],Mv 2 8,Mc 3 0] .ret)))
theorem k83:Zaw Tryz.prog 83=some ⟨c83,[(.tmp 2),(.tmp 3)],9⟩:=by kernel_rfl
def c265:AC:=(Sr [Oo 2 (.new 79 3 [(iv 0),(iv 0),(iv 0)])] (Sr [Mv 6 0,Cl 7 221 [],Bn 8 .add 6 7,Mv 3 8] (Sr [Mv 9 3,Bc 10 .quo 9 366,Bc 11 .add 10 1,Mv 4 11] (.seq (.block 0 (.loop (.seq (Sr [Mv 12 4,Bc 13 .add 12 1,Cl 14 220 [(t 13)],Mv 15 3,Bn 16 .leq 14 15] (Cd 16 .skip (.exit 0))) (.block 1 (.reg [Mv 17 4,Bc 18 .add 17 1,Mv 4 18]))))) (Sr [Mv 19 3,Mv 20 4,Cl 21 220 [(t 20)],Bn 22 .sub 19 21,Mv 3 22] (Sr [Mc 5 1] (.seq (.block 2 (.loop (.seq (Sr [Mv 23 3,Mv 24 4,Mv 25 5,Cl 26 219 [(t 24),(t 25)],Bn 27 .geq 23 26] (Cd 27 .skip (.exit 2))) (.block 3 (Sr [Mv 28 3,Mv 29 4,Mv 30 5,Cl 31 219 [(t 29),(t 30)],Bn 32 .sub 28 31,Mv 3 32] (.reg [Mv 33 5,Bc 34 .add 33 1,Mv 5 34])))))) (Sr [Mv 35 4,Mv 36 5,Mv 37 3,Bc 38 .add 37 1,Oo 39 (.build [(iv 0),(iv 0),(iv 0)] [(0,(1,(t 35))),(1,(1,(t 36))),(2,(1,(t 38)))]),⟨none,none,(.store 3 (t 2) (t 39))⟩] .ret))))))))
theorem k265:Zaw Tryz.prog 265=some ⟨c265,[(.cell 2 true 3)],40⟩:=by kernel_rfl
def c214:AC:=(Sr [Oo 2 (.new 79 3 [(iv 0),(iv 0),(iv 0)]),Mc 3 0] (.seq (Sr [Mv 4 0,Cl 5 195 [],Cl 6 196 [],Cl 7 218 [(t 4),(t 5),(t 6)],Oo 8 (.un .not (t 7))] (Cd 8 (Sr [Oo 9 (.build [(iv 0),(iv 0),(iv 0)] []),⟨none,none,(.store 3 (t 2) (t 9))⟩,Mc 3 3] .ret) .skip)) (Sr [Mv 10 0,Cl 11 265 [(t 10)],⟨none,none,(.store 3 (t 2) (t 11))⟩,Mc 3 0] .ret)))
theorem k214:Zaw Tryz.prog 214=some ⟨c214,[(.cell 2 true 3),(.tmp 3)],12⟩:=by kernel_rfl
abbrev nmC (n:Int):List AV:=[iv n]
theorem nm_len1 : ∀ x,(nmC x).length=1:=fun _=>rfl
abbrev dateA (p:Int×Int×Int):AV:=.agg [iv p.1,iv p.2.1,iv p.2.2]
def lens:List Int:=[31,28,31,30,31,30,31,31,30,31,30,31]
theorem Zb2 {n a b:Int}{h:AH}:Ac 218 [iv n,iv a,iv b] h (bv (wi n a b)):=by
 refine tI' k218 fun N hn _ _ hbd=>?_
 simp only[tb'] at hbd ⊢
 refine wk'<|wm<|mw<|Vw (ZfC lk lk)<|mw<|?_
 refine sp' (t:=10) gt pt pt (fun hg10=>?_) (fun hg10=>?_)
 ·refine sd<|mw<|sd<|mw<|sd<|Vw (ZdF lk lk)<|Vw (Zal lk lk)<|mr<|Zae rz<|rT'<|?_
  refine bvx ?_;unfold wi;rw[Bool.eq_iff_iff];simp;omega
 refine so<|so<|so<|Vw (Zaj lk lkb)<|mr<|Zae rz<|rT'<|?_
 refine bvx ?_;unfold wi;rw[Bool.eq_iff_iff];simp;omega
theorem leap_a {y:Int}{h:AH}(h0:0≤y) (h1:y≤1000000):Ac 267 [iv y] h (bv (Zjb y)):=by
 refine tI' k267 fun N hn _ _ hbd=>?_
 simp only[tb'] at hbd ⊢
 refine wk'<|wm<|?_
 refine V' (ZfV lk lki om om) pt ?_
 refine Vw (Za7 lk lki)<|mw<|?_
 refine sp' (t:=6) gt pt pt (fun hg6=>?_) (fun hg6=>?_)
 ·refine sd<|mw<|sd<|?_
  refine V' (ZfV lk lki om om) pt ?_
  refine sd<|Vw (Zba lk lki)<|sd<|mw<|?_
  refine sp' (t:=10) gt pt pt (fun hg10=>?_) (fun hg10=>?_)
  ·refine so<|so<|so<|sd<|Vw (Zal lk lkb)<|Vw (Zal lk lk)<|mr<|Zae rz<|rT'<|?_
   refine bvx ?_;unfold Zjb;simp_all <;> rfl
  refine sd<|mw<|sd<|?_
  refine V' (ZfV lk lki om om) pt ?_
  refine sd<|Vw (Za7 lk lki)<|sd<|Vw (Zaj lk lk)<|Vw (Zal lk lk)<|mr<|Zae rz<|rT'<|?_
  refine bvx ?_;unfold Zjb;simp_all <;> rfl
 refine so<|so<|so<|so<|s_nu gt pt<|s_nu gt pt<|s_nu gt pt<|so<|Vw (Zaj lk lkb)<|mr<|Zae rz<|?_
 refine rT' ?_
 refine bvx ?_;unfold Zjb;simp_all <;> rfl
theorem Zur {h:AH}:Ac 266 [] h (.sl 12 1 false (rows nmC lens)):=by
 refine tI' k266 fun N hn _ _ hbd=>?_
 simp only[tb'] at hbd ⊢
 exact wr'<|mv' lkn pt0<|sn'<|wr'<|E' (Zcz (Zjs (cvl lki rfl) rfl (cvl lki rfl) rfl (cvl lki rfl) rfl (cvl lki rfl) rfl (cvl lki rfl) rfl (cvl lki rfl) rfl (cvl lki rfl) rfl (cvl lki rfl) rfl (cvl lki rfl) rfl (cvl lki rfl) rfl (cvl lki rfl) rfl (cvl lki rfl) rfl) hl0 ha0) pt1<|mv' lk1 pt0<|Zam<|ZaP (ALe.iceR gx gt0 rfl nb pt0 hs0)<|Zbe<|Zae (rs1 (rr_t gt0))<|rT' rfl
theorem Zub {y m:Int}(h1:1≤m) (h2:m≤12) (hk:(m-1).toNat<lens.length):mlen y m=lens[(m-1).toNat]+(if m=2 then lp y else 0):=by
 have hm:m=1∨m=2∨m=3∨m=4∨m=5∨m=6∨m=7∨m=8∨m=9∨m=10∨m=11∨m=12:=by omega
 rcases hm with rfl | rfl | rfl | rfl | rfl | rfl | rfl | rfl | rfl | rfl | rfl | rfl <;> rfl
theorem lens_bd {k:Nat}(hk:k<lens.length):28≤lens[k]∧lens[k]≤31:=by
 have : ∀ x∈lens,28≤x∧x≤31:=by decide
 exact this _ (List.getElem_mem hk)
theorem Zdn {y m:Int}{h:AH}(h0:0≤y) (hy:y≤1000000) (h1:1≤m) (h2:m≤12):Ac 219 [iv y,iv m] h (iv (mlen y m)):=by
 have hk:(m-1).toNat<lens.length:=by show _<12;omega
 have he:=Zub (y:=y) h1 h2 hk
 have hb:=lens_bd hk
 refine tI' k219 fun N hn _ _ hbd=>?_
 simp only[tb'] at hbd ⊢
 refine wk'<|wr'<|Zad mp0 (Zur) pt<|mw<|?_
 refine V' (Za3 lk lki om om) pt ?_
 refine V' (ZaJ (l:=lens) (k:=(m-1).toNat) lk lk nm_len1 nb om hk rfl rfl) pt ?_
 refine Vw (Zax lk gt)<|ms<|Zac<|wm<|Vw (Za7 lk lki)<|mw<|?_
 refine sp' (t:=13) gt pt pt (fun hg13=>?_) (fun hg13=>?_)
 ·refine sd<|mw<|sd<|Zad mp (leap_a h0 hy) pt<|Vw (Zal lk lk)<|sn'<|?_
  refine cd' lk (fun hc1=>?_) (fun hc1=>?_)
  ·refine Zap<|mw<|?_
   refine ad<|ms<|wm<|mr<|Zae rz<|rT'<|?_
   refine ivx ?_;rw[he];unfold lp;simp_all
  refine za<|wm<|mr<|Zae rz<|rT'<|?_
  refine ivx ?_;rw[he];unfold lp;simp_all
 refine so<|so<|Vw (Zaj lk lkb)<|sn'<|Za8 lk<|za<|wm<|ms<|?_
 refine Zbe<|Zae rz<|rT'<|?_
 refine ivx ?_;rw[he];unfold lp;simp_all
theorem ZhL {y m d:Int}{h:AH}(y0:1≤y) (y1:y≤20000) (m0:1≤m) (m1:m≤12) (d0 : -1000≤d) (d1:d≤1000):Ac 143 [.agg [iv y,iv m,iv d]] h (iv (num y m d)):=by
 have hb:=bef_bd y0 y1
 refine tI' k143 fun N hn _ _ hbd=>?_
 simp only[tb'] at hbd ⊢
 refine wr'<|E' (ZaR cv rfl hl0 ha0) pt<|ms<|Zac<|ZaH<|dg<|Dw (Zaa lk gx gt0)<|?_
 refine ZaC mp (fun hE hX=>Zgp (by first | assumption | omega) (by first | assumption | omega)) pt ?_
 refine ZaC mp0 (fun hE hX=>Zk7) pt ?_
 refine D' (Za3 lk lk om om) pt ?_
 refine dg<|Dw (Zaa lk gx gt2)<|?_
 refine D' (ZbM lk lk om om) pt ?_
 refine D' (Za3 lk lki om om) pt ?_
 refine Dw vm<|ZaM<|?_
 refine Za5 ?_
 refine sn'<|Zac<|wk'<|Zaf<|?_
 refine ZeB (ι:=Int) (fun (k:Int)=>[(3,iv (bef y-719162+d-1+cum y k)),(4,iv k)]++rn' 14 12) (fun (k:Int)=>[]) (fun (k:Int)=>1≤k∧k≤m) (fun (k:Int)=>(m-k).toNat) (1) om (by try simp only[sm',Nat.reduceAdd];exact ALe.same (by repeat (first | exact wk0 | refine wka ?_ | refine wk1 rfl ?_ | refine wk1 (by first | rfl | exact ivx (by rw[ZuZ];omega)) ?_)) rfl) ?_
 rintro k hi1
 try simp only[sm',Nat.reduceAdd]
 obtain⟨hk1,hk2⟩:=hi1
 have hcb:=Zmw (y:=y) (m:=k) hk1 om
 refine Zac<|wm<|fq<|Vw (Zaa lk gx gt1)<|Vw (ZaO lk lk)<|sn'<|?_
 refine cd' lk (fun hc1=>?_) (fun hc1=>?_)
 ·have hcs:=Zgl (y:=y) (m:=k) hk1 om
  have hml:=Zdc y k
  refine za<|Zac<|Zaf<|Zap<|mw<|fq<|Vw (Zaa lk gx gt0)<|mw<|?_
  refine Zad mp (Zdn om om hk1 om) pt ?_
  refine V' (ZbM lk lk om om) pt ?_
  refine mw<|Zam<|Zau<|Zan<|Zap<|mw<|?_
  refine ad<|mw<|Zam<|Zaz<|?_
  refine lU' (k+1) (by (try dsimp only);omega) (by refine zz ?_;exact ALe.same (by repeat (first | exact wk0 | refine wka ?_ | refine wk1 rfl ?_ | refine wk1 (by first | rfl | exact ivx om) ?_)) rfl)
 have hkm:k=m:=by omega
 refine Zay<|Zar<|Zar<|ZaN<|Zan<|wm<|mr<|Zae rz<|rT'<|?_
 refine ivx ?_;rw[hkm];unfold num;omega
theorem is_a {y m d:Int}{h:AH}:Ac 142 [.agg [iv y,iv m,iv d]] h (bv (Zbq y m d)):=by
 refine tI' k142 fun N hn _ _ hbd=>?_
 simp only[tb'] at hbd ⊢
 refine wr'<|E' (ZaR cv rfl hl0 ha0) pt<|ms<|Zac<|ZaH<|dg<|Dw (Zaa lk gx gt0)<|?_
 refine ZaC mp (fun hE hX=>Zb2) pt ?_
 refine D' vm pt ?_
 refine Zla (t:=6) gt pt pt (fun hg6=>?_) (fun hg6=>?_)
 ·have hy:1≤y∧y≤9999:=by unfold wi at hg6;simpa using hg6
  refine dO<|dg<|dO<|Dw (Zaa lk gx gt1)<|dO<|?_
  refine ZaC mp (fun hE hX=>Zb2) pt ?_
  refine Dw (Zal lk lk)<|Dw vm<|?_
  refine Zla (t:=11) gt pt pt (fun hg11=>?_) (fun hg11=>?_)
  ·have hm:1≤m∧m≤12:=by unfold wi at hg11;simpa using hg11
   refine dO<|dg<|dO<|Dw (Zaa lk gx gt2)<|dO<|dg<|dO<|Dw (Zaa lk gx gt0)<|dO<|dg<|dO<|Dw (Zaa lk gx gt1)<|dO<|?_
   refine ZaC mp (fun hE hX=>Zdn om om hm.1 hm.2) pt ?_
   refine d_do gt ?_
   refine ZaC mp (fun hE hX=>Zb2) pt ?_
   refine Dw (Zal lk lk)<|Dw vm<|ZaM<|?_
   refine Za5 ?_
   refine sr<|Zae rz<|rT'<|?_
   refine bvx ?_;rw[show Zbq y m d=(wi y 1 9999&&(wi m 1 12&&wi d 1 (mlen y m))) from by unfold Zbq wi;simp[Bool.and_assoc]];simp_all
  refine dn<|dn<|dn<|dn<|dn<|dn<|dn<|dn<|Dw (Zaj lk lkb)<|Dw vm<|ZaM<|?_
  refine Za5 ?_
  refine sr<|Zae rz<|rT'<|?_
  refine bvx ?_;rw[show Zbq y m d=(wi y 1 9999&&(wi m 1 12&&wi d 1 (mlen y m))) from by unfold Zbq wi;simp[Bool.and_assoc]];simp_all
 refine dn<|dn<|dn<|Dw (Zaj lk lkb)<|Dw vm<|dn<|dn<|dn<|dn<|dn<|dn<|dn<|dn<|Dw (Zaj lk lkb)<|?_
 refine Dw vm<|ZaM<|?_
 refine Za5 ?_
 refine sr<|Zae rz<|rT'<|?_
 refine bvx ?_;rw[show Zbq y m d=(wi y 1 9999&&(wi m 1 12&&wi d 1 (mlen y m))) from by unfold Zbq wi;simp[Bool.and_assoc]];simp_all
theorem days_a {y m d:Int}{h:AH}:Ac 83 [.agg [iv y,iv m,iv d]] h (.tup [iv (if Zbq y m d then num y m d else 0),iv (if Zbq y m d then 0 else 3)]):=by
 refine tI' k83 fun N hn _ _ hbd=>?_
 simp only[tb'] at hbd ⊢
 refine wr'<|E' (ZaR cv rfl hl0 ha0) pt<|mw<|ms<|Zac<|wr'<|Vw (Zag lk gx Zec rfl)<|Zad mp (is_a) pt<|Vw (ZaE lk)<|Zam<|?_
 refine Zan ?_
 refine Zav lk (fun hc1=>?_) (fun hc1=>?_)
 ·have hd:Zbq y m d=false:=by simpa using hc1
  refine wm<|mr<|Zah<|Zae ry<|rT'<|?_
  rw[hd];rfl
 have hd:Zbq y m d=true:=by simpa using hc1
 have hi:=ZbQ.1 hd
 have hl:=Zdc y m
 refine za<|wr'<|Vw (Zag lk gx Zec rfl)<|?_
 refine Zad mp (ZhL om om om om om om) pt ?_
 refine mw<|mr<|Zae ry<|rT'<|?_
 rw[hd];rfl
theorem date_a {n:Int}{h:AH}(h0 : -719162≤n) (h1:n≤2932896):Ac 265 [iv n] h (dateA (Zbg n)):=by
 have hg:=Zp4 (n:=n+719162) om
 have hn:=ZjP (n:=n+719162) om om
 have hs:=Zlt h0 h1
 refine tI' k265 fun N hn _ _ hbd=>?_
 simp only[tb'] at hbd ⊢
 refine wr'<|E' (ZaV hl0 ha0) pt<|sn'<|wm<|Zad mp0 (Zk7) pt<|?_
 refine V' (ZbM lk lk om om) pt ?_
 refine ms<|wm<|?_
 refine V' (ZgE lk lki om om om) pt ?_
 refine ad<|ms<|Zac<|Zaf<|?_
 refine w_lp (ι:=Nat×Int) (fun (x_:Nat×Int)=>match x_ with | ⟨k,y⟩=>[(4,iv y)]++rn' 12 7) (fun (x_:Nat×Int)=>match x_ with | ⟨k,y⟩=>[]) (fun (x_:Nat×Int)=>match x_ with | ⟨k,y⟩=>yrOf n=yrUp k (n+719162) y∧1≤y∧y+k≤10100∧bef y≤n+719162∧n+719162<bef y+365*(k:Int)+365) (fun (x_:Nat×Int)=>match x_ with | ⟨k,y⟩=>k) (⟨60,(n+719162)/366+1⟩) (by exact⟨rfl,by omega,by omega,hg,by omega⟩) ?_
 rintro⟨k,y⟩ hi1
 try simp only[sm',Nat.reduceAdd]
 obtain⟨hy1,hy2,hy3,hy4,hy5⟩:=hi1
 refine Zac<|wm<|?_
 refine ad<|Zad mp (Zgp om om) pt ?_
 refine mw<|Vw (ZdF lk lk)<|sn'<|?_
 refine cd' lk (fun hc1=>?_) (fun hc1=>?_)
 ·obtain⟨j,rfl⟩ : ∃ j,k=j+1:=by
   cases k with
   | zero=>exfalso;have:=Zlf (a:=y) (b:=y+1) om;have:=Zfi y;have:=ZnH y;unfold bef at *;omega
   | succ j=>exact⟨j,rfl⟩
  have hst:=Zlf (a:=y) (b:=y+1) om
  refine za<|Zaf<|Zap<|mw<|?_
  refine ad<|mw<|Zam<|Zau<|Zaz<|?_
  refine lT' (⟨j,y+1⟩) (by (try dsimp only);exact⟨by rw[hy1,yrUp,if_pos hc1],by omega,by omega,hc1,by omega⟩)
 have hyy:yrOf n=y:=by rw[hy1];cases k with
  | zero=>rfl
  | succ j=>rw[yrUp,if_neg hc1]
 rw[hyy] at hs
 have hbs:=Zfi y
 have hl01:=ZnH y
 refine Zay<|Zar<|Zar<|ZaN<|Zan<|wm<|mw<|?_
 refine Zad mp (Zgp om om) pt ?_
 refine V' (Za3 lk lk om om) pt ?_
 refine ms<|wk'<|Zac<|Zaf<|?_
 refine w_lp (ι:=Nat×Int×Int) (fun (x_:Nat×Int×Int)=>match x_ with | ⟨k,m,r⟩=>[(3,iv r),(5,iv m)]++rn' 23 12) (fun (x_:Nat×Int×Int)=>match x_ with | ⟨k,m,r⟩=>[]) (fun (x_:Nat×Int×Int)=>match x_ with | ⟨k,m,r⟩=>moUp 12 y 1 (n+719162-bef y)=moUp k y m r∧1≤m∧m+k=13∧0≤r∧cum y m+r<365+lp y) (fun (x_:Nat×Int×Int)=>match x_ with | ⟨k,m,r⟩=>k) (⟨12,1,n+719162-bef y⟩) (by exact⟨rfl,by omega,by omega,by omega,by rw[ZuZ];omega⟩) ?_
 rintro⟨k,m,r⟩ hi2
 try simp only[sm',Nat.reduceAdd]
 obtain⟨hm1,hm2,hm3,hm4,hm5⟩:=hi2
 have hm12:m≤12:=by
  rcases Int.lt_or_le 12 m with e | e
  ·have:m=13:=by omega
   subst this;rw[ZuY] at hm5;omega
  exact e
 have hcs:=Zgl (y:=y) (m:=m) hm2 hm12
 have hcb:=Zmw (y:=y) (m:=m) hm2 om
 have hml:=Zdc y m
 refine Zac<|wm<|mw<|mw<|?_
 refine Zad mp (Zdn om om hm2 hm12) pt ?_
 refine Vw (ZfC lk lk)<|sn'<|?_
 refine cd' lk (fun hc2=>?_) (fun hc2=>?_)
 ·obtain⟨j,rfl⟩ : ∃ j,k=j+1:=⟨k-1,by omega⟩
  refine za<|Zaf<|wm<|mw<|mw<|?_
  refine Zad mp (Zdn om om hm2 hm12) pt ?_
  refine V' (Za3 lk lk om om) pt ?_
  refine ms<|Zap<|mw<|?_
  refine ad<|mw<|Zam<|Zau<|Zaz<|?_
  refine lT' (⟨j,m+1,r-mlen y m⟩) (by (try dsimp only);exact⟨by rw[hm1,moUp,if_pos hc2],by omega,by omega,by omega,by omega⟩)
 have hmm:moUp 12 y 1 (n+719162-bef y)=(m,r):=by rw[hm1];cases k with
  | zero=>rfl
  | succ j=>rw[moUp,if_neg hc2]
 refine Zay<|Zar<|Zar<|ZaN<|Zan<|wm<|mw<|mw<|?_
 refine ad<|Vw (Zat (Zm6 cv rfl cv rfl cv rfl))<|E' (Zai lk cv gx rfl nb rfl Zhb hs0) ptn<|sr<|Zae (rs1 (rr_c gt gx (ld1 Zec rfl)))<|rT'<|?_
 have hdo:Zbg n=(y,m,r+1):=by simp only[Zbg,hyy,hmm]
 rw[hdo]
theorem of_a {n:Int}{h:AH}:Ac 214 [iv n] h (.tup [dateA (if -719162≤n∧n≤2932896 then Zbg n else (0,0,0)),iv (if -719162≤n∧n≤2932896 then 0 else 3)]):=by
 refine tI' k214 fun N hn _ _ hbd=>?_
 simp only[tb'] at hbd ⊢
 refine wr'<|E' (ZaV hl0 ha0) pt<|ms<|Zac<|wm<|Zad mp0 (ZuD) pt<|Zad mp0 (last_a) pt<|Zad mp (Zb2) pt<|Vw (ZaE lk)<|?_
 refine sn' ?_
 refine Zav lk (fun hc1=>?_) (fun hc1=>?_)
 ·have hno:¬(-719162≤n∧n≤2932896):=by unfold wi at hc1;simp at hc1;omega
  refine wr'<|Vw (Zat Zv9)<|E' (Zai lk cv gx rfl nb rfl Zhb hs0) ptn<|mr<|Zah<|Zae (rsn (rm1 (rr_c gt gx (ld1 Zec rfl)) (rm1 (rr_t gt) rm0)))<|rT'<|?_
  rw[if_neg hno,if_neg hno]
 have hyes : -719162≤n∧n≤2932896:=by unfold wi at hc1;simp at hc1;omega
 refine za<|wm<|Zad mp (date_a hyes.1 hyes.2) pt<|E' (Zai lk cv gx rfl nb rfl Zhb hs0) ptn<|mr<|Zae (rsn (rm1 (rr_c gt gx (ld1 Zec rfl)) (rm1 (rr_t gt) rm0)))<|rT'<|?_
 rw[if_pos hyes,if_pos hyes]
end
end Go.Proofs.YtfoipaclphdodaaGreatDoor
section
namespace Go.Proofs.YtfoipaclphdodaaGreatDoor
open Go.Ab Civ
section
theorem Zbh {a0 a1 a2:AV}{l:List AV}:((a0::a1::a2::l).drop 0).take 3=[a0,a1,a2]:=rfl
theorem Zsx {τ:Operand→AV}:Zak τ [] [(iv 0),(iv 0),(iv 0)]=some [(iv 0),(iv 0),(iv 0)]:=rfl
theorem Zby {a0 a1 a2 c0 c1 c2:AV}{l:List AV}:setCells (a0::a1::a2::l) 0 [c0,c1,c2]=c0::c1::c2::l:=rfl
theorem Zsw {τ:Operand→AV}{y0 y1 y2:Operand}{x0_0 x1_0 x2_0:AV}(h0:Zao (τ y0)=some [x0_0]) (l0:[x0_0].all leaf=true) (h1:Zao (τ y1)=some [x1_0]) (l1:[x1_0].all leaf=true) (h2:Zao (τ y2)=some [x2_0]) (l2:[x2_0].all leaf=true):Zak τ [(0,1,y0),(1,1,y1),(2,1,y2)] [(iv 0),(iv 0),(iv 0)]=some [x0_0,x1_0,x2_0]:=by
 simp only[Zak,h0,l0,h1,l1,h2,l2]
 rfl
theorem Zi4 {τ:Operand→AV}{y0 y1 y2:Operand}{x0_0 x1_0 x2_0:AV}(h0:Zao (τ y0)=some [x0_0]) (l0:[x0_0].all leaf=true) (h1:Zao (τ y1)=some [x1_0]) (l1:[x1_0].all leaf=true) (h2:Zao (τ y2)=some [x2_0]) (l2:[x2_0].all leaf=true):Zak τ [(0,1,y0),(1,1,y1),(2,1,y2)] [(iv 0),(iv 0),(iv 0)]=some [x0_0,x1_0,x2_0]:=by
 simp only[Zak,h0,l0,h1,l1,h2,l2]
 rfl
theorem Zjn {τ:Operand→AV}{y0 y1 y2:Operand}{x0_0 x1_0 x2_0:AV}(h0:Zao (τ y0)=some [x0_0]) (l0:[x0_0].all leaf=true) (h1:Zao (τ y1)=some [x1_0]) (l1:[x1_0].all leaf=true) (h2:Zao (τ y2)=some [x2_0]) (l2:[x2_0].all leaf=true):Zak τ [(0,1,y0),(1,1,y1),(2,1,y2)] [(iv 0),(iv 0),(iv 0)]=some [x0_0,x1_0,x2_0]:=by
 simp only[Zak,h0,l0,h1,l1,h2,l2]
 rfl
theorem Zjp {τ:Operand→AV}{y0 y1 y2:Operand}{x0_0 x1_0 x2_0:AV}(h0:Zao (τ y0)=some [x0_0]) (l0:[x0_0].all leaf=true) (h1:Zao (τ y1)=some [x1_0]) (l1:[x1_0].all leaf=true) (h2:Zao (τ y2)=some [x2_0]) (l2:[x2_0].all leaf=true):Zak τ [(0,1,y0),(1,1,y1),(2,1,y2)] [(iv 0),(iv 0),(iv 0)]=some [x0_0,x1_0,x2_0]:=by
 simp only[Zak,h0,l0,h1,l1,h2,l2]
 rfl
theorem Zjo {τ:Operand→AV}{y0 y1 y2:Operand}{x0_0 x1_0 x2_0:AV}(h0:Zao (τ y0)=some [x0_0]) (l0:[x0_0].all leaf=true) (h1:Zao (τ y1)=some [x1_0]) (l1:[x1_0].all leaf=true) (h2:Zao (τ y2)=some [x2_0]) (l2:[x2_0].all leaf=true):Zak τ [(0,1,y0),(1,1,y1),(2,1,y2)] [(iv 0),(iv 0),(iv 0)]=some [x0_0,x1_0,x2_0]:=by
 simp only[Zak,h0,l0,h1,l1,h2,l2]
 rfl
theorem Zsv {a0 a1 c0:AV}{l:List AV}:setCells (a0::a1::l) 1 [c0]=a0::c0::l:=rfl
theorem Zsu {a0 a1 a2 c0:AV}{l:List AV}:setCells (a0::a1::a2::l) 2 [c0]=a0::a1::c0::l:=rfl
theorem Zm2 {τ:Operand→AV}:Zak τ [] [(iv 0),(iv 0),(iv 0)]=some [(iv 0),(iv 0),(iv 0)]:=rfl
theorem Zm1 {τ:Operand→AV}:Zak τ [] [(iv 0),(iv 0),(iv 0)]=some [(iv 0),(iv 0),(iv 0)]:=rfl
theorem Zm0 {τ:Operand→AV}:Zak τ [] [(iv 0),(iv 0),(iv 0)]=some [(iv 0),(iv 0),(iv 0)]:=rfl
theorem ZmZ {τ:Operand→AV}:Zak τ [] [(iv 0),(iv 0),(iv 0)]=some [(iv 0),(iv 0),(iv 0)]:=rfl
theorem ZmY {τ:Operand→AV}{y0 y1 y2:Operand}{x0_0 x1_0 x2_0:AV}(h0:Zao (τ y0)=some [x0_0]) (l0:[x0_0].all leaf=true) (h1:Zao (τ y1)=some [x1_0]) (l1:[x1_0].all leaf=true) (h2:Zao (τ y2)=some [x2_0]) (l2:[x2_0].all leaf=true):Zak τ [(0,1,y0),(1,1,y1),(2,1,y2)] [(iv 0),(iv 0),(iv 0)]=some [x0_0,x1_0,x2_0]:=by
 simp only[Zak,h0,l0,h1,l1,h2,l2]
 rfl
theorem Zlq {τ:Operand→AV}:Zak τ [] [(iv 0),(iv 0),(iv 0)]=some [(iv 0),(iv 0),(iv 0)]:=rfl
end
def c309:AC:=(Sr [Mc 2 0] (Sr [Mv 3 0,Bc 4 .rem 3 7,Bc 5 .add 4 4,Bc 6 .rem 5 7,Bc 7 .add 6 7,Bc 8 .rem 7 7,Mv 2 8] .ret))
theorem k309:Zaw Tryz.prog 309=some ⟨c309,[(.tmp 2)],9⟩:=by kernel_rfl
def c282:AC:=(Sr [Mc 6 0] (.seq (.block 0 (.loop (.seq (Sr [Mv 7 0,Cl 8 309 [(t 7)],Mv 9 1,Bn 10 .neq 8 9] (Cd 10 .skip (.exit 0))) (.block 1 (.reg [Mv 11 0,Mv 12 2,Bn 13 .add 11 12,Mv 0 13]))))) (Sr [Mv 14 0,Mv 6 14] .ret)))
theorem k282:Zaw Tryz.prog 282=some ⟨c282,[(.tmp 6)],15⟩:=by kernel_rfl
def c281:AC:=(Sr [Oo 5 (.box 166 3 (t 2)),Mc 6 0] (.seq (.block 0 (Sr [Mv 8 0,Cl 9 218 [(t 8),(Ci 1),(Ci 9999)],Oo 10 (.un .not (t 9)),Mv 11 10,Of 12 11 (mt 1),Of 13 11 (.call (.func 218) [(t 12),(Ci 1),(Ci 12)]),Of 14 11 (.un .not (t 13)),Oo 15 (.pick (t 11) (.const (.bool true)) (t 14)),Mv 7 15] (Cd 7 (Sr [Mc 6 3] .ret) (Sr [Fa 17 0 5,Ld 18 17,Cl 19 218 [(t 18),(Ci 1),(Ci 4)],Oo 20 (.un .not (t 19)),Mv 16 20] (Cd 16 (Sr [Mc 6 7] .ret) (Sr [Fa 22 1 5,Ld 23 22,Cl 24 218 [(t 23),(Ci 0),(Ci 6)],Oo 25 (.un .not (t 24)),Mv 26 25,Of 27 26 (.fa 0 (t 5)),Of 28 26 (.load false 1 (t 27)),Of 29 26 (.bin .eql (t 28) (Ci 1)),Of 30 26 (mt 29),Ot 31 30 (.fa 1 (t 5)),Ot 32 30 (.load false 1 (t 31)),Ot 33 30 (.bin .neq (t 32) (Ci 0)),Of 34 26 (.pick (t 30) (t 33) (.const (.bool false))),Oo 35 (.pick (t 26) (.const (.bool true)) (t 34)),Mv 21 35] (Cd 21 (Sr [Mc 6 3] .ret) (Sd [Fa 37 0 5,Ld 38 37,Bc 39 .eql 38 2,Mv 40 39,Ot 41 40 (.fa 2 (t 5)),Ot 42 40 (.load false 1 (t 41)),Ot 43 40 (.bin .neq (t 42) (Ci 0)),Oo 44 (.pick (t 40) (t 43) (.const (.bool false))),Mv 45 44,Of 46 45 (.fa 0 (t 5)),Of 47 45 (.load false 1 (t 46)),Of 48 45 (.bin .neq (t 47) (Ci 2)),Of 49 45 (mt 48),Ot 50 49 (.fa 2 (t 5)),Ot 51 49 (.load false 1 (t 50)),Ot 52 49 (mt 0),Ot 53 49 (mt 1),Ot 54 49 (.call (.func 219) [(t 52),(t 53)]),Ot 55 49 (.call (.func 218) [(t 51),(Ci 1),(t 54)]),Ot 56 49 (.un .not (t 55)),Of 57 45 (.pick (t 49) (t 56) (.const (.bool false))),Oo 58 (.pick (t 45) (.const (.bool true)) (t 57)),Mv 36 58] (Cd 36 (Sr [Mc 6 3] .ret) .skip))))))))) (Sr [Mc 6 0] .ret)))
theorem k281:Zaw Tryz.prog 281=some ⟨c281,[(.tmp 6)],59⟩:=by kernel_rfl
def c234:AC:=(Sr [Oo 5 (.box 166 3 (t 2)),Oo 6 (.new 79 3 [(iv 0),(iv 0),(iv 0)]),Mc 7 0] (.seq (Sr [Mv 11 0,Mv 12 1,Oo 13 (.load true 3 (t 5)),Cl 14 281 [(t 11),(t 12),(t 13)],Mv 8 14] (Sr [Mv 15 8,Bc 16 .neq 15 0] (Cd 16 (Sr [Oo 17 (.build [(iv 0),(iv 0),(iv 0)] []),Mv 18 8,⟨none,none,(.store 3 (t 6) (t 17))⟩,Mv 7 18] .ret) .skip))) (Sr [Mv 19 0,Mv 20 1,Oo 21 (.build [(iv 0),(iv 0),(iv 0)] [(0,(1,(t 19))),(1,(1,(t 20))),(2,(1,(Ci 1)))]),Cl 22 143 [(t 21)],Mv 9 22] (Sr [Mv 23 9,Fa 24 2 5,Ld 25 24,Bn 26 .add 23 25,Bc 27 .sub 26 1,Mv 10 27] (.seq (Sr [Fa 28 0 5,Ld 29 28] (.block 0 (Sr [Bc 31 .eql 29 2,Mv 30 31] (Cd 30 (.drw [Mv 32 9,Mv 33 0,Mv 34 1,Cl 35 219 [(t 33),(t 34)],Bn 36 .add 32 35,Bc 37 .sub 36 1,Fa 38 1 5,Ld 39 38,Cl 40 282 [(t 37),(t 39),(.const (.int .i64 (-1)))],Mv 10 40] [] []) (Sr [Bc 42 .eql 29 3,Mv 41 42] (Cd 41 (.reg [Mv 43 10,Fa 44 1 5,Ld 45 44,Cl 46 282 [(t 43),(t 45),(Ci 1)],Mv 10 46]) (Sr [Bc 48 .eql 29 4,Mv 47 48] (Cd 47 (.reg [Mv 49 10,Fa 50 1 5,Ld 51 50,Cl 52 282 [(t 49),(t 51),(.const (.int .i64 (-1)))],Mv 10 52]) .skip)))))))) (Sr [Mv 53 10,Cl 54 214 [(t 53)],Ex 55 54 0,Ex 56 54 1,⟨none,none,(.store 3 (t 6) (t 55))⟩,Mv 7 56] .ret))))))
theorem k234:Zaw Tryz.prog 234=some ⟨c234,[(.cell 6 true 3),(.tmp 7)],57⟩:=by kernel_rfl
def c304:AC:=(Sr [Mb 2 false] (Sr [Mv 3 0,Bc 4 .rem 3 400,Bc 5 .eql 4 0,Mv 6 5,Of 7 6 (mt 0),Of 8 6 (.bin .rem (t 7) (Ci 4)),Of 9 6 (.bin .eql (t 8) (Ci 0)),Of 10 6 (mt 9),Ot 11 10 (mt 0),Ot 12 10 (.bin .rem (t 11) (Ci 100)),Ot 13 10 (.bin .neq (t 12) (Ci 0)),Of 14 6 (.pick (t 10) (t 13) (.const (.bool false))),Oo 15 (.pick (t 6) (.const (.bool true)) (t 14)),Mv 2 15] .ret))
theorem k304:Zaw Tryz.prog 304=some ⟨c304,[(.tmp 2)],16⟩:=by kernel_rfl
def c258:AC:=(Sr [Mc 4 0] (.seq (Sr [Mv 5 1] (.block 0 (.seq (Sr [Bc 7 .eql 5 4,Mv 6 7] (Cd 6 .skip (Sr [Bc 8 .eql 5 6,Mv 6 8] (Cd 6 .skip (Sr [Bc 9 .eql 5 9,Mv 6 9] (Cd 6 .skip (.reg [Bc 10 .eql 5 11,Mv 6 10]))))))) (Cd 6 (Sr [Mc 4 30] .ret) (Sr [Bc 12 .eql 5 2,Mv 11 12] (Cd 11 (.seq (Sr [Mv 13 0,Cl 14 304 [(t 13)]] (Cd 14 (Sr [Mc 4 29] .ret) .skip)) (Sr [Mc 4 28] .ret)) .skip)))))) (Sr [Mc 4 31] .ret)))
theorem k258:Zaw Tryz.prog 258=some ⟨c258,[(.tmp 4)],15⟩:=by kernel_rfl
def c202:AC:=(Sr [Oo 1 (.box 79 3 (t 0)),Mc 2 0] (Sd [Fa 6 0 1,Ld 7 6,Fa 8 1 1,Ld 9 8,Bc 10 .sub 9 3,Mv 3 7,Mv 4 10] (.seq (Sr [Mv 11 4,Bc 12 .lss 11 0] (Cd 12 (Sr [Mv 13 3,Bc 14 .sub 13 1,Mv 3 14] (.reg [Mv 15 4,Bc 16 .add 15 12,Mv 4 16])) .skip)) (Sr [Mv 17 3,Bc 18 .quo 17 400,Bc 19 .mul 18 146097,Mv 20 3,Bc 21 .rem 20 400,Bc 22 .mul 21 365,Bn 23 .add 19 22,Mv 24 3,Bc 25 .rem 24 400,Bc 26 .quo 25 4,Bn 27 .add 23 26,Mv 28 3,Bc 29 .rem 28 400,Bc 30 .quo 29 100,Bn 31 .sub 27 30,Mv 5 31] (Sr [Mv 32 5,Mv 33 4,Oo 34 (.bin .mul (Ci 153) (t 33)),Bc 35 .add 34 2,Bc 36 .quo 35 5,Bn 37 .add 32 36,Fa 38 2 1,Ld 39 38,Bn 40 .add 37 39,Bc 41 .sub 40 1,Bc 42 .sub 41 719468,Mv 2 42] .ret)))))
theorem k202:Zaw Tryz.prog 202=some ⟨c202,[(.tmp 2)],43⟩:=by kernel_rfl
def c205:AC:=(Sr [Mc 0 0] (Sr [Oo 1 (.build [(iv 0),(iv 0),(iv 0)] [(0,(1,(Ci 1))),(1,(1,(Ci 1))),(2,(1,(Ci 1)))]),Cl 2 202 [(t 1)],Mv 0 2] .ret))
theorem k205:Zaw Tryz.prog 205=some ⟨c205,[(.tmp 0)],3⟩:=by kernel_rfl
def c207:AC:=(Sr [Mc 0 0] (Sr [Oo 1 (.build [(iv 0),(iv 0),(iv 0)] [(0,(1,(Ci 9999))),(1,(1,(Ci 12))),(2,(1,(Ci 31)))]),Cl 2 202 [(t 1)],Mv 0 2] .ret))
theorem k207:Zaw Tryz.prog 207=some ⟨c207,[(.tmp 0)],3⟩:=by kernel_rfl
def c259:AC:=(Sr [Mc 2 0] (Sr [Mv 4 0,Bc 5 .rem 4 7,Mv 3 5] (.seq (Sr [Mv 6 3,Bc 7 .lss 6 0] (Cd 7 (.reg [Mv 8 3,Bc 9 .add 8 7,Mv 3 9]) .skip)) (Sr [Mv 10 3,Bc 11 .add 10 4,Bc 12 .rem 11 7,Mv 2 12] .ret))))
theorem k259:Zaw Tryz.prog 259=some ⟨c259,[(.tmp 2)],13⟩:=by kernel_rfl
def c260:AC:=(Sr [Oo 2 (.new 79 3 [(iv 0),(iv 0),(iv 0)])] (Sr [Mc 3 1,Mc 4 10000] (.seq (.block 0 (.loop (.seq (Sr [Mv 7 4,Mv 8 3,Bn 9 .sub 7 8,Bc 10 .gtr 9 1] (Cd 10 .skip (.exit 0))) (.block 1 (Sr [Mv 11 3,Mv 12 4,Bn 13 .add 11 12,Bc 14 .quo 13 2,Mv 5 14] (Sr [Mv 15 5,Oo 16 (.build [(iv 0),(iv 0),(iv 0)] [(0,(1,(t 15))),(1,(1,(Ci 1))),(2,(1,(Ci 1)))]),Cl 17 202 [(t 16)],Mv 18 0,Bn 19 .leq 17 18] (Cd 19 (.reg [Mv 20 5,Mv 3 20]) (.reg [Mv 21 5,Mv 4 21])))))))) (Sr [Mv 22 3,Oo 23 (.build [(iv 0),(iv 0),(iv 0)] [(0,(1,(t 22))),(1,(1,(Ci 12))),(2,(1,(Ci 1)))]),Oo 6 (.new 79 3 [(iv 0),(iv 0),(iv 0)]),⟨none,none,(.store 3 (t 6) (t 23))⟩] (.seq (.block 2 (.loop (.seq (Sr [Oo 24 (.load true 3 (t 6)),Cl 25 202 [(t 24)],Mv 26 0,Bn 27 .gtr 25 26] (Cd 27 .skip (.exit 2))) (.block 3 (.reg [Fa 28 1 6,Ld 29 28,Bc 30 .sub 29 1,Fa 31 1 6,Sc 31 30]))))) (Sr [Mv 32 0,Oo 33 (.load true 3 (t 6)),Cl 34 202 [(t 33)],Bn 35 .sub 32 34,Bc 36 .add 35 1,Fa 37 2 6,Sc 37 36] (Sr [Oo 38 (.load true 3 (t 6)),⟨none,none,(.store 3 (t 2) (t 38))⟩] .ret)))))))
theorem k260:Zaw Tryz.prog 260=some ⟨c260,[(.cell 2 true 3)],39⟩:=by kernel_rfl
def c201:AC:=(Sr [Oo 5 (.box 166 3 (t 2)),Oo 6 (.new 79 3 [(iv 0),(iv 0),(iv 0)]),Mc 7 0] (.seq (Sr [Mv 11 0,Cl 12 132 [(t 11),(Ci 1),(Ci 9999)],Oo 13 (.un .not (t 12)),Mv 14 13,Of 15 14 (mt 1),Of 16 14 (.call (.func 132) [(t 15),(Ci 1),(Ci 12)]),Of 17 14 (.un .not (t 16)),Oo 18 (.pick (t 14) (.const (.bool true)) (t 17))] (Cd 18 (Sr [Oo 19 (.build [(iv 0),(iv 0),(iv 0)] []),⟨none,none,(.store 3 (t 6) (t 19))⟩,Mc 7 3] .ret) .skip)) (.seq (Sr [Fa 20 0 5,Ld 21 20,Cl 22 132 [(t 21),(Ci 1),(Ci 4)],Oo 23 (.un .not (t 22))] (Cd 23 (Sr [Oo 24 (.build [(iv 0),(iv 0),(iv 0)] []),⟨none,none,(.store 3 (t 6) (t 24))⟩,Mc 7 7] .ret) .skip)) (.seq (Sr [Fa 25 1 5,Ld 26 25,Cl 27 132 [(t 26),(Ci 0),(Ci 6)],Oo 28 (.un .not (t 27)),Mv 29 28,Of 30 29 (.fa 0 (t 5)),Of 31 29 (.load false 1 (t 30)),Of 32 29 (.bin .eql (t 31) (Ci 1)),Of 33 29 (mt 32),Ot 34 33 (.fa 1 (t 5)),Ot 35 33 (.load false 1 (t 34)),Ot 36 33 (.bin .neq (t 35) (Ci 0)),Of 37 29 (.pick (t 33) (t 36) (.const (.bool false))),Oo 38 (.pick (t 29) (.const (.bool true)) (t 37))] (Cd 38 (Sr [Oo 39 (.build [(iv 0),(iv 0),(iv 0)] []),⟨none,none,(.store 3 (t 6) (t 39))⟩,Mc 7 3] .ret) .skip)) (Sr [Mv 40 0,Mv 41 1,Cl 42 258 [(t 40),(t 41)],Mv 8 42] (.seq (Sr [Fa 43 0 5,Ld 44 43,Bc 45 .eql 44 2,Mv 46 45,Ot 47 46 (.fa 2 (t 5)),Ot 48 46 (.load false 1 (t 47)),Ot 49 46 (.bin .neq (t 48) (Ci 0)),Oo 50 (.pick (t 46) (t 49) (.const (.bool false))),Mv 51 50,Of 52 51 (.fa 0 (t 5)),Of 53 51 (.load false 1 (t 52)),Of 54 51 (.bin .neq (t 53) (Ci 2)),Of 55 51 (mt 54),Ot 56 55 (.fa 2 (t 5)),Ot 57 55 (.load false 1 (t 56)),Ot 58 55 (mt 8),Ot 59 55 (.call (.func 132) [(t 57),(Ci 1),(t 58)]),Ot 60 55 (.un .not (t 59)),Of 61 51 (.pick (t 55) (t 60) (.const (.bool false))),Oo 62 (.pick (t 51) (.const (.bool true)) (t 61))] (Cd 62 (Sr [Oo 63 (.build [(iv 0),(iv 0),(iv 0)] []),⟨none,none,(.store 3 (t 6) (t 63))⟩,Mc 7 3] .ret) .skip)) (Sr [Mv 64 0,Mv 65 1,Oo 66 (.build [(iv 0),(iv 0),(iv 0)] [(0,(1,(t 64))),(1,(1,(t 65))),(2,(1,(Ci 1)))]),Cl 67 202 [(t 66)],Bc 68 .sub 67 1,Mv 9 68] (.seq (Sr [Fa 69 0 5,Ld 70 69] (.block 0 (Sr [Bc 76 .eql 70 1,Mv 75 76] (Cd 75 (.reg [Mv 77 9,Fa 78 2 5,Ld 79 78,Bn 80 .add 77 79,Mv 9 80]) (Sr [Bc 82 .eql 70 2,Mv 81 82] (Cd 81 (.reg [Mv 83 9,Mv 84 8,Bn 85 .add 83 84,Mv 9 85]) (.reg [Mv 71 9,Fa 72 2 5,Ld 73 72,Bn 74 .add 71 73,Mv 9 74]))))))) (.seq (Sr [Mc 10 0] (.block 1 (.loop (.seq (Sd [Mv 86 10,Bc 87 .lss 86 7,Mv 88 87,Ot 89 88 (.fa 0 (t 5)),Ot 90 88 (.load false 1 (t 89)),Ot 91 88 (.bin .gtr (t 90) (Ci 1)),Oo 92 (.pick (t 88) (t 91) (.const (.bool false))),Mv 93 92,Ot 94 93 (mt 9),Ot 95 93 (.call (.func 259) [(t 94)]),Ot 96 93 (.fa 1 (t 5)),Ot 97 93 (.load false 1 (t 96)),Ot 98 93 (.bin .neq (t 95) (t 97)),Oo 99 (.pick (t 93) (t 98) (.const (.bool false)))] (Cd 99 .skip (.exit 1))) (.seq (.block 2 (Sr [Fa 102 0 5,Ld 103 102,Bc 104 .eql 103 3] (Cd 104 (.reg [Mv 105 9,Bc 106 .add 105 1,Mv 9 106]) (.reg [Mv 107 9,Bc 108 .sub 107 1,Mv 9 108])))) (.reg [Mv 100 10,Bc 101 .add 100 1,Mv 10 101])))))) (.seq (Sr [Mv 109 9,Cl 110 205 [],Cl 111 207 [],Cl 112 132 [(t 109),(t 110),(t 111)],Oo 113 (.un .not (t 112))] (Cd 113 (Sr [Oo 114 (.build [(iv 0),(iv 0),(iv 0)] []),⟨none,none,(.store 3 (t 6) (t 114))⟩,Mc 7 3] .ret) .skip)) (Sr [Mv 115 9,Cl 116 260 [(t 115)],⟨none,none,(.store 3 (t 6) (t 116))⟩,Mc 7 0] .ret)))))))))))
theorem k201:Zaw Tryz.prog 201=some ⟨c201,[(.cell 6 true 3),(.tmp 7)],117⟩:=by kernel_rfl
namespace Civ
def fwd (n k:Int):Int:=n+(k-wd n)%7
def bwd (n k:Int):Int:=n-(wd n-k)%7
theorem ZsF {n k j:Int}(h0:0≤j) (h1:j≤(k-wd n)%7) (hk:0≤k∧k≤6):wd (n+j)=k↔j=(k-wd n)%7:=by unfold wd at *;omega
theorem ZsG {n k j:Int}(h0:0≤j) (h1:j≤(wd n-k)%7) (hk:0≤k∧k≤6):wd (n-j)=k↔j=(wd n-k)%7:=by unfold wd at *;omega
def ZbN (y m kind wk n:Int):Int :=
 if ¬(1≤y∧y≤9999)∨¬(1≤m∧m≤12) then 3
 else if ¬(1≤kind∧kind≤4) then 7
 else if ¬(0≤wk∧wk≤6)∨kind=1∧wk≠0 then 3
 else if kind=2∧n≠0∨kind≠2∧¬(1≤n∧n≤mlen y m) then 3
 else 0
def Zdb (y m kind wk n:Int):Int :=
 if kind=2 then bwd (num y m (mlen y m)) wk else if kind=3 then fwd (num y m n) wk else if kind=4 then bwd (num y m n) wk else num y m n
def onV (y m kind wk n:Int):(Int×Int×Int)×Int :=
 if ZbN y m kind wk n≠0 then ((0,0,0),ZbN y m kind wk n)
 else if -719162≤Zdb y m kind wk n∧Zdb y m kind wk n≤2932896 then (Zbg (Zdb y m kind wk n),0) else ((0,0,0),3)
theorem formE_bd (y m kind wk n:Int):0≤ZbN y m kind wk n∧ZbN y m kind wk n≤7:=by
 unfold ZbN;repeat' split
 all_goals omega
theorem ZjG {y m kind wk n k:Int}(h:ZbN y m kind wk n=k) (hk:k≠0):onV y m kind wk n=((0,0,0),k):=by
 unfold onV;rw[h,if_pos hk]
theorem Zia {y m kind wk n k:Int}(h:ZbN y m kind wk n=0) (hk:Zdb y m kind wk n=k):onV y m kind wk n=if -719162≤k∧k≤2932896 then (Zbg k,0) else ((0,0,0),3):=by
 unfold onV;rw[h,if_neg (by simp),hk]
theorem ZqU (y m d:Int):num y m d=num y m 1+d-1:=by unfold num;omega
theorem ZkX {y m:Int}(hy:1≤y∧y≤20000) (hm:1≤m∧m≤12) : -8000000≤num y m 1∧num y m 1≤8000000:=by
 have:=bef_bd hy.1 hy.2
 have:=Zmw (y:=y) (m:=m) hm.1 om
 unfold num;omega
theorem num_ref1 {y m d:Int}(hm:3≤m) (hm2:m≤12):y/400*146097+y%400*365+y%400/4-y%400/100+(153*(m-3)+2)/5+d-1-719468=num y m d:=by
 have:=lp_iff y
 unfold num cum bef;rw[if_neg om,this];split <;> omega
theorem num_ref2 {y m d:Int}(hm:1≤m) (hm2:m<3):(y-1)/400*146097+(y-1)%400*365+(y-1)%400/4-(y-1)%400/100+(153*(m-3+12)+2)/5+d-1-719468=num y m d:=by
 unfold num cum bef;rw[if_pos om];omega
theorem Zt8 (y:Int):num y 1 1=bef y-719162:=by unfold num;rw[ZuZ];omega
theorem Zk4 {y m k wk n:Int}(h:ZbN y m k wk n=0):(1≤y∧y≤9999)∧(1≤m∧m≤12)∧(1≤k∧k≤4)∧(0≤wk∧wk≤6)∧(k=1→wk=0)∧(k=2→n=0)∧(k≠2→1≤n∧n≤mlen y m):=by
 unfold ZbN at h
 repeat' split at h
 all_goals omega
end Civ
theorem Zlx {n:Int}{h:AH}:Ac 309 [iv n] h (iv (wd n)):=by
 have hb1 : -6≤n.tmod 7∧n.tmod 7≤6:=by rw[Zqz];split <;> omega
 have hb2 : -6≤(n.tmod 7+4).tmod 7∧(n.tmod 7+4).tmod 7≤6:=by rw[Zqz];split <;> omega
 refine tI' k309 fun N hn _ _ hbd=>?_
 simp only[tb'] at hbd ⊢
 refine wk'<|wm<|?_
 refine V' (Zo2 lk lki om) pt ?_
 refine ad<|V' (Zo2 lk lki om) pt ?_
 refine ad<|V' (Zo2 lk lki om) pt ?_
 refine mr<|Zae rz<|rT'<|?_
 exact ivx (wd_go n)
theorem toward_f {n k:Int}{h:AH}(h0 : -100000000≤n) (h1:n≤100000000) (hk:0≤k∧k≤6):Ac 282 [iv n,iv k,iv 1] h (iv (fwd n k)):=by
 refine tI' k282 fun N hn _ _ hbd=>?_
 simp only[tb'] at hbd ⊢
 refine wk'<|Zac<|Zaf<|?_
 refine ZeB (ι:=Nat) (fun (j:Nat)=>[(0,iv (n+j))]++rn' 7 7) (fun (j:Nat)=>[]) (fun (j:Nat)=>(j:Int)≤(k-wd n)%7) (fun (j:Nat)=>7-j) (0) (by have:=wd_bd n;omega) (by try simp only[sm',Nat.reduceAdd];exact ALe.same (by repeat (first | exact wk0 | refine wka ?_ | refine wk1 rfl ?_ | refine wk1 (by first | rfl | exact ivx (by simp)) ?_)) rfl) ?_
 rintro j hi1
 try simp only[sm',Nat.reduceAdd]
 have hwf:=ZsF (n:=n) (k:=k) (j:=j) om hi1 hk
 refine Zac<|wm<|Zad mp (Zlx) pt<|mw<|Vw (Zba lk lk)<|sn'<|?_
 refine cd' lk (fun hc1=>?_) (fun hc1=>?_)
 ·have hj:¬(j:Int)=(k-wd n)%7:=fun e=>hc1 (hwf.2 e)
  refine za<|Zaf<|Zap<|mw<|mw<|?_
  refine V' (ZbM lk lk om om) pt ?_
  refine mw<|Zam<|Zau<|Zaz<|?_
  refine lU' (j+1) (by (try dsimp only);omega) (by refine zz ?_;exact ALe.same (by repeat (first | exact wk0 | refine wka ?_ | refine wk1 rfl ?_ | refine wk1 (by first | rfl | exact ivx om) ?_)) rfl)
 have hj:=hwf.1 (Decidable.of_not_not hc1)
 refine Zay<|Zar<|Zar<|ZaN<|Zan<|wm<|mr<|Zae rz<|rT'<|?_
 refine ivx ?_;unfold fwd;omega
theorem Zo9 {n k:Int}{h:AH}(h0 : -100000000≤n) (h1:n≤100000000) (hk:0≤k∧k≤6):Ac 282 [iv n,iv k,iv (-1)] h (iv (bwd n k)):=by
 refine tI' k282 fun N hn _ _ hbd=>?_
 simp only[tb'] at hbd ⊢
 refine wk'<|Zac<|Zaf<|?_
 refine ZeB (ι:=Nat) (fun (j:Nat)=>[(0,iv (n-j))]++rn' 7 7) (fun (j:Nat)=>[]) (fun (j:Nat)=>(j:Int)≤(wd n-k)%7) (fun (j:Nat)=>7-j) (0) (by have:=wd_bd n;omega) (by try simp only[sm',Nat.reduceAdd];exact ALe.same (by repeat (first | exact wk0 | refine wka ?_ | refine wk1 rfl ?_ | refine wk1 (by first | rfl | exact ivx (by simp)) ?_)) rfl) ?_
 rintro j hi1
 try simp only[sm',Nat.reduceAdd]
 have hwf:=ZsG (n:=n) (k:=k) (j:=j) om hi1 hk
 refine Zac<|wm<|Zad mp (Zlx) pt<|mw<|Vw (Zba lk lk)<|sn'<|?_
 refine cd' lk (fun hc1=>?_) (fun hc1=>?_)
 ·have hj:¬(j:Int)=(wd n-k)%7:=fun e=>hc1 (hwf.2 e)
  refine za<|Zaf<|Zap<|mw<|mw<|?_
  refine V' (ZbM lk lk om om) pt ?_
  refine mw<|Zam<|Zau<|Zaz<|?_
  refine lU' (j+1) (by (try dsimp only);omega) (by refine zz ?_;exact ALe.same (by repeat (first | exact wk0 | refine wka ?_ | refine wk1 rfl ?_ | refine wk1 (by first | rfl | exact ivx om) ?_)) rfl)
 have hj:=hwf.1 (Decidable.of_not_not hc1)
 refine Zay<|Zar<|Zar<|ZaN<|Zan<|wm<|mr<|Zae rz<|rT'<|?_
 refine ivx ?_;unfold bwd;omega
theorem Zbt {n a b:Int}:wi n a b=true↔a≤n∧n≤b:=by unfold wi;simp
theorem Zb8 {n a b:Int}:wi n a b=false↔¬(a≤n∧n≤b):=by rw[←Zbt];simp
theorem form_a {y m k wk n:Int}{h:AH}:Ac 281 [iv y,iv m,.agg [iv k,iv wk,iv n]] h (iv (ZbN y m k wk n)):=by
 refine tI' k281 fun N hn _ _ hbd=>?_
 simp only[tb'] at hbd ⊢
 refine wr'<|E' (ZaR cv rfl hl0 ha0) pt<|ms<|Zac<|Zaf<|wm<|Zad mp (Zb2) pt<|Vw (ZaE lk)<|mw<|?_
 refine Za6 (t:=11) gt pt pt (fun hg11=>?_) (fun hg11=>?_)
 ·refine so<|so<|so<|Vw (Zal lk lkb)<|ms<|Zbb lk<|wo<|?_
  refine Zaq<|Zah<|Zae rz<|rT'<|?_
  refine ivx ?_;unfold ZbN;simp only[Bool.not_eq_true',Bool.not_eq_false',Zbt,Zb8,decide_eq_true_eq,decide_eq_false_iff_not] at *;repeat' split
  all_goals omega
 refine sd<|mw<|sd<|Zad mp (Zb2) pt<|sd<|Vw (ZaE lk)<|Vw (Zaj lk lk)<|ms<|?_
 refine Zav lk (fun hc1=>?_) (fun hc1=>?_)
 ·refine wo<|Zaq<|Zah<|Zae rz<|rT'<|?_
  refine ivx ?_;unfold ZbN;simp only[Bool.not_eq_true',Bool.not_eq_false',Zbt,Zb8,decide_eq_true_eq,decide_eq_false_iff_not] at *;repeat' split
  all_goals omega
 refine wr'<|fq<|Vw (Zaa lk gx gt0)<|Zad mp (Zb2) pt<|Vw (ZaE lk)<|ms<|?_
 refine Zav lk (fun hc2=>?_) (fun hc2=>?_)
 ·refine wo<|Zaq<|Zah<|Zae rz<|rT'<|?_
  refine ivx ?_;unfold ZbN;simp only[Bool.not_eq_true',Bool.not_eq_false',Zbt,Zb8,decide_eq_true_eq,decide_eq_false_iff_not] at *;repeat' split
  all_goals omega
 refine wr'<|fq<|Vw (Zaa lk gx gt1)<|Zad mp (Zb2) pt<|Vw (ZaE lk)<|mw<|?_
 refine Za6 (t:=26) gt pt pt (fun hg26=>?_) (fun hg26=>?_)
 ·refine so<|so<|so<|so<|s_nu gt pt<|s_nu gt pt<|s_nu gt pt<|so<|Vw (Zal lk lkb)<|ms<|Zbb lk<|Zac<|?_
  refine Zap<|mr<|Zaq<|Zah<|Zae rz<|rT'<|?_
  refine ivx ?_;unfold ZbN;simp only[Bool.not_eq_true',Bool.not_eq_false',Zbt,Zb8,decide_eq_true_eq,decide_eq_false_iff_not] at *;repeat' split
  all_goals omega
 refine sd<|fq<|sd<|Vw (Zaa lk gx gt0)<|sd<|Vw (Za7 lk lki)<|sd<|mw<|?_
 refine sp' (t:=30) gt pt pt (fun hg30=>?_) (fun hg30=>?_)
 ·refine sd<|fq<|sd<|Vw (Zaa lk gx gt1)<|sd<|Vw (Zba lk lki)<|sd<|Vw (Zal lk lk)<|Vw (Zaj lk lk)<|ms<|?_
  refine cd' lk (fun hc3=>?_) (fun hc3=>?_)
  ·refine wo<|Zaq<|Zah<|Zae rz<|rT'<|?_
   refine ivx ?_;unfold ZbN;simp only[Bool.not_eq_true',Bool.not_eq_false',Zbt,Zb8,decide_eq_true_eq,decide_eq_false_iff_not] at *;repeat' split
   all_goals omega
  refine Zac<|ZaH<|dg<|Dw (Zaa lk gx gt0)<|Dw (Za7 lk lki)<|Dw vm<|?_
  refine dq' (t:=40) gt pt pt (fun hg40=>?_) (fun hg40=>?_)
  ·refine dO<|dg<|dO<|Dw (Zaa lk gx gt2)<|dO<|Dw (Zba lk lki)<|Dw (Zal lk lk)<|Dw vm<|?_
   refine dq' (t:=45) gt pt pt (fun hg45=>?_) (fun hg45=>?_)
   ·refine dn<|dn<|dn<|dn<|d_nu gt pt<|d_nu gt pt<|d_nu gt pt<|d_nu gt pt<|d_nu gt pt<|d_nu gt pt<|d_nu gt pt<|dn<|Dw (Zal lk lkb)<|Dw vm<|?_
    refine ZaM ?_
    refine Za5 ?_
    refine sn'<|Zbb lk<|wo<|Zaq<|Zah<|Zae rz<|rT'<|?_
    refine ivx ?_;unfold ZbN;simp only[Bool.not_eq_true',Bool.not_eq_false',Zbt,Zb8,decide_eq_true_eq,decide_eq_false_iff_not] at *;repeat' split
    all_goals omega
   refine dO<|dg<|dO<|Dw (Zaa lk gx gt0)<|dO<|Dw (Zba lk lki)<|dO<|Dw vm<|?_
   refine dq' (t:=49) gt pt pt (fun hg49=>?_) (fun hg49=>?_)
   ·refine dO<|dg<|dO<|Dw (Zaa lk gx gt2)<|dO<|Dw vm<|dO<|Dw vm<|dO<|?_
    have hym:(1≤y∧y≤9999)∧(1≤m∧m≤12):=by simp only[Bool.not_eq_true',Bool.not_eq_false',Zbt,Zb8] at *;omega
    refine ZaC mp (fun hE hX=>Zdn om om hym.2.1 hym.2.2) pt ?_
    refine d_do gt ?_
    refine ZaC mp (fun hE hX=>Zb2) pt ?_
    refine dO<|Dw (ZaE lk)<|dO<|Dw (Zal lk lk)<|Dw (Zaj lk lk)<|Dw vm<|ZaM<|?_
    refine Za5 ?_
    refine sn' ?_
    refine Zav lk (fun hc4=>?_) (fun hc4=>?_)
    ·refine wo<|Zaq<|Zah<|Zae rz<|rT'<|?_
     refine ivx ?_;unfold ZbN;simp only[Bool.not_eq_true',Bool.not_eq_false',Zbt,Zb8,decide_eq_true_eq,decide_eq_false_iff_not] at *;repeat' split
     all_goals omega
    refine ZaB<|Zau<|Zan<|wo<|Zae rz<|rT'<|?_
    refine ivx ?_;unfold ZbN;simp only[Bool.not_eq_true',Bool.not_eq_false',Zbt,Zb8,decide_eq_true_eq,decide_eq_false_iff_not] at *;repeat' split
    all_goals omega
   refine dn<|dn<|dn<|dn<|dn<|dn<|dn<|dO<|Dw (Zaj lk lkb)<|Dw (Zaj lk lk)<|Dw vm<|ZaM<|?_
   refine Za5 ?_
   refine sn'<|Za8 lk<|ZaB<|Zau<|Zan<|wo<|Zae rz<|rT'<|?_
   refine ivx ?_;unfold ZbN;simp only[Bool.not_eq_true',Bool.not_eq_false',Zbt,Zb8,decide_eq_true_eq,decide_eq_false_iff_not] at *;repeat' split
   all_goals omega
  refine dn<|dn<|dn<|Dw (Zaj lk lkb)<|Dw vm<|dO<|dg<|dO<|Dw (Zaa lk gx gt0)<|dO<|Dw (Zba lk lki)<|dO<|Dw vm<|?_
  refine dq' (t:=49) gt pt pt (fun hg49=>?_) (fun hg49=>?_)
  ·refine dO<|dg<|dO<|Dw (Zaa lk gx gt2)<|dO<|Dw vm<|dO<|Dw vm<|dO<|?_
   have hym:(1≤y∧y≤9999)∧(1≤m∧m≤12):=by simp only[Bool.not_eq_true',Bool.not_eq_false',Zbt,Zb8] at *;omega
   refine ZaC mp (fun hE hX=>Zdn om om hym.2.1 hym.2.2) pt ?_
   refine d_do gt ?_
   refine ZaC mp (fun hE hX=>Zb2) pt ?_
   refine dO<|Dw (ZaE lk)<|dO<|Dw (Zal lk lk)<|Dw (Zaj lk lk)<|Dw vm<|ZaM<|?_
   refine Za5 ?_
   refine sn' ?_
   refine Zav lk (fun hc4=>?_) (fun hc4=>?_)
   ·refine wo<|Zaq<|Zah<|Zae rz<|rT'<|?_
    refine ivx ?_;unfold ZbN;simp only[Bool.not_eq_true',Bool.not_eq_false',Zbt,Zb8,decide_eq_true_eq,decide_eq_false_iff_not] at *;repeat' split
    all_goals omega
   refine ZaB<|Zau<|Zan<|wo<|Zae rz<|rT'<|?_
   refine ivx ?_;unfold ZbN;simp only[Bool.not_eq_true',Bool.not_eq_false',Zbt,Zb8,decide_eq_true_eq,decide_eq_false_iff_not] at *;repeat' split
   all_goals omega
  refine dn<|dn<|dn<|dn<|dn<|dn<|dn<|dO<|Dw (Zaj lk lkb)<|Dw (Zaj lk lk)<|Dw vm<|ZaM<|?_
  refine Za5 ?_
  refine sn'<|Za8 lk<|ZaB<|Zau<|Zan<|wo<|Zae rz<|rT'<|?_
  refine ivx ?_;unfold ZbN;simp only[Bool.not_eq_true',Bool.not_eq_false',Zbt,Zb8,decide_eq_true_eq,decide_eq_false_iff_not] at *;repeat' split
  all_goals omega
 refine so<|so<|so<|sd<|Vw (Zaj lk lkb)<|Vw (Zaj lk lk)<|ms<|Za8 lk<|Zac<|ZaH<|dg<|Dw (Zaa lk gx gt0)<|?_
 refine Dw (Za7 lk lki)<|Dw vm<|?_
 refine dq' (t:=40) gt pt pt (fun hg40=>?_) (fun hg40=>?_)
 ·refine dO<|dg<|dO<|Dw (Zaa lk gx gt2)<|dO<|Dw (Zba lk lki)<|Dw (Zal lk lk)<|Dw vm<|?_
  refine dq' (t:=45) gt pt pt (fun hg45=>?_) (fun hg45=>?_)
  ·refine dn<|dn<|dn<|dn<|d_nu gt pt<|d_nu gt pt<|d_nu gt pt<|d_nu gt pt<|d_nu gt pt<|d_nu gt pt<|d_nu gt pt<|dn<|Dw (Zal lk lkb)<|Dw vm<|?_
   refine ZaM ?_
   refine Za5 ?_
   refine sn'<|Zbb lk<|wo<|Zaq<|Zah<|Zae rz<|rT'<|?_
   refine ivx ?_;unfold ZbN;simp only[Bool.not_eq_true',Bool.not_eq_false',Zbt,Zb8,decide_eq_true_eq,decide_eq_false_iff_not] at *;repeat' split
   all_goals omega
  refine dO<|dg<|dO<|Dw (Zaa lk gx gt0)<|dO<|Dw (Zba lk lki)<|dO<|Dw vm<|?_
  refine dq' (t:=49) gt pt pt (fun hg49=>?_) (fun hg49=>?_)
  ·refine dO<|dg<|dO<|Dw (Zaa lk gx gt2)<|dO<|Dw vm<|dO<|Dw vm<|dO<|?_
   have hym:(1≤y∧y≤9999)∧(1≤m∧m≤12):=by simp only[Bool.not_eq_true',Bool.not_eq_false',Zbt,Zb8] at *;omega
   refine ZaC mp (fun hE hX=>Zdn om om hym.2.1 hym.2.2) pt ?_
   refine d_do gt ?_
   refine ZaC mp (fun hE hX=>Zb2) pt ?_
   refine dO<|Dw (ZaE lk)<|dO<|Dw (Zal lk lk)<|Dw (Zaj lk lk)<|Dw vm<|ZaM<|?_
   refine Za5 ?_
   refine sn' ?_
   refine Zav lk (fun hc4=>?_) (fun hc4=>?_)
   ·refine wo<|Zaq<|Zah<|Zae rz<|rT'<|?_
    refine ivx ?_;unfold ZbN;simp only[Bool.not_eq_true',Bool.not_eq_false',Zbt,Zb8,decide_eq_true_eq,decide_eq_false_iff_not] at *;repeat' split
    all_goals omega
   refine ZaB<|Zau<|Zan<|wo<|Zae rz<|rT'<|?_
   refine ivx ?_;unfold ZbN;simp only[Bool.not_eq_true',Bool.not_eq_false',Zbt,Zb8,decide_eq_true_eq,decide_eq_false_iff_not] at *;repeat' split
   all_goals omega
  refine dn<|dn<|dn<|dn<|dn<|dn<|dn<|dO<|Dw (Zaj lk lkb)<|Dw (Zaj lk lk)<|Dw vm<|ZaM<|?_
  refine Za5 ?_
  refine sn'<|Za8 lk<|ZaB<|Zau<|Zan<|wo<|Zae rz<|rT'<|?_
  refine ivx ?_;unfold ZbN;simp only[Bool.not_eq_true',Bool.not_eq_false',Zbt,Zb8,decide_eq_true_eq,decide_eq_false_iff_not] at *;repeat' split
  all_goals omega
 refine dn<|dn<|dn<|Dw (Zaj lk lkb)<|Dw vm<|dO<|dg<|dO<|Dw (Zaa lk gx gt0)<|dO<|Dw (Zba lk lki)<|dO<|Dw vm<|?_
 refine dq' (t:=49) gt pt pt (fun hg49=>?_) (fun hg49=>?_)
 ·refine dO<|dg<|dO<|Dw (Zaa lk gx gt2)<|dO<|Dw vm<|dO<|Dw vm<|dO<|?_
  have hym:(1≤y∧y≤9999)∧(1≤m∧m≤12):=by simp only[Bool.not_eq_true',Bool.not_eq_false',Zbt,Zb8] at *;omega
  refine ZaC mp (fun hE hX=>Zdn om om hym.2.1 hym.2.2) pt ?_
  refine d_do gt ?_
  refine ZaC mp (fun hE hX=>Zb2) pt ?_
  refine dO<|Dw (ZaE lk)<|dO<|Dw (Zal lk lk)<|Dw (Zaj lk lk)<|Dw vm<|ZaM<|?_
  refine Za5 ?_
  refine sn' ?_
  refine Zav lk (fun hc4=>?_) (fun hc4=>?_)
  ·refine wo<|Zaq<|Zah<|Zae rz<|rT'<|?_
   refine ivx ?_;unfold ZbN;simp only[Bool.not_eq_true',Bool.not_eq_false',Zbt,Zb8,decide_eq_true_eq,decide_eq_false_iff_not] at *;repeat' split
   all_goals omega
  refine ZaB<|Zau<|Zan<|wo<|Zae rz<|rT'<|?_
  refine ivx ?_;unfold ZbN;simp only[Bool.not_eq_true',Bool.not_eq_false',Zbt,Zb8,decide_eq_true_eq,decide_eq_false_iff_not] at *;repeat' split
  all_goals omega
 refine dn<|dn<|dn<|dn<|dn<|dn<|dn<|dO<|Dw (Zaj lk lkb)<|Dw (Zaj lk lk)<|Dw vm<|ZaM<|?_
 refine Za5 ?_
 refine sn'<|Za8 lk<|ZaB<|Zau<|Zan<|wo<|Zae rz<|rT'<|?_
 refine ivx ?_;unfold ZbN;simp only[Bool.not_eq_true',Bool.not_eq_false',Zbt,Zb8,decide_eq_true_eq,decide_eq_false_iff_not] at *;repeat' split
 all_goals omega
theorem on_a {y m k wk n:Int}{h:AH}:Ac 234 [iv y,iv m,.agg [iv k,iv wk,iv n]] h (.tup [.agg [iv (onV y m k wk n).1.1,iv (onV y m k wk n).1.2.1,iv (onV y m k wk n).1.2.2],iv (onV y m k wk n).2]):=by
 have hfb:=formE_bd y m k wk n
 refine tI' k234 fun N hn _ _ hbd=>?_
 simp only[tb'] at hbd ⊢
 refine wr'<|E' (ZaR cv rfl hl0 ha0) pt<|E' (ZaV hl1 ha1) pt<|ms<|Zac<|wm<|mw<|Vw (Zag lk gx Zbh rfl)<|Zad mp (form_a) pt<|?_
 refine ms<|wm<|Vw (Zba lk lki)<|sn'<|?_
 refine cd' lk (fun hc1=>?_) (fun hc1=>?_)
 ·have hv:=ZjG (y:=y) (m:=m) (kind:=k) (wk:=wk) (n:=n) rfl hc1
  refine wr'<|Vw (Zat Zsx)<|mw<|E' (Zai lk cv gx rfl nb rfl Zby hs1) ptn<|mr<|Zah<|Zae (rsn (rm1 (rr_c gt gx (ld1 Zbh rfl)) (rm1 (rr_t gt) rm0)))<|rT'<|?_
  rw[hv]
 have he:ZbN y m k wk n=0:=Decidable.of_not_not hc1
 obtain⟨hy,hm,hk,hw,hk1,hk2,hn3⟩:=Zk4 he
 have hnb:=ZkX (y:=y) (m:=m) ⟨hy.1,by omega⟩ hm
 have hml:=Zdc y m
 have hn':0≤n∧n≤31:=by by_cases e:k=2 <;> simp_all <;> omega
 refine za<|wm<|mw<|Vw (Zat (Zsw cv rfl cv rfl (cvl lki rfl) rfl))<|?_
 refine Zad mp (ZhL om om om om om om) pt ?_
 refine ms<|wm<|fq<|Vw (Zaa lk gx gt2)<|?_
 refine V' (ZbM lk lk om om) pt ?_
 refine V' (Za3 lk lki om om) pt ?_
 refine ms<|Zac<|wr'<|fq<|Vw (Zaa lk gx gt0)<|sn'<|Zaf<|wr'<|Vw (Za7 lk lki)<|?_
 refine ms<|?_
 refine cd' lk (fun hc2=>?_) (fun hc2=>?_)
 ·have hd:Zdb y m k wk n=bwd (num y m 1+mlen y m-1) wk:=by unfold Zdb;rw[if_pos hc2,ZqU y m (mlen y m)]
  refine ZaH<|Dw vm<|Dw vm<|Dw vm<|?_
  refine ZaC mp (fun hE hX=>Zdn om om hm.1 hm.2) pt ?_
  refine D' (ZbM lk lk om om) pt ?_
  refine D' (Za3 lk lki om om) pt ?_
  refine dg<|Dw (Zaa lk gx gt1)<|?_
  refine ZaC mp (fun hE hX=>Zo9 om om hw) pt ?_
  refine Dw vm<|ZaM<|?_
  refine Za5 ?_
  refine Zam<|Zau<|Zan<|wm<|Zad mp (of_a) pt<|Vw (ZaQ lk gt)<|Vw (ZaQ lk gt)<|E' (Zai lk cv gx rfl nb rfl Zby hs1) ptn<|mr<|?_
  refine Zae (rsn (rm1 (rr_c gt gx (ld1 Zbh rfl)) (rm1 (rr_t gt) rm0)))<|rT'<|?_
  rw[Zia he hd];split <;> rfl
 refine wr'<|Vw (Za7 lk lki)<|ms<|?_
 refine cd' lk (fun hc3=>?_) (fun hc3=>?_)
 ·have hd:Zdb y m k wk n=fwd (num y m 1+n-1) wk:=by unfold Zdb;rw[if_neg hc2,if_pos hc3,ZqU y m n]
  refine Zap<|mw<|fq<|Vw (Zaa lk gx gt1)<|?_
  refine Zad mp (toward_f om om hw) pt ?_
  refine mw<|Zam<|Zau<|Zan<|wm<|Zad mp (of_a) pt<|Vw (ZaQ lk gt)<|Vw (ZaQ lk gt)<|E' (Zai lk cv gx rfl nb rfl Zby hs1) ptn<|ms<|?_
  refine Zbe<|Zae (rsn (rm1 (rr_c gt gx (ld1 Zbh rfl)) (rm1 (rr_t gt) rm0)))<|rT'<|?_
  rw[Zia he hd];split <;> rfl
 refine wr'<|Vw (Za7 lk lki)<|ms<|?_
 refine cd' lk (fun hc4=>?_) (fun hc4=>?_)
 ·have hd:Zdb y m k wk n=bwd (num y m 1+n-1) wk:=by unfold Zdb;rw[if_neg hc2,if_neg hc3,if_pos hc4,ZqU y m n]
  refine Zap<|mw<|fq<|Vw (Zaa lk gx gt1)<|?_
  refine Zad mp (Zo9 om om hw) pt ?_
  refine mw<|Zam<|Zau<|Zan<|wm<|Zad mp (of_a) pt<|Vw (ZaQ lk gt)<|Vw (ZaQ lk gt)<|E' (Zai lk cv gx rfl nb rfl Zby hs1) ptn<|ms<|?_
  refine Zbe<|Zae (rsn (rm1 (rr_c gt gx (ld1 Zbh rfl)) (rm1 (rr_t gt) rm0)))<|rT'<|?_
  rw[Zia he hd];split <;> rfl
 have hd:Zdb y m k wk n=num y m 1+n-1:=by unfold Zdb;rw[if_neg hc2,if_neg hc3,if_neg hc4,ZqU y m n]
 refine ZaB<|Zau<|Zan<|wm<|Zad mp (of_a) pt<|Vw (ZaQ lk gt)<|Vw (ZaQ lk gt)<|E' (Zai lk cv gx rfl nb rfl Zby hs1) ptn<|mr<|?_
 refine Zae (rsn (rm1 (rr_c gt gx (ld1 Zbh rfl)) (rm1 (rr_t gt) rm0)))<|rT'<|?_
 rw[Zia he hd];split <;> rfl
theorem ZbO {n a b:Int}{h:AH}:Ac 132 [iv n,iv a,iv b] h (bv (wi n a b)):=Zek
theorem Zf7 {y:Int}{h:AH}(h0:0≤y):Ac 304 [iv y] h (bv (Zjb y)):=by
 refine tI' k304 fun N hn _ _ hbd=>?_
 simp only[tb'] at hbd ⊢
 refine wk'<|wm<|?_
 refine V' (ZfV lk lki om om) pt ?_
 refine Vw (Za7 lk lki)<|mw<|?_
 refine sp' (t:=6) gt pt pt (fun hg6=>?_) (fun hg6=>?_)
 ·refine so<|so<|so<|so<|s_nu gt pt<|s_nu gt pt<|s_nu gt pt<|so<|Vw (Zal lk lkb)<|mr<|Zae rz<|?_
  refine rT' ?_
  refine bvx ?_;unfold Zjb;rw[Bool.eq_iff_iff];simp at *;omega
 refine sd<|mw<|sd<|?_
 refine V' (ZfV lk lki om om) pt ?_
 refine sd<|Vw (Za7 lk lki)<|sd<|mw<|?_
 refine sp' (t:=10) gt pt pt (fun hg10=>?_) (fun hg10=>?_)
 ·refine sd<|mw<|sd<|?_
  refine V' (ZfV lk lki om om) pt ?_
  refine sd<|Vw (Zba lk lki)<|sd<|Vw (Zal lk lk)<|Vw (Zaj lk lk)<|mr<|Zae rz<|rT'<|?_
  refine bvx ?_;unfold Zjb;rw[Bool.eq_iff_iff];simp at *;omega
 refine so<|so<|so<|sd<|Vw (Zaj lk lkb)<|Vw (Zaj lk lk)<|mr<|Zae rz<|rT'<|?_
 refine bvx ?_;unfold Zjb;rw[Bool.eq_iff_iff];simp at *;omega
theorem Znp {y m:Int}{h:AH}(h0:0≤y):Ac 258 [iv y,iv m] h (iv (mlen y m)):=by
 refine tI' k258 fun N hn _ _ hbd=>?_
 simp only[tb'] at hbd ⊢
 refine wk'<|Zac<|wk'<|Zaf<|Zac<|Zac<|?_
 refine Zap<|Vw (Za7 lk lki)<|ms<|?_
 refine cd' lk (fun hc1=>?_) (fun hc1=>?_)
 ·refine za<|?_
  refine cd' lk (fun hc4=>?_) (fun hc4=>?_)
  ·refine wo<|Zaq<|Zah<|Zae rz<|rT'<|?_
   refine ivx ?_;unfold mlen lp;simp_all
  refine wr'<|Vw (Za7 lk lki)<|ms<|?_
  refine cd' lk (fun hc5=>?_) (fun hc5=>?_)
  ·refine Zac<|wm<|Zad mp (Zf7 h0) pt<|sn'<|?_
   refine Zav lk (fun hc6=>?_) (fun hc6=>?_)
   ·refine wo<|Zah<|Zaq<|Zah<|Zae rz<|rT'<|?_
    refine ivx ?_;unfold mlen lp;simp_all
   refine za<|wo<|Zaq<|Zah<|Zae rz<|rT'<|?_
   refine ivx ?_;unfold mlen lp;simp_all
  refine ZaB<|Zau<|Zan<|wo<|Zae rz<|rT'<|?_
  refine ivx ?_;unfold mlen lp;simp_all
 refine wr'<|Vw (Za7 lk lki)<|ms<|?_
 refine cd' lk (fun hc2=>?_) (fun hc2=>?_)
 ·refine za<|?_
  refine cd' lk (fun hc4=>?_) (fun hc4=>?_)
  ·refine wo<|Zaq<|Zah<|Zae rz<|rT'<|?_
   refine ivx ?_;unfold mlen lp;simp_all
  refine wr'<|Vw (Za7 lk lki)<|ms<|?_
  refine cd' lk (fun hc5=>?_) (fun hc5=>?_)
  ·refine Zac<|wm<|Zad mp (Zf7 h0) pt<|sn'<|?_
   refine Zav lk (fun hc6=>?_) (fun hc6=>?_)
   ·refine wo<|Zah<|Zaq<|Zah<|Zae rz<|rT'<|?_
    refine ivx ?_;unfold mlen lp;simp_all
   refine za<|wo<|Zaq<|Zah<|Zae rz<|rT'<|?_
   refine ivx ?_;unfold mlen lp;simp_all
  refine ZaB<|Zau<|Zan<|wo<|Zae rz<|rT'<|?_
  refine ivx ?_;unfold mlen lp;simp_all
 refine wr'<|Vw (Za7 lk lki)<|ms<|?_
 refine cd' lk (fun hc3=>?_) (fun hc3=>?_)
 ·refine za<|?_
  refine cd' lk (fun hc4=>?_) (fun hc4=>?_)
  ·refine wo<|Zaq<|Zah<|Zae rz<|rT'<|?_
   refine ivx ?_;unfold mlen lp;simp_all
  refine wr'<|Vw (Za7 lk lki)<|ms<|?_
  refine cd' lk (fun hc5=>?_) (fun hc5=>?_)
  ·refine Zac<|wm<|Zad mp (Zf7 h0) pt<|sn'<|?_
   refine Zav lk (fun hc6=>?_) (fun hc6=>?_)
   ·refine wo<|Zah<|Zaq<|Zah<|Zae rz<|rT'<|?_
    refine ivx ?_;unfold mlen lp;simp_all
   refine za<|wo<|Zaq<|Zah<|Zae rz<|rT'<|?_
   refine ivx ?_;unfold mlen lp;simp_all
  refine ZaB<|Zau<|Zan<|wo<|Zae rz<|rT'<|?_
  refine ivx ?_;unfold mlen lp;simp_all
 refine Zap<|Vw (Za7 lk lki)<|ms<|?_
 refine cd' lk (fun hc4=>?_) (fun hc4=>?_)
 ·refine wo<|Zaq<|Zah<|Zae rz<|rT'<|?_
  refine ivx ?_;unfold mlen lp;simp_all
 refine wr'<|Vw (Za7 lk lki)<|ms<|?_
 refine cd' lk (fun hc5=>?_) (fun hc5=>?_)
 ·refine Zac<|wm<|Zad mp (Zf7 h0) pt<|sn'<|?_
  refine Zav lk (fun hc6=>?_) (fun hc6=>?_)
  ·refine wo<|Zah<|Zaq<|Zah<|Zae rz<|rT'<|?_
   refine ivx ?_;unfold mlen lp;simp_all
  refine za<|wo<|Zaq<|Zah<|Zae rz<|rT'<|?_
  refine ivx ?_;unfold mlen lp;simp_all
 refine ZaB<|Zau<|Zan<|wo<|Zae rz<|rT'<|?_
 refine ivx ?_;unfold mlen lp;simp_all
theorem ZcY {y m d:Int}{h:AH}(y0:1≤y) (y1:y≤20000) (m0:1≤m) (m1:m≤12) (d0 : -1000≤d) (d1:d≤1000):Ac 202 [.agg [iv y,iv m,iv d]] h (iv (num y m d)):=by
 refine tI' k202 fun N hn _ _ hbd=>?_
 simp only[tb'] at hbd ⊢
 refine wr'<|E' (ZaR cv rfl hl0 ha0) pt<|ms<|Zac<|ZaH<|dg<|Dw (Zaa lk gx gt0)<|dg<|Dw (Zaa lk gx gt1)<|?_
 refine D' (Za3 lk lki om om) pt ?_
 refine Dw vm<|Dw vm<|ZaM<|?_
 refine Za5 ?_
 refine sn'<|Zac<|wm<|Vw (ZaO lk lki)<|sn'<|?_
 refine cd' lk (fun hc1=>?_) (fun hc1=>?_)
 ·refine wm<|?_
  refine V' (Za3 lk lki om om) pt ?_
  refine ms<|Zap<|mw<|?_
  refine ad<|ms<|wm<|?_
  refine V' (ZgE lk lki om om om) pt ?_
  refine V' (ZfB lk lki om om) pt ?_
  refine mv' lk pt ?_
  refine V' (ZfV lk lki om om) pt ?_
  refine V' (ZfB lk lki om om) pt ?_
  refine V' (ZbM lk lk om om) pt ?_
  refine mv' lk pt ?_
  refine V' (ZfV lk lki om om) pt ?_
  refine V' (ZgE lk lki om om om) pt ?_
  refine V' (ZbM lk lk om om) pt ?_
  refine mv' lk pt ?_
  refine V' (ZfV lk lki om om) pt ?_
  refine V' (ZgE lk lki om om om) pt ?_
  refine V' (Za3 lk lk om om) pt ?_
  refine ms<|wm<|mw<|?_
  refine V' (ZfB lki lk om om) pt ?_
  refine ad<|V' (ZgE lk lki om om om) pt ?_
  refine V' (ZbM lk lk om om) pt ?_
  refine fq<|Vw (Zaa lk gx gt2)<|?_
  refine V' (ZbM lk lk om om) pt ?_
  refine V' (Za3 lk lki om om) pt ?_
  refine V' (Za3 lk lki om om) pt ?_
  refine mr<|Zae rz<|rT'<|?_
  refine ivx ?_;rw[←num_ref2 m0 om]
 refine za<|wm<|?_
 refine V' (ZgE lk lki om om om) pt ?_
 refine V' (ZfB lk lki om om) pt ?_
 refine mv' lk pt ?_
 refine V' (ZfV lk lki om om) pt ?_
 refine V' (ZfB lk lki om om) pt ?_
 refine V' (ZbM lk lk om om) pt ?_
 refine mv' lk pt ?_
 refine V' (ZfV lk lki om om) pt ?_
 refine V' (ZgE lk lki om om om) pt ?_
 refine V' (ZbM lk lk om om) pt ?_
 refine mv' lk pt ?_
 refine V' (ZfV lk lki om om) pt ?_
 refine V' (ZgE lk lki om om om) pt ?_
 refine V' (Za3 lk lk om om) pt ?_
 refine ms<|wm<|mw<|?_
 refine V' (ZfB lki lk om om) pt ?_
 refine ad<|V' (ZgE lk lki om om om) pt ?_
 refine V' (ZbM lk lk om om) pt ?_
 refine fq<|Vw (Zaa lk gx gt2)<|?_
 refine V' (ZbM lk lk om om) pt ?_
 refine V' (Za3 lk lki om om) pt ?_
 refine V' (Za3 lk lki om om) pt ?_
 refine mr<|Zae rz<|rT'<|?_
 refine ivx ?_;rw[←num_ref1 om m1]
theorem Zpk {h:AH}:Ac 205 [] h (iv (-719162)):=by
 refine tI' k205 fun N hn _ _ hbd=>?_
 simp only[tb'] at hbd ⊢
 refine wk'<|wr'<|Vw (Zat (Zi4 (cvl lki rfl) rfl (cvl lki rfl) rfl (cvl lki rfl) rfl))<|?_
 refine Zad mp (ZcY om om om om om om) pt ?_
 refine mr<|Zae rz<|rT'<|?_
 exact ivx (by decide)
theorem Ztw {h:AH}:Ac 207 [] h (iv 2932896):=by
 refine tI' k207 fun N hn _ _ hbd=>?_
 simp only[tb'] at hbd ⊢
 refine wk'<|wr'<|Vw (Zat (Zjn (cvl lki rfl) rfl (cvl lki rfl) rfl (cvl lki rfl) rfl))<|?_
 refine Zad mp (ZcY om om om om om om) pt ?_
 refine mr<|Zae rz<|rT'<|?_
 exact ivx (by decide)
theorem ZqH {n:Int}{h:AH}:Ac 259 [iv n] h (iv (wd n)):=by
 have hb1 : -6≤n.tmod 7∧n.tmod 7≤6:=by rw[Zqz];split <;> omega
 refine tI' k259 fun N hn _ _ hbd=>?_
 simp only[tb'] at hbd ⊢
 refine wk'<|wm<|?_
 refine V' (Zo2 lk lki om) pt ?_
 refine ms<|Zac<|wm<|Vw (ZaO lk lki)<|sn'<|?_
 refine cd' lk (fun hc1=>?_) (fun hc1=>?_)
 ·refine Zap<|mw<|?_
  refine ad<|ms<|wm<|?_
  refine ad<|V' (ZfV lk lki om om) pt ?_
  refine mr<|Zae rz<|rT'<|?_
  refine ivx ?_;unfold wd;rw[Zqz] at *;split at * <;> omega
 refine za<|wm<|?_
 refine ad<|V' (ZfV lk lki om om) pt ?_
 refine mr<|Zae rz<|rT'<|?_
 refine ivx ?_;unfold wd;rw[Zqz] at *;split at * <;> omega
theorem ZtE {n:Int}{h:AH}(h0 : -719162≤n) (h1:n≤2932896):Ac 260 [iv n] h (dateA (Zbg n)):=by
 refine tI' k260 fun N hn _ _ hbd=>?_
 simp only[tb'] at hbd ⊢
 refine wr'<|E' (ZaV hl0 ha0) pt<|sn'<|wm<|ms<|Zac<|Zaf<|?_
 refine w_lp (ι:=Int×Int) (fun (x_:Int×Int)=>match x_ with | ⟨y,z⟩=>[(3,iv y),(4,iv z),(5,.any)]++rn' 7 15) (fun (x_:Int×Int)=>match x_ with | ⟨y,z⟩=>[]) (fun (x_:Int×Int)=>match x_ with | ⟨y,z⟩=>1≤y∧y<z∧z≤10000∧num y 1 1≤n∧n<num z 1 1) (fun (x_:Int×Int)=>match x_ with | ⟨y,z⟩=>(z-y).toNat) (⟨1,10000⟩) (by exact⟨by omega,by omega,by omega,by rw[Zt8,bef_1];omega,by rw[Zt8,Zc7];omega⟩) ?_
 rintro⟨y,z⟩ hi1
 try simp only[sm',Nat.reduceAdd]
 obtain⟨hy,hyz,hz,hn1,hn2⟩:=hi1
 refine Zac<|wm<|mw<|?_
 refine V' (Za3 lk lk om om) pt ?_
 refine Vw (ZbE lk lki)<|sn'<|?_
 refine cd' lk (fun hc1=>?_) (fun hc1=>?_)
 ·refine za<|Zaf<|wm<|mw<|?_
  refine V' (ZbM lk lk om om) pt ?_
  refine V' (ZgE lk lki om om om) pt ?_
  refine ms<|wm<|Vw (Zat (Zjp cv rfl (cvl lki rfl) rfl (cvl lki rfl) rfl))<|?_
  refine Zad mp (ZcY om om om om om om) pt ?_
  refine mw<|Vw (ZdF lk lk)<|sn'<|?_
  refine cd' lk (fun hc2=>?_) (fun hc2=>?_)
  ·refine Zap<|mw<|mw<|Zam<|Zau<|Zaz<|?_
   refine lU' (⟨(y+z)/2,z⟩) (by (try dsimp only);exact⟨by omega,by omega,by omega,by omega,by omega⟩) (by refine zz ?_;exact ALe.same (by repeat (first | exact wk0 | refine wka ?_ | refine wk1 rfl ?_ | refine wk1 (by first | rfl | exact ivx om | (simp;done)) ?_)) rfl)
  refine Zap<|mw<|mw<|Zam<|Zau<|Zaz<|?_
  refine lU' (⟨y,(y+z)/2⟩) (by (try dsimp only);exact⟨by omega,by omega,by omega,by omega,by omega⟩) (by refine zz ?_;exact ALe.same (by repeat (first | exact wk0 | refine wka ?_ | refine wk1 rfl ?_ | refine wk1 (by first | rfl | exact ivx om | (simp;done)) ?_)) rfl)
 obtain rfl:z=y+1:=by omega
 have hup:num y 12 1+mlen y 12=num (y+1) 1 1:=by rw[Zt8,Zfi];unfold num cum mlen;simp;omega
 refine Zay<|Zar<|Zar<|ZaN<|Zan<|wm<|Vw (Zat (Zjo cv rfl (cvl lki rfl) rfl (cvl lki rfl) rfl))<|E' (ZaV hl1 ha1) pt<|E' (Zai lk cv gx rfl nb rfl Zby hs1) ptn<|sn'<|Zac<|?_
 refine Zaf ?_
 refine w_lp (ι:=Int) (fun (m:Int)=>[]++rn' 24 8) (fun (m:Int)=>[(1,.mk 0 79 3 [iv y,iv m,iv 1])]) (fun (m:Int)=>1≤m∧m≤12∧n<num y m 1+mlen y m) (fun (m:Int)=>m.toNat) (12) (by exact⟨by omega,by omega,by rw[hup];exact hn2⟩) ?_
 rintro m hi2
 try simp only[sm',Nat.reduceAdd]
 obtain⟨hm0,hm1,hn3⟩:=hi2
 refine Zac<|wr'<|Vw (Zag lk gx Zbh rfl)<|?_
 refine Zad mp (ZcY om om om om om om) pt ?_
 refine mw<|Vw (ZbE lk lk)<|sn'<|?_
 refine cd' lk (fun hc3=>?_) (fun hc3=>?_)
 ·have hm2:2≤m:=by
   rcases Int.lt_or_le m 2 with c | c
   ·obtain rfl:m=1:=by omega
    omega
   exact c
  have hst:num y (m-1) 1+mlen y (m-1)=num y m 1:=by have:=Zgl (y:=y) (m:=m-1) om om;rw[show m-1+1=m by omega] at this;unfold num;omega
  refine za<|Zaf<|Zap<|fq<|Vw (Zaa lk gx gt1)<|?_
  refine V' (Za3 lk lki om om) pt ?_
  refine fq<|E' (Zai lk cv gx rfl nb rfl Zsv hs1) ptn<|Zam<|Zau<|Zaz<|?_
  refine lT' (m-1) (by (try dsimp only);exact⟨by omega,by omega,by rw[hst];exact hc3⟩)
 have hd:Zbq y m (n-num y m 1+1)=true:=by
  have h1:=Zl4 (ZbQ.2 ⟨hy,by omega,hm0,hm1,by omega,by have:=Zdc y m;omega⟩:Zbq y m 1=true)
  rw[ZbQ];omega
 have hdn:num y m (n-num y m 1+1)=n:=by unfold num;omega
 have hde:=ZuW hd hdn
 have hnb:=ZkX (y:=y) (m:=m) ⟨hy,by omega⟩ ⟨hm0,hm1⟩
 refine Zay<|Zar<|Zar<|ZaN<|Zan<|wm<|Vw (Zag lk gx Zbh rfl)<|?_
 refine Zad mp (ZcY om om om om om om) pt ?_
 refine V' (Za3 lk lk om om) pt ?_
 refine ad<|fq<|E' (Zai lk cv gx rfl nb rfl Zsu hs1) ptn<|sn'<|wr'<|Vw (Zag lk gx Zbh rfl)<|E' (Zai lk cv gx rfl nb rfl Zby hs0) ptn<|sr<|Zae (rs1 (rr_c gt gx (ld1 Zbh rfl)))<|rT'<|?_
 rw[hde]
def onSt (y m k n:Int):Int:=num y m 1-1+if k=2 then mlen y m else n
def onGo (k wk s:Int) (j:Nat):Int:=if k=3 then s+j else s-j
def ZgN (k wk s:Int):Int:=if k≤1 then 0 else if k=3 then (wk-wd s)%7 else (wd s-wk)%7
theorem ZhK (k wk s:Int):0≤ZgN k wk s∧ZgN k wk s≤6:=by
 unfold ZgN
 repeat' split
 all_goals omega
theorem onGo_go {k wk s:Int}{j:Nat}(hw:0≤wk∧wk≤6) (hj:(j:Int)≤ZgN k wk s) (h:j<7∧1<k∧wd (onGo k wk s j)≠wk):(j:Int)+1≤ZgN k wk s:=by
 have h1:=ZsF (n:=s) (k:=wk) (j:=j) om
 have h2:=ZsG (n:=s) (k:=wk) (j:=j) om
 unfold ZgN onGo at *
 rw[if_neg om] at hj ⊢
 split at hj <;> rename_i h3
 ·simp only[h3,if_true] at h ⊢
  have:=h1 hj hw
  omega
 simp only[h3,if_false] at h ⊢
 have:=h2 hj hw
 omega
theorem onGo_end {y m k wk n:Int}{j:Nat}(hk:1≤k∧k≤4) (hw:0≤wk∧wk≤6) (hj:(j:Int)≤ZgN k wk (onSt y m k n)) (h:¬(j<7∧1<k∧wd (onGo k wk (onSt y m k n) j)≠wk)):Zdb y m k wk n=onGo k wk (onSt y m k n) j:=by
 have hb:=ZhK k wk (onSt y m k n)
 have h1:=ZsF (n:=onSt y m k n) (k:=wk) (j:=j) om
 have h2:=ZsG (n:=onSt y m k n) (k:=wk) (j:=j) om
 have e1:=ZqU y m n
 have e2:=ZqU y m (mlen y m)
 have h5:k=1∨k=2∨k=3∨k=4:=by omega
 rcases h5 with rfl | rfl | rfl | rfl
 ·simp only[ZgN,onGo,onSt,Zdb,fwd,bwd] at *
  simp at hj ⊢
  omega
 ·simp only[ZgN,onGo,onSt,Zdb,fwd,bwd] at *
  simp at hj h h1 h2 ⊢
  rw[show num y m (mlen y m)=num y m 1-1+mlen y m by omega]
  omega
 ·simp only[ZgN,onGo,onSt,Zdb,fwd,bwd] at *
  simp at hj h h1 h2 ⊢
  rw[show num y m n=num y m 1-1+n by omega]
  omega
 simp only[ZgN,onGo,onSt,Zdb,fwd,bwd] at *
 simp at hj h h1 h2 ⊢
 rw[show num y m n=num y m 1-1+n by omega]
 omega
theorem onSt_bd {y m k n:Int}(hy:1≤y∧y≤20000) (hm:1≤m∧m≤12) (hn:k≠2→1≤n∧n≤mlen y m) : -8000010≤onSt y m k n∧onSt y m k n≤8000040:=by
 have h1:=ZkX hy hm
 have h2:=Zdc y m
 unfold onSt;split
 ·omega
 have:=hn (by assumption);omega
theorem onGo_bd {k wk s:Int}{j:Nat}(h:(j:Int)≤ZgN k wk s):s-6≤onGo k wk s j∧onGo k wk s j≤s+6:=by
 have:=ZhK k wk s
 unfold onGo;split <;> omega
theorem wiB {n a b:Int}:wi n a b=decide (a≤n∧n≤b):=by unfold wi;rw[Bool.decide_and]
theorem ron_a {y m k wk n:Int}{h:AH}:Ac 201 [iv y,iv m,.agg [iv k,iv wk,iv n]] h (.tup [.agg [iv (onV y m k wk n).1.1,iv (onV y m k wk n).1.2.1,iv (onV y m k wk n).1.2.2],iv (onV y m k wk n).2]):=by
 refine tI' k201 fun N hn _ _ hbd=>?_
 simp only[tb'] at hbd ⊢
 refine wr'<|E' (ZaR cv rfl hl0 ha0) pt<|E' (ZaV hl1 ha1) pt<|ms<|Zac<|?_
 refine Zhe (ι:=Unit) (fun (u_:Unit)=>[(18,bv (decide (¬(1≤y∧y≤9999)∨¬(1≤m∧m≤12))))]++rn' 11 7) (fun (u_:Unit)=>[]) (fun (u_:Unit)=>True) ?_ ?_
 ·try simp only[sm',Nat.reduceAdd]
  refine Zap<|mw<|Zad mp (ZbO) pt<|Vw (ZaE lk)<|mw<|?_
  refine Za6 (t:=14) gt pt pt (fun hg14=>?_) (fun hg14=>?_)
  ·refine so<|so<|so<|Vw (Zal lk lkb)<|Zam<|Zaz<|?_
   exact cT' (()) (by trivial) (by refine zz ?_;exact ALe.same (by repeat (first | exact wk0 | refine wka ?_ | refine wk1 rfl ?_ | refine wk1 (by first | rfl | exact bvx (by first | (simp_all [wiB];done) | (rw[Bool.eq_iff_iff];simp_all [wiB];omega) | (rw[Bool.eq_iff_iff];simp_all [wiB];done))) ?_)) rfl)
  refine sd<|mw<|sd<|Zad mp (ZbO) pt<|sd<|Vw (ZaE lk)<|Vw (Zaj lk lk)<|Zam<|Zaz<|?_
  exact cT' (()) (by trivial) (by refine zz ?_;exact ALe.same (by repeat (first | exact wk0 | refine wka ?_ | refine wk1 rfl ?_ | refine wk1 (by first | rfl | exact bvx (by first | (simp_all [wiB];done) | (rw[Bool.eq_iff_iff];simp_all [wiB];omega) | (rw[Bool.eq_iff_iff];simp_all [wiB];done))) ?_)) rfl)
 rintro u_ hq2
 try simp only[sm',Nat.reduceAdd]
 refine cd' lk (fun hc1=>?_) (fun hc1=>?_)
 ·have hv:=ZjG (y:=y) (m:=m) (kind:=k) (wk:=wk) (n:=n) (k:=3) (by unfold ZbN;rw[if_pos hc1]) om
  refine wr'<|Vw (Zat Zm2)<|E' (Zai lk cv gx rfl nb rfl Zby hs1) ptn<|mr<|Zah<|Zae (rsn (rm1 (rr_c gt gx (ld1 Zbh rfl)) (rm1 (rr_t gt) rm0)))<|rT'<|?_
  rw[hv]
 have hym:(1≤y∧y≤9999)∧(1≤m∧m≤12):=by omega
 refine za<|Zac<|wr'<|fq<|Vw (Zaa lk gx gt0)<|Zad mp (ZbO) pt<|Vw (ZaE lk)<|sn'<|?_
 refine Zav lk (fun hc2=>?_) (fun hc2=>?_)
 ·have hk:¬(1≤k∧k≤4):=by have h9:=hc2;simp[wiB] at h9;omega
  have hv:=ZjG (y:=y) (m:=m) (kind:=k) (wk:=wk) (n:=n) (k:=7) (by unfold ZbN;rw[if_neg hc1,if_pos hk]) om
  refine wr'<|Vw (Zat Zm1)<|E' (Zai lk cv gx rfl nb rfl Zby hs1) ptn<|mr<|Zah<|Zae (rsn (rm1 (rr_c gt gx (ld1 Zbh rfl)) (rm1 (rr_t gt) rm0)))<|rT'<|?_
  rw[hv]
 have hk:1≤k∧k≤4:=by have h9:=hc2;simp[wiB] at h9;omega
 refine za<|Zac<|?_
 refine Zhe (ι:=Unit) (fun (u_:Unit)=>[(38,bv (decide (¬(0≤wk∧wk≤6)∨k=1∧wk≠0)))]++rn' 25 13) (fun (u_:Unit)=>[]) (fun (u_:Unit)=>True) ?_ ?_
 ·try simp only[sm',Nat.reduceAdd]
  refine Zap<|fq<|Vw (Zaa lk gx gt1)<|Zad mp (ZbO) pt<|Vw (ZaE lk)<|mw<|?_
  refine Za6 (t:=29) gt pt pt (fun hg29=>?_) (fun hg29=>?_)
  ·refine so<|so<|so<|so<|s_nu gt pt<|s_nu gt pt<|s_nu gt pt<|so<|Vw (Zal lk lkb)<|Zam<|Zaz<|?_
   exact cT' (()) (by trivial) (by refine zz ?_;exact ALe.same (by repeat (first | exact wk0 | refine wka ?_ | refine wk1 rfl ?_ | refine wk1 (by first | rfl | exact bvx (by first | (simp_all [wiB];done) | (rw[Bool.eq_iff_iff];simp_all [wiB];omega) | (rw[Bool.eq_iff_iff];simp_all [wiB];done))) ?_)) rfl)
  refine sd<|fq<|sd<|Vw (Zaa lk gx gt0)<|sd<|Vw (Za7 lk lki)<|sd<|mw<|?_
  refine sp' (t:=33) gt pt pt (fun hg33=>?_) (fun hg33=>?_)
  ·refine sd<|fq<|sd<|Vw (Zaa lk gx gt1)<|sd<|Vw (Zba lk lki)<|sd<|Vw (Zal lk lk)<|Vw (Zaj lk lk)<|Zam<|Zaz<|?_
   exact cT' (()) (by trivial) (by refine zz ?_;exact ALe.same (by repeat (first | exact wk0 | refine wka ?_ | refine wk1 rfl ?_ | refine wk1 (by first | rfl | exact bvx (by first | (simp_all [wiB];done) | (rw[Bool.eq_iff_iff];simp_all [wiB];omega) | (rw[Bool.eq_iff_iff];simp_all [wiB];done))) ?_)) rfl)
  refine so<|so<|so<|sd<|Vw (Zaj lk lkb)<|Vw (Zaj lk lk)<|Zam<|Zaz<|?_
  exact cT' (()) (by trivial) (by refine zz ?_;exact ALe.same (by repeat (first | exact wk0 | refine wka ?_ | refine wk1 rfl ?_ | refine wk1 (by first | rfl | exact bvx (by first | (simp_all [wiB];done) | (rw[Bool.eq_iff_iff];simp_all [wiB];omega) | (rw[Bool.eq_iff_iff];simp_all [wiB];done))) ?_)) rfl)
 rintro u_ hq8
 try simp only[sm',Nat.reduceAdd]
 refine cd' lk (fun hc3=>?_) (fun hc3=>?_)
 ·have hv:=ZjG (y:=y) (m:=m) (kind:=k) (wk:=wk) (n:=n) (k:=3) (by unfold ZbN;rw[if_neg hc1,if_neg om,if_pos hc3]) om
  refine wr'<|Vw (Zat Zm0)<|E' (Zai lk cv gx rfl nb rfl Zby hs1) ptn<|mr<|Zah<|Zae (rsn (rm1 (rr_c gt gx (ld1 Zbh rfl)) (rm1 (rr_t gt) rm0)))<|rT'<|?_
  rw[hv]
 refine za<|wm<|mw<|?_
 refine Zad mp (Znp om) pt ?_
 refine ms<|Zac<|?_
 refine Zhe (ι:=Unit) (fun (u_:Unit)=>[(62,bv (decide (k=2∧n≠0∨k≠2∧¬(1≤n∧n≤mlen y m))))]++rn' 43 19) (fun (u_:Unit)=>[]) (fun (u_:Unit)=>True) ?_ ?_
 ·try simp only[sm',Nat.reduceAdd]
  refine Zap<|fq<|Vw (Zaa lk gx gt0)<|Vw (Za7 lk lki)<|mw<|?_
  refine sp' (t:=46) gt pt pt (fun hg46=>?_) (fun hg46=>?_)
  ·refine sd<|fq<|sd<|Vw (Zaa lk gx gt2)<|sd<|Vw (Zba lk lki)<|Vw (Zal lk lk)<|mw<|?_
   refine sp' (t:=51) gt pt pt (fun hg51=>?_) (fun hg51=>?_)
   ·refine so<|so<|so<|so<|s_nu gt pt<|s_nu gt pt<|s_nu gt pt<|s_nu gt pt<|s_nu gt pt<|so<|Vw (Zal lk lkb)<|Zam<|Zaz<|?_
    exact cT' (()) (by trivial) (by refine zz ?_;exact ALe.same (by repeat (first | exact wk0 | refine wka ?_ | refine wk1 rfl ?_ | refine wk1 (by first | rfl | exact bvx (by first | (simp_all [wiB];done) | (rw[Bool.eq_iff_iff];simp_all [wiB];omega) | (rw[Bool.eq_iff_iff];simp_all [wiB];done))) ?_)) rfl)
   refine sd<|fq<|sd<|Vw (Zaa lk gx gt0)<|sd<|Vw (Zba lk lki)<|sd<|mw<|?_
   refine sp' (t:=55) gt pt pt (fun hg55=>?_) (fun hg55=>?_)
   ·refine sd<|fq<|sd<|Vw (Zaa lk gx gt2)<|sd<|mw<|sd<|Zad mp (ZbO) pt<|sd<|Vw (ZaE lk)<|sd<|Vw (Zal lk lk)<|Vw (Zaj lk lk)<|Zam<|?_
    refine Zaz ?_
    exact cT' (()) (by trivial) (by refine zz ?_;exact ALe.same (by repeat (first | exact wk0 | refine wka ?_ | refine wk1 rfl ?_ | refine wk1 (by first | rfl | exact bvx (by first | (simp_all [wiB];done) | (rw[Bool.eq_iff_iff];simp_all [wiB];omega) | (rw[Bool.eq_iff_iff];simp_all [wiB];done))) ?_)) rfl)
   refine so<|so<|so<|so<|so<|sd<|Vw (Zaj lk lkb)<|Vw (Zaj lk lk)<|Zam<|Zaz<|?_
   exact cT' (()) (by trivial) (by refine zz ?_;exact ALe.same (by repeat (first | exact wk0 | refine wka ?_ | refine wk1 rfl ?_ | refine wk1 (by first | rfl | exact bvx (by first | (simp_all [wiB];done) | (rw[Bool.eq_iff_iff];simp_all [wiB];omega) | (rw[Bool.eq_iff_iff];simp_all [wiB];done))) ?_)) rfl)
  refine so<|so<|so<|Vw (Zaj lk lkb)<|mw<|sd<|fq<|sd<|Vw (Zaa lk gx gt0)<|sd<|Vw (Zba lk lki)<|sd<|mw<|?_
  refine sp' (t:=55) gt pt pt (fun hg55=>?_) (fun hg55=>?_)
  ·refine sd<|fq<|sd<|Vw (Zaa lk gx gt2)<|sd<|mw<|sd<|Zad mp (ZbO) pt<|sd<|Vw (ZaE lk)<|sd<|Vw (Zal lk lk)<|Vw (Zaj lk lk)<|Zam<|?_
   refine Zaz ?_
   exact cT' (()) (by trivial) (by refine zz ?_;exact ALe.same (by repeat (first | exact wk0 | refine wka ?_ | refine wk1 rfl ?_ | refine wk1 (by first | rfl | exact bvx (by first | (simp_all [wiB];done) | (rw[Bool.eq_iff_iff];simp_all [wiB];omega) | (rw[Bool.eq_iff_iff];simp_all [wiB];done))) ?_)) rfl)
  refine so<|so<|so<|so<|so<|sd<|Vw (Zaj lk lkb)<|Vw (Zaj lk lk)<|Zam<|Zaz<|?_
  exact cT' (()) (by trivial) (by refine zz ?_;exact ALe.same (by repeat (first | exact wk0 | refine wka ?_ | refine wk1 rfl ?_ | refine wk1 (by first | rfl | exact bvx (by first | (simp_all [wiB];done) | (rw[Bool.eq_iff_iff];simp_all [wiB];omega) | (rw[Bool.eq_iff_iff];simp_all [wiB];done))) ?_)) rfl)
 rintro u_ hq12
 try simp only[sm',Nat.reduceAdd]
 refine cd' lk (fun hc4=>?_) (fun hc4=>?_)
 ·have hv:=ZjG (y:=y) (m:=m) (kind:=k) (wk:=wk) (n:=n) (k:=3) (by unfold ZbN;rw[if_neg hc1,if_neg om,if_neg hc3,if_pos hc4]) om
  refine wr'<|Vw (Zat ZmZ)<|E' (Zai lk cv gx rfl nb rfl Zby hs1) ptn<|mr<|Zah<|Zae (rsn (rm1 (rr_c gt gx (ld1 Zbh rfl)) (rm1 (rr_t gt) rm0)))<|rT'<|?_
  rw[hv]
 have he:ZbN y m k wk n=0:=by unfold ZbN;rw[if_neg hc1,if_neg om,if_neg hc3,if_neg hc4]
 have hw:0≤wk∧wk≤6:=by omega
 have hsb:=onSt_bd (y:=y) (m:=m) (k:=k) (n:=n) ⟨hym.1.1,by omega⟩ hym.2 om
 have hnb:=ZkX (y:=y) (m:=m) ⟨hym.1.1,by omega⟩ hym.2
 have hml:=Zdc y m
 have hn':0≤n∧n≤31:=by omega
 refine za<|wm<|mw<|Vw (Zat (ZmY cv rfl cv rfl (cvl lki rfl) rfl))<|?_
 refine Zad mp (ZcY om om om om om om) pt ?_
 refine V' (Za3 lk lki om om) pt ?_
 refine ms<|?_
 refine Zhe (ι:=Unit) (fun (u_:Unit)=>[(9,iv (onSt y m k n))]++rn' 69 17) (fun (u_:Unit)=>[]) (fun (u_:Unit)=>True) ?_ ?_
 ·try simp only[sm',Nat.reduceAdd]
  refine wr'<|fq<|Vw (Zaa lk gx gt0)<|sn'<|Zaf<|wr'<|Vw (Za7 lk lki)<|ms<|?_
  refine cd' lk (fun hc5=>?_) (fun hc5=>?_)
  ·refine Zap<|mw<|fq<|Vw (Zaa lk gx gt2)<|?_
   refine V' (ZbM lk lk om om) pt ?_
   refine mw<|Zam<|Zau<|Zaz<|?_
   exact cT' (()) (by trivial) (by refine zz ?_;exact ALe.same (by repeat (first | exact wk0 | refine wka ?_ | refine wk1 rfl ?_ | refine wk1 (by first | rfl | exact ivx (by unfold onSt;simp_all) | exact ivx (by unfold onSt;rw[if_neg om])) ?_)) rfl)
  refine wr'<|Vw (Za7 lk lki)<|ms<|?_
  refine cd' lk (fun hc6=>?_) (fun hc6=>?_)
  ·refine Zap<|mw<|mw<|?_
   refine V' (ZbM lk lk om om) pt ?_
   refine mw<|Zam<|Zau<|Zaz<|?_
   exact cT' (()) (by trivial) (by refine zz ?_;exact ALe.same (by repeat (first | exact wk0 | refine wka ?_ | refine wk1 rfl ?_ | refine wk1 (by first | rfl | exact ivx (by unfold onSt;simp_all) | exact ivx (by unfold onSt;rw[if_neg om])) ?_)) rfl)
  refine Zap<|mw<|fq<|Vw (Zaa lk gx gt2)<|?_
  refine V' (ZbM lk lk om om) pt ?_
  refine mw<|Zam<|Zau<|Zaz<|?_
  exact cT' (()) (by trivial) (by refine zz ?_;exact ALe.same (by repeat (first | exact wk0 | refine wka ?_ | refine wk1 rfl ?_ | refine wk1 (by first | rfl | exact ivx (by unfold onSt;simp_all) | exact ivx (by unfold onSt;rw[if_neg om])) ?_)) rfl)
 rintro u_ hq19
 try simp only[sm',Nat.reduceAdd]
 refine Zac<|wk'<|Zaf<|?_
 refine ZeB (ι:=Nat) (fun (j:Nat)=>[(9,iv (onGo k wk (onSt y m k n) j)),(10,iv (j:Int))]++rn' 86 23) (fun (j:Nat)=>[]) (fun (j:Nat)=>(j:Int)≤ZgN k wk (onSt y m k n)) (fun (j:Nat)=>7-j) (0) (by exact (ZhK _ _ _).1) (by try simp only[sm',Nat.reduceAdd];exact ALe.same (by repeat (first | exact wk0 | refine wka ?_ | refine wk1 rfl ?_ | refine wk1 (by first | rfl | exact ivx (by unfold onGo;simp)) ?_)) rfl) ?_
 rintro j hi1
 try simp only[sm',Nat.reduceAdd]
 have hgb:=onGo_bd hi1
 have hfb:=ZhK k wk (onSt y m k n)
 refine Zac ?_
 refine Zhe (ι:=Unit) (fun (u_:Unit)=>[(99,bv (decide (j<7∧1<k∧wd (onGo k wk (onSt y m k n) j)≠wk)))]++rn' 86 13) (fun (u_:Unit)=>[]) (fun (u_:Unit)=>True) ?_ ?_
 ·try simp only[sm',Nat.reduceAdd]
  refine ZaH<|Dw vm<|Dw (ZaO lk lki)<|Dw vm<|?_
  refine dq' (t:=88) gt pt pt (fun hg88=>?_) (fun hg88=>?_)
  ·refine dO<|dg<|dO<|Dw (Zaa lk gx gt0)<|dO<|Dw (ZbE lk lki)<|Dw (Zal lk lk)<|Dw vm<|?_
   refine dq' (t:=93) gt pt pt (fun hg93=>?_) (fun hg93=>?_)
   ·refine dO<|Dw vm<|dO<|?_
    refine ZaC mp (fun hE hX=>ZqH) pt ?_
    refine dO<|dg<|dO<|Dw (Zaa lk gx gt1)<|dO<|Dw (Zba lk lk)<|Dw (Zal lk lk)<|ZaM<|?_
    refine Za5 ?_
    refine Zam<|Zaz<|?_
    exact cT' (()) (by trivial) (by refine zz ?_;exact ALe.same (by repeat (first | exact wk0 | refine wka ?_ | refine wk1 rfl ?_ | refine wk1 (by first | rfl | exact bvx (by first | (simp_all [wiB];done) | (rw[Bool.eq_iff_iff];simp_all [wiB];omega) | (rw[Bool.eq_iff_iff];simp_all [wiB];done))) ?_)) rfl)
   refine dn<|dn<|dn<|dn<|dn<|Dw (Zaj lk lkb)<|ZaM<|?_
   refine Za5 ?_
   refine Zam<|Zaz<|?_
   exact cT' (()) (by trivial) (by refine zz ?_;exact ALe.same (by repeat (first | exact wk0 | refine wka ?_ | refine wk1 rfl ?_ | refine wk1 (by first | rfl | exact bvx (by first | (simp_all [wiB];done) | (rw[Bool.eq_iff_iff];simp_all [wiB];omega) | (rw[Bool.eq_iff_iff];simp_all [wiB];done))) ?_)) rfl)
  refine dn<|dn<|dn<|Dw (Zaj lk lkb)<|Dw vm<|dn<|dn<|dn<|dn<|dn<|Dw (Zaj lk lkb)<|ZaM<|?_
  refine Za5 ?_
  refine Zam<|Zaz<|?_
  exact cT' (()) (by trivial) (by refine zz ?_;exact ALe.same (by repeat (first | exact wk0 | refine wka ?_ | refine wk1 rfl ?_ | refine wk1 (by first | rfl | exact bvx (by first | (simp_all [wiB];done) | (rw[Bool.eq_iff_iff];simp_all [wiB];omega) | (rw[Bool.eq_iff_iff];simp_all [wiB];done))) ?_)) rfl)
 rintro u_ hq21
 try simp only[sm',Nat.reduceAdd]
 refine cd' lk (fun hc7=>?_) (fun hc7=>?_)
 ·have hgo:=onGo_go hw hi1 hc7
  refine za<|Zac<|Zaf<|wr'<|fq<|Vw (Zaa lk gx gt0)<|Vw (Za7 lk lki)<|sn'<|?_
  refine cd' lk (fun hc8=>?_) (fun hc8=>?_)
  ·refine Zap<|mw<|?_
   refine ad<|mw<|Zam<|Zau<|Zan<|Zap<|mw<|?_
   refine ad<|mw<|Zam<|Zaz<|?_
   refine lU' (j+1) (by (try dsimp only);omega) (by refine zz ?_;exact ALe.same (by repeat (first | exact wk0 | refine wka ?_ | refine wk1 rfl ?_ | refine wk1 (by first | rfl | exact ivx (by unfold onGo;simp_all;omega) | exact ivx om) ?_)) rfl)
  refine Zap<|mw<|?_
  refine V' (Za3 lk lki om om) pt ?_
  refine mw<|Zam<|Zau<|Zan<|Zap<|mw<|?_
  refine ad<|mw<|Zam<|Zaz<|?_
  refine lU' (j+1) (by (try dsimp only);omega) (by refine zz ?_;exact ALe.same (by repeat (first | exact wk0 | refine wka ?_ | refine wk1 rfl ?_ | refine wk1 (by first | rfl | exact ivx (by unfold onGo;simp_all;omega) | exact ivx om) ?_)) rfl)
 have hd:=onGo_end hk hw hi1 hc7
 rw[←hd]
 refine Zay<|Zar<|Zar<|ZaN<|Zan<|Zac<|wm<|Zad mp0 (Zpk) pt<|Zad mp0 (Ztw) pt<|Zad mp (ZbO) pt<|Vw (ZaE lk)<|Zam<|?_
 refine Zan ?_
 refine Zav lk (fun hc9=>?_) (fun hc9=>?_)
 ·have hr:¬(-719162≤Zdb y m k wk n∧Zdb y m k wk n≤2932896):=by have h9:=hc9;simp[wiB] at h9;omega
  refine wr'<|Vw (Zat Zlq)<|E' (Zai lk cv gx rfl nb rfl Zby hs1) ptn<|mr<|Zah<|Zae (rsn (rm1 (rr_c gt gx (ld1 Zbh rfl)) (rm1 (rr_t gt) rm0)))<|rT'<|?_
  rw[Zia he rfl,if_neg hr]
 have hr : -719162≤Zdb y m k wk n∧Zdb y m k wk n≤2932896:=by have h9:=hc9;simp[wiB] at h9;omega
 refine za<|wm<|Zad mp (ZtE hr.1 hr.2) pt<|E' (Zai lk cv gx rfl nb rfl Zby hs1) ptn<|mr<|Zae (rsn (rm1 (rr_c gt gx (ld1 Zbh rfl)) (rm1 (rr_t gt) rm0)))<|rT'<|?_
 rw[Zia he rfl,if_pos hr]
end Go.Proofs.YtfoipaclphdodaaGreatDoor
end
namespace Go.Proofs.YtfoipaclphdodaaGreatDoor
section
open Go.Ab Go.RowKit
def c233:AC:=(Sr [Mb 6 false] (Sr [Mv 7 0,Mv 8 1,Bn 9 .geq 7 8,Mv 10 9,Ot 11 10 (mt 0),Ot 12 10 (mt 2),Ot 13 10 (.bin .leq (t 11) (t 12)),Oo 14 (.pick (t 10) (t 13) (.const (.bool false))),Mv 6 14] .ret))
theorem k233:Zaw Tryz.prog 233=some ⟨c233,[(.tmp 6)],15⟩:=by kernel_rfl
def c235:AC:=(Sr [Mb 4 false] (Sr [Mv 5 0,Cl 6 233 [(t 5),(Ci 1),(Ci 3)],Mv 7 6,Ot 8 7 (mt 1),Ot 9 7 (mt 8),Of 10 9 (mt 0),Of 11 9 (.bin .neq (t 10) (Ci 1)),Ot 12 7 (.pick (t 9) (.const (.bool true)) (t 11)),Oo 13 (.pick (t 7) (t 12) (.const (.bool false))),Mv 4 13] .ret))
theorem k235:Zaw Tryz.prog 235=some ⟨c235,[(.tmp 4)],14⟩:=by kernel_rfl
def c118:AC:=(Sr [Mb 2 false] (Sr [Mv 3 0,Cl 4 116 [(t 3)],Mv 5 4,Of 6 5 (mt 0),Of 7 5 (.call (.func 119) [(t 6)]),Oo 8 (.pick (t 5) (.const (.bool true)) (t 7)),Mv 9 8,Of 10 9 (mt 0),Of 11 9 (.call (.func 120) [(.const (.string ⟨#[95,45,47,43]⟩)),(t 10)]),Of 12 9 (.bin .geq (t 11) (Ci 0)),Oo 13 (.pick (t 9) (.const (.bool true)) (t 12)),Mv 2 13] .ret))
theorem k118:Zaw Tryz.prog 118=some ⟨c118,[(.tmp 2)],14⟩:=by kernel_rfl
def c59:AC:=(Sr [Mb 2 false] (Sr [Mv 3 0,Oo 4 (.bin .neq (t 3) (.const (.string ⟨#[]⟩))),Mv 5 4,Ot 6 5 (mt 0),Ot 7 5 (.len true (t 6)),Ot 8 5 (.bin .leq (t 7) (Ci 24)),Oo 9 (.pick (t 5) (t 8) (.const (.bool false))),Mv 10 9,Ot 11 10 (mt 0),Ot 12 10 (.ix (t 11) (Ci 0)),Ot 13 10 (.call (.func 116) [(t 12)]),Oo 14 (.pick (t 10) (t 13) (.const (.bool false))),Mv 15 14,Ot 16 15 (mt 0),Ot 17 15 (.call (.func 117) [(t 16),(.func 118)]),Oo 18 (.pick (t 15) (t 17) (.const (.bool false))),Mv 2 18] .ret))
theorem k59:Zaw Tryz.prog 59=some ⟨c59,[(.tmp 2)],19⟩:=by kernel_rfl
def c232:AC:=(Sr [Mb 2 false] (Sr [Mv 3 0,Oo 4 (.len true (t 3)),Bc 5 .leq 4 24,Mv 6 5,Ot 7 6 (mt 0),Ot 8 6 (.call (.func 117) [(t 7),(.func 116)]),Oo 9 (.pick (t 6) (t 8) (.const (.bool false))),Mv 2 9] .ret))
theorem k232:Zaw Tryz.prog 232=some ⟨c232,[(.tmp 2)],10⟩:=by kernel_rfl
def c283:AC:=(Sr [Mb 2 false] (.seq (Sr [Mv 6 0,Oo 7 (.bin .eql (t 6) (.const (.string ⟨#[]⟩))),Mv 8 7,Of 9 8 (mt 0),Of 10 8 (.len true (t 9)),Of 11 8 (.bin .gtr (t 10) (Ci 24)),Oo 12 (.pick (t 8) (.const (.bool true)) (t 11))] (Cd 12 (Sr [Mb 2 false] .ret) .skip)) (Sr [Mv 14 0,Oo 15 (.call (.func 310) [(t 14),(.const (.string ⟨#[47]⟩))]),Mv 13 15,Ex 16 13 0,Ex 17 13 1,Ex 18 13 2,Mv 3 16,Mv 4 17,Mv 5 18] (.seq (Sr [Mv 19 5] (Cd 19 (Sr [Mv 20 3,Oo 21 (.bin .neq (t 20) (.const (.string ⟨#[]⟩))),Mv 22 21,Ot 23 22 (mt 4),Ot 24 22 (.bin .neq (t 23) (.const (.string ⟨#[]⟩))),Oo 25 (.pick (t 22) (t 24) (.const (.bool false))),Mv 26 25,Ot 27 26 (mt 3),Ot 28 26 (.call (.func 198) [(t 27)]),Oo 29 (.pick (t 26) (t 28) (.const (.bool false))),Mv 30 29,Ot 31 30 (mt 4),Ot 32 30 (.call (.func 198) [(t 31)]),Oo 33 (.pick (t 30) (t 32) (.const (.bool false))),Mv 2 33] .ret) .skip)) (Sr [Mv 35 0,Oo 36 (.call (.func 310) [(t 35),(.const (.string ⟨#[37,115]⟩))]),Mv 34 36,Ex 37 34 0,Ex 38 34 1,Ex 39 34 2,Mv 3 37,Mv 4 38] (Sr [Mv 40 3,Cl 41 198 [(t 40)],Mv 42 41,Ot 43 42 (mt 4),Ot 44 42 (.call (.func 198) [(t 43)]),Oo 45 (.pick (t 42) (t 44) (.const (.bool false))),Mv 2 45] .ret))))))
theorem k283:Zaw Tryz.prog 283=some ⟨c283,[(.tmp 2)],46⟩:=by kernel_rfl
theorem Zb0 {n a b:Int}{h:AH}:Ac 233 [iv n,iv a,iv b] h (bv (wi n a b)):=by
 refine tI' k233 fun N hn _ _ hbd=>?_
 simp only[tb'] at hbd ⊢
 refine wk'<|wm<|mw<|Vw (ZfC lk lk)<|mw<|?_
 refine sp' (t:=10) gt pt pt (fun hg10=>?_) (fun hg10=>?_)
 ·refine sd<|mw<|sd<|mw<|sd<|Vw (ZdF lk lk)<|Vw (Zal lk lk)<|mr<|Zae rz<|rT'<|?_
  refine bvx ?_;unfold wi;rw[Bool.eq_iff_iff];simp;omega
 refine so<|so<|so<|Vw (Zaj lk lkb)<|mr<|Zae rz<|rT'<|?_
 refine bvx ?_;unfold wi;rw[Bool.eq_iff_iff];simp;omega
def clkB (n:Int) (wall:Bool):Bool:=wi n 1 3&&(wall||decide (n≠1))
theorem Ziz {n:Int}{b:Bool}{h:AH}:Ac 235 [iv n,bv b] h (bv (clkB n b)):=by
 refine tI' k235 fun N hn _ _ hbd=>?_
 simp only[tb'] at hbd ⊢
 refine wk'<|wm<|Zad mp (Zb0) pt<|mw<|?_
 refine Za6 (t:=7) gt pt pt (fun hg7=>?_) (fun hg7=>?_)
 ·refine sd<|mw<|sd<|mw<|?_
  refine Za6 (t:=9) gt pt pt (fun hg9=>?_) (fun hg9=>?_)
  ·refine so<|so<|sd<|Vw (Zal lk lkb)<|Vw (Zal lk lk)<|mr<|Zae rz<|rT'<|?_
   refine bvx ?_;unfold clkB;simp_all
  refine sd<|mw<|sd<|Vw (Zba lk lki)<|sd<|Vw (Zaj lk lk)<|Vw (Zal lk lk)<|mr<|Zae rz<|rT'<|?_
  refine bvx ?_;unfold clkB;simp_all
 refine so<|so<|s_nu gt pt<|s_nu gt pt<|so<|Vw (Zaj lk lkb)<|mr<|Zae rz<|rT'<|?_
 refine bvx ?_;unfold clkB;simp_all
def Zua (n:Int):Bool:=letB n||digB n||decide (0≤Lib.indexByte [95,45,47,43] n.toNat.toUInt8)
theorem indexN_a {n:Int}{h:AH}:Ac 120 [sv (bA [95,45,47,43]),uv n] h (iv (Lib.indexByte [95,45,47,43] n.toNat.toUInt8)):=ZnQ
theorem name1_a {n:Int}{h:AH}:Ac 118 [uv n] h (bv (Zua n)):=by
 refine tI' k118 fun N hn _ _ hbd=>?_
 simp only[tb'] at hbd ⊢
 refine wk'<|wm<|Zad mp (ZhN) pt<|mw<|?_
 refine Za6 (t:=5) gt pt pt (fun hg5=>?_) (fun hg5=>?_)
 ·refine so<|so<|Vw (Zal lk lkb)<|mw<|so<|so<|so<|Vw (Zal lk lkb)<|mr<|Zae rz<|rT'<|?_
  refine bvx ?_;unfold Zua;rw[Bool.eq_iff_iff];simp_all
 refine sd<|mw<|sd<|Zad mp (ZuT) pt<|Vw (Zaj lk lk)<|mw<|?_
 refine Za6 (t:=9) gt pt pt (fun hg9=>?_) (fun hg9=>?_)
 ·refine so<|so<|so<|Vw (Zal lk lkb)<|mr<|Zae rz<|rT'<|?_
  refine bvx ?_;unfold Zua;rw[Bool.eq_iff_iff];simp_all
 refine sd<|mw<|sd<|Zad mp (indexN_a) pt<|sd<|Vw (ZfC lk lki)<|Vw (Zaj lk lk)<|mr<|Zae rz<|rT'<|?_
 refine bvx ?_;unfold Zua;rw[Bool.eq_iff_iff];simp_all
def ZcD (s:ByteArray):Bool:=decide (s.size≠0)&&decide (s.size≤24)&&letB (ZbU s 0).toNat&&allB Zua s
theorem Zic {s:ByteArray}{h:AH}(hs:s.size≤maxLen):Ac 59 [sv s] h (bv (ZcD s)):=by
 have hm:s.size≤9223372036854775807:=by simpa [maxLen] using hs
 have hem:=Zqg (f:=s)
 refine tI' k59 fun N hn _ _ hbd=>?_
 simp only[tb'] at hbd ⊢
 refine wk'<|wm<|Vw (ZeC lk lks)<|mw<|?_
 refine sp' (t:=5) gt pt pt (fun hg5=>?_) (fun hg5=>?_)
 ·have hne:s.size≠0:=fun e=>hg5 (hem.2 e)
  refine sd<|mw<|sd<|Vw (ZcJ lk)<|sd<|Vw (ZdF lk lki)<|Vw (Zal lk lk)<|mw<|?_
  refine sp' (t:=10) gt pt pt (fun hg10=>?_) (fun hg10=>?_)
  ·refine sd<|mw<|sd<|?_
   refine V' (v_ix lk lki om om) pt ?_
   refine sd<|Zad mp (ZhN) pt<|Vw (Zal lk lk)<|mw<|?_
   refine Za6 (t:=15) gt pt pt (fun hg15=>?_) (fun hg15=>?_)
   ·refine sd<|mw<|sd<|?_
    refine Zad mp (all_a (fun _ _=>name1_a) hs) pt ?_
    refine Vw (Zal lk lk)<|mr<|Zae rz<|rT'<|?_
    refine bvx ?_;unfold ZcD;simp_all <;> (try intros) <;> omega
   refine so<|so<|Vw (Zaj lk lkb)<|mr<|Zae rz<|rT'<|?_
   refine bvx ?_;unfold ZcD;simp_all <;> (try intros) <;> omega
  refine so<|so<|so<|Vw (Zaj lk lkb)<|mw<|so<|so<|Vw (Zaj lk lkb)<|mr<|Zae rz<|rT'<|?_
  refine bvx ?_;unfold ZcD;simp_all <;> (try intros) <;> omega
 refine so<|so<|so<|Vw (Zaj lk lkb)<|mw<|so<|so<|so<|Vw (Zaj lk lkb)<|mw<|so<|so<|Vw (Zaj lk lkb)<|mw<|?_
 refine sr<|Zae rz<|rT'<|?_
 refine bvx ?_;unfold ZcD;simp_all <;> (try intros) <;> omega
def Zfa (s:ByteArray):Bool:=decide (s.size≤24)&&allB letB s
theorem Zuq {s:ByteArray}{h:AH}(hs:s.size≤maxLen):Ac 232 [sv s] h (bv (Zfa s)):=by
 have hm:s.size≤9223372036854775807:=by simpa [maxLen] using hs
 refine tI' k232 fun N hn _ _ hbd=>?_
 simp only[tb'] at hbd ⊢
 refine wk'<|wm<|Vw (ZcJ lk)<|Vw (ZdF lk lki)<|mw<|?_
 refine sp' (t:=6) gt pt pt (fun hg6=>?_) (fun hg6=>?_)
 ·refine sd<|mw<|sd<|?_
  refine Zad mp (all_a (fun _ _=>ZhN) hs) pt ?_
  refine Vw (Zal lk lk)<|mr<|Zae rz<|rT'<|?_
  refine bvx ?_;unfold Zfa;simp_all <;> (try intros) <;> omega
 refine so<|so<|Vw (Zaj lk lkb)<|mr<|Zae rz<|rT'<|?_
 refine bvx ?_;unfold Zfa;simp_all <;> (try intros) <;> omega
abbrev cutL (s:ByteArray) (p:Bs):Bs×Bs×Bool:=Lib.cut (aB s) p
def ZbX (s:ByteArray):Bool:=if s.size=0∨24<s.size then false else
 if (cutL s [47]).2.2=true then decide (bA (cutL s [47]).1≠⟨#[]⟩)&&decide (bA (cutL s [47]).2.1≠⟨#[]⟩)&&allB ZbP (bA (cutL s [47]).1)&&allB ZbP (bA (cutL s [47]).2.1)
 else allB ZbP (bA (cutL s [37,115]).1)&&allB ZbP (bA (cutL s [37,115]).2.1)
theorem ZhQ {s:ByteArray}{p:Bs}:(cutL s p).1.length≤s.size∧(cutL s p).2.1.length≤s.size:=by
 unfold cutL Lib.cut
 split
 ·simp only[List.length_take,List.length_drop,aB_len];omega
 simp[aB_len]
theorem cut1_a {s:ByteArray}{h:AH}(hz:s.size≤24):Ac 310 [sv s,sv (bA [47])] h (.tup [sv (bA (cutL s [47]).1),sv (bA (cutL s [47]).2.1),bv (cutL s [47]).2.2]):=cut_a om
theorem cut2_a {s:ByteArray}{h:AH}(hz:s.size≤24):Ac 310 [sv s,sv (bA [37,115])] h (.tup [sv (bA (cutL s [37,115]).1),sv (bA (cutL s [37,115]).2.1),bv (cutL s [37,115]).2.2]):=cut_a om
theorem Zp5 {s:ByteArray}{h:AH}(hs:s.size≤maxLen):Ac 283 [sv s] h (bv (ZbX s)):=by
 have hm:s.size≤9223372036854775807:=by simpa [maxLen] using hs
 have hem:=Zqg (f:=s)
 have k1:=ZhQ (s:=s) (p:=[47])
 have k2:=ZhQ (s:=s) (p:=[37,115])
 refine tI' k283 fun N hn _ _ hbd=>?_
 simp only[tb'] at hbd ⊢
 refine wk'<|Zac<|wm<|Vw (ZfX lk lks)<|mw<|?_
 refine sp' (t:=8) gt pt pt (fun hg8=>?_) (fun hg8=>?_)
 ·have hB:ZbX s=false:=if_pos (.inl (hem.1 hg8))
  refine so<|so<|so<|Vw (Zal lk lkb)<|sn'<|Zbb lk<|wo<|Zah<|?_
  refine Zae rz<|rT'<|?_
  rw[hB]
 refine sd<|mw<|sd<|Vw (ZcJ lk)<|sd<|Vw (ZbE lk lki)<|Vw (Zaj lk lk)<|sn'<|?_
 refine cd' lk (fun hc1=>?_) (fun hc1=>?_)
 ·have hB:ZbX s=false:=if_pos (.inr om)
  refine wo<|Zah<|Zae rz<|rT'<|?_
  rw[hB]
 have hB:ZbX s=if (cutL s [47]).2.2=true then decide (bA (cutL s [47]).1≠⟨#[]⟩)&&decide (bA (cutL s [47]).2.1≠⟨#[]⟩)&&allB ZbP (bA (cutL s [47]).1)&&allB ZbP (bA (cutL s [47]).2.1) else allB ZbP (bA (cutL s [37,115]).1)&&allB ZbP (bA (cutL s [37,115]).2.1):=if_neg (by have:s.size≠0:=fun e=>hg8 (hem.2 e);omega)
 have hz:s.size≤24:=by omega
 refine za<|wm<|Zad mp (cut1_a hz) pt<|mw<|Vw (ZaQ lk gt)<|Vw (ZaQ lk gt)<|Vw (ZaQ lk gt)<|mw<|mw<|mw<|Zam<|?_
 refine Zan<|Zac<|wk'<|?_
 refine cd' lk (fun hc2=>?_) (fun hc2=>?_)
 ·rw[if_pos hc2] at hB
  refine wm<|Vw (ZeC lk lks)<|mw<|?_
  refine sp' (t:=22) gt pt pt (fun hg22=>?_) (fun hg22=>?_)
  ·refine sd<|mw<|sd<|Vw (ZeC lk lks)<|Vw (Zal lk lk)<|mw<|?_
   refine sp' (t:=26) gt pt pt (fun hg26=>?_) (fun hg26=>?_)
   ·refine sd<|mw<|sd<|?_
    refine Zad mp (Zh7 (by rw[Zg0];unfold maxLen;omega)) pt ?_
    refine Vw (Zal lk lk)<|mw<|?_
    refine Za6 (t:=30) gt pt pt (fun hg30=>?_) (fun hg30=>?_)
    ·refine sd<|mw<|sd<|?_
     refine Zad mp (Zh7 (by rw[Zg0];unfold maxLen;omega)) pt ?_
     refine Vw (Zal lk lk)<|mr<|Zah<|Zae rz<|rT'<|?_
     rw[hB];refine bvx ?_;simp_all
    refine so<|so<|Vw (Zaj lk lkb)<|mr<|Zah<|Zae rz<|rT'<|?_
    rw[hB];refine bvx ?_;simp_all
   refine so<|so<|Vw (Zaj lk lkb)<|mw<|so<|so<|Vw (Zaj lk lkb)<|mr<|Zah<|Zae rz<|rT'<|?_
   rw[hB];refine bvx ?_;simp_all
  refine so<|so<|Vw (Zaj lk lkb)<|mw<|so<|so<|Vw (Zaj lk lkb)<|mw<|so<|so<|Vw (Zaj lk lkb)<|ms<|?_
  refine Zbe<|Zah<|Zae rz<|rT'<|?_
  rw[hB];refine bvx ?_;simp_all
 rw[if_neg (by rw[hc2];simp)] at hB
 refine za<|wm<|Zad mp (cut2_a hz) pt<|mw<|Vw (ZaQ lk gt)<|Vw (ZaQ lk gt)<|Vw (ZaQ lk gt)<|mw<|ms<|?_
 refine wm<|?_
 refine Zad mp (Zh7 (by rw[Zg0];unfold maxLen;omega)) pt ?_
 refine mv' lk pt ?_
 refine Za6 (t:=42) gt pt pt (fun hg42=>?_) (fun hg42=>?_)
 ·refine sd<|mw<|sd<|?_
  refine Zad mp (Zh7 (by rw[Zg0];unfold maxLen;omega)) pt ?_
  refine Vw (Zal lk lk)<|mr<|Zae rz<|rT'<|?_
  rw[hB];refine bvx ?_;simp_all
 refine so<|so<|Vw (Zaj lk lkb)<|mr<|Zae rz<|rT'<|?_
 rw[hB];refine bvx ?_;simp_all
end
section
open Go.Ab Go.RowKit Civ
attribute [local simp] ZbL Zce ZbZ Zbv
section
theorem ZrN {a0 a1 a2 a3 a4 a5 a6:AV}{l:List AV}:((a0::a1::a2::a3::a4::a5::a6::l).drop 4).take 3=[a4,a5,a6]:=rfl
theorem ZrP {a0 a1 a2 c0 c1 c2:AV}{l:List AV}:setCells (a0::a1::a2::l) 0 [c0,c1,c2]=c0::c1::c2::l:=rfl
theorem Zfn {a0 a1 a2 a3 a4 a5 a6 a7 a8 a9:AV}{l:List AV}:((a0::a1::a2::a3::a4::a5::a6::a7::a8::a9::l).drop 5).take 5=[a5,a6,a7,a8,a9]:=rfl
theorem Zez {τ:Operand→AV}:Zak τ [] [(iv 0),(iv 0),(iv 0),(iv 0),(iv 0)]=some [(iv 0),(iv 0),(iv 0),(iv 0),(iv 0)]:=rfl
theorem Zdp {a0 b0:Int}{a1 b1:Int}{a2 b2:Int}{a3 b3:Int}{a4 b4:Int}:Za4 [.int,.int,.int,.int,.int] [iv a0,iv a1,iv a2,iv a3,iv a4] [iv b0,iv b1,iv b2,iv b3,iv b4]=some (decide (a0=b0∧a1=b1∧a2=b2∧a3=b3∧a4=b4)):=by
 simp only[Za4,Zc3,if_true,Zb3,Option.some.injEq]
 simp only[Bool.decide_and,Bool.and_true]
 try (congr 1 <;> simp)
 try rfl
theorem Zfo {a0 a1 a2 a3 a4 a5 a6 a7:AV}{l:List AV}:((a0::a1::a2::a3::a4::a5::a6::a7::l).drop 5).take 3=[a5,a6,a7]:=rfl
theorem ZrM {a0 a1 a2 a3 a4 a5 a6 a7 a8 a9:AV}{l:List AV}:(a0::a1::a2::a3::a4::a5::a6::a7::a8::a9::l).take 10=[a0,a1,a2,a3,a4,a5,a6,a7,a8,a9]:=rfl
theorem ZoF {a0 a1 a2 a3 a4 a5 a6 a7 a8 a9 c0 c1 c2 c3 c4 c5 c6 c7 c8 c9:AV}{l:List AV}:setCells (a0::a1::a2::a3::a4::a5::a6::a7::a8::a9::l) 0 [c0,c1,c2,c3,c4,c5,c6,c7,c8,c9]=c0::c1::c2::c3::c4::c5::c6::c7::c8::c9::l:=rfl
theorem ZoD {a0 a1 a2 a3 a4 a5 a6 a7 a8 a9:AV}{l:List AV}:((a0::a1::a2::a3::a4::a5::a6::a7::a8::a9::l).drop 0).take 10=[a0,a1,a2,a3,a4,a5,a6,a7,a8,a9]:=rfl
theorem ZrL {a0 a1 a2 a3 a4 a5 a6 a7 a8 a9 a10:AV}{l:List AV}:(a0::a1::a2::a3::a4::a5::a6::a7::a8::a9::a10::l).take 11=[a0,a1,a2,a3,a4,a5,a6,a7,a8,a9,a10]:=rfl
theorem ZoE {a0 a1 a2 a3 a4 a5 a6 a7 a8 a9 a10 c0 c1 c2 c3 c4 c5 c6 c7 c8 c9 c10:AV}{l:List AV}:setCells (a0::a1::a2::a3::a4::a5::a6::a7::a8::a9::a10::l) 0 [c0,c1,c2,c3,c4,c5,c6,c7,c8,c9,c10]=c0::c1::c2::c3::c4::c5::c6::c7::c8::c9::c10::l:=rfl
theorem ZoC {a0 a1 a2 a3 a4 a5 a6 a7 a8 a9 a10:AV}{l:List AV}:((a0::a1::a2::a3::a4::a5::a6::a7::a8::a9::a10::l).drop 0).take 11=[a0,a1,a2,a3,a4,a5,a6,a7,a8,a9,a10]:=rfl
theorem ZiO {a0 a1:AV}{l:List AV}:(a0::a1::l).take 2=[a0,a1]:=rfl
theorem Zg5 {a0 a1 c0 c1:AV}{l:List AV}:setCells (a0::a1::l) 0 [c0,c1]=c0::c1::l:=rfl
theorem Zke {a0 a1:AV}{l:List AV}:((a0::a1::l).drop 0).take 2=[a0,a1]:=rfl
theorem ZrO {a0 a1 a2:AV}{l:List AV}:((a0::a1::a2::l).drop 0).take 3=[a0,a1,a2]:=rfl
end
def c154:AC:=(Sr [Oo 1 (.box 168 11 (t 0)),Mc 2 0] (.seq (.block 0 (Sr [Fa 6 0 1,Ld 7 6,Cl 8 59 [(t 7)],Oo 9 (.un .not (t 8)),Mv 10 9,Of 11 10 (.fa 10 (t 1)),Of 12 10 (.load false 1 (t 11)),Of 13 10 (.call (.func 232) [(t 12)]),Of 14 10 (.un .not (t 13)),Oo 15 (.pick (t 10) (.const (.bool true)) (t 14)),Mv 5 15] (Cd 5 (Sr [Mc 2 1] .ret) (Sr [Fa 17 1 1,Ld 18 17,Bc 19 .lss 18 1900,Mv 20 19,Of 21 20 (.fa 1 (t 1)),Of 22 20 (.load false 1 (t 21)),Of 23 20 (.fa 2 (t 1)),Of 24 20 (.load false 1 (t 23)),Of 25 20 (.bin .gtr (t 22) (t 24)),Oo 26 (.pick (t 20) (.const (.bool true)) (t 25)),Mv 27 26,Of 28 27 (.fa 2 (t 1)),Of 29 27 (.load false 1 (t 28)),Of 30 27 (.bin .gtr (t 29) (Ci 2100)),Oo 31 (.pick (t 27) (.const (.bool true)) (t 30)),Mv 32 31,Of 33 32 (.fa 3 (t 1)),Of 34 32 (.load false 1 (t 33)),Of 35 32 (.call (.func 233) [(t 34),(Ci 1),(Ci 12)]),Of 36 32 (.un .not (t 35)),Oo 37 (.pick (t 32) (.const (.bool true)) (t 36)),Mv 16 37] (Cd 16 (Sr [Mc 2 3] .ret) .skip))))) (.seq (Sr [Fa 39 3 1,Ld 40 39,Fa 41 4 1,Oo 42 (.load true 3 (t 41)),Cl 43 234 [(Ci 2001),(t 40),(t 42)],Mv 38 43,Ex 44 38 0,Ex 45 38 1,Oo 3 (.new 79 3 [(iv 0),(iv 0),(iv 0)]),⟨none,none,(.store 3 (t 3) (t 44))⟩,Mv 4 45] (Sr [Mv 46 4,Bc 47 .neq 46 0] (Cd 47 (Sr [Mv 48 4,Mv 2 48] .ret) .skip))) (.seq (.block 1 (Sr [Fa 50 7 1,Ld 51 50,Cl 52 233 [(t 51),(Ci 0),(Ci 172800)],Oo 53 (.un .not (t 52)),Mv 49 53] (Cd 49 (Sr [Mc 2 3] .ret) (Sr [Fa 55 8 1,Ld 56 55,Cl 57 235 [(t 56),(.const (.bool true))],Oo 58 (.un .not (t 57)),Mv 54 58] (Cd 54 (Sr [Mc 2 7] .ret) (Sr [Fa 60 9 1,Ld 61 60,Cl 62 233 [(t 61),(Ci 0),(Ci 10800)],Oo 63 (.un .not (t 62)),Mv 59 63] (Cd 59 (Sr [Mc 2 3] .ret) .skip))))))) (Sr [Mc 2 0] .ret)))))
theorem k154:Zaw Tryz.prog 154=some ⟨c154,[(.tmp 2)],64⟩:=by kernel_rfl
def c158:AC:=(Sr [Oo 1 (.box 97 2 (t 0)),Mc 2 0] (.seq (Sr [Fa 3 0 1,Ld 4 3,Cl 5 59 [(t 4)],Oo 6 (.un .not (t 5)),Mv 7 6,Of 8 7 (.fa 1 (t 1)),Of 9 7 (.load false 1 (t 8)),Of 10 7 (.call (.func 59) [(t 9)]),Of 11 7 (.un .not (t 10)),Oo 12 (.pick (t 7) (.const (.bool true)) (t 11))] (Cd 12 (Sr [Mc 2 1] .ret) .skip)) (Sr [Mc 2 0] .ret)))
theorem k158:Zaw Tryz.prog 158=some ⟨c158,[(.tmp 2)],13⟩:=by kernel_rfl
def c236:AC:=(Sr [Oo 2 (.box 144 10 (t 0)),Mc 4 0] (.seq (.block 0 (Sr [Fa 8 1 2,Ld 9 8,Oo 10 (.bin .neq (t 9) (.const (.string ⟨#[]⟩))),Mv 11 10,Ot 12 11 (.fa 1 (t 2)),Ot 13 11 (.load false 1 (t 12)),Ot 14 11 (.call (.func 59) [(t 13)]),Ot 15 11 (.un .not (t 14)),Oo 16 (.pick (t 11) (t 15) (.const (.bool false))),Mv 17 16,Of 18 17 (.fa 3 (t 2)),Of 19 17 (.load false 1 (t 18)),Of 20 17 (.call (.func 283) [(t 19)]),Of 21 17 (.un .not (t 20)),Oo 22 (.pick (t 17) (.const (.bool true)) (t 21)),Mv 7 22] (Cd 7 (Sr [Mc 4 1] .ret) (Sr [Fa 24 0 2,Ld 25 24,Cl 26 233 [(t 25),(.const (.int .i64 (-64800))),(Ci 64800)],Oo 27 (.un .not (t 26)),Mv 28 27,Of 29 28 (.fa 2 (t 2)),Of 30 28 (.load false 1 (t 29)),Of 31 28 (.call (.func 233) [(t 30),(Ci 0),(Ci 10800)]),Of 32 28 (.un .not (t 31)),Oo 33 (.pick (t 28) (.const (.bool true)) (t 32)),Mv 23 33] (Cd 23 (Sr [Mc 4 3] .ret) (Sr [Fa 35 1 2,Ld 36 35,Oo 37 (.bin .neq (t 36) (.const (.string ⟨#[]⟩))),Mv 38 37,Ot 39 38 (.fa 2 (t 2)),Ot 40 38 (.load false 1 (t 39)),Ot 41 38 (.bin .neq (t 40) (Ci 0)),Oo 42 (.pick (t 38) (t 41) (.const (.bool false))),Mv 34 42] (Cd 34 (Sr [Mc 4 1] .ret) (Sr [Fa 44 4 2,Ld 45 44,Mv 46 1,Oo 47 (.eqb true (t 45) (t 46)),Mv 43 47] (Cd 43 (Sr [Mc 4 4] .ret) (Sr [Fa 49 4 2,Ld 50 49,Mv 48 50] (Cd 48 (.seq (Sr [Fa 51 5 2,Oo 52 (.load true 5 (t 51)),Oo 53 (.build [(iv 0),(iv 0),(iv 0),(iv 0),(iv 0)] []),Oo 54 (.eqs true [.int,.int,.int,.int,.int] (t 52) (t 53))] (Cd 54 (Sr [Mc 4 1] .ret) .skip)) (Sr [Mc 4 0] .ret)) .skip))))))))))) (.seq (Sr [Fa 56 5 2,Fa 57 0 56,Oo 58 (.load true 3 (t 57)),Cl 59 83 [(t 58)],Mv 55 59,Ex 60 55 0,Ex 61 55 1,Mv 5 60,Mv 6 61] (Sr [Mv 62 6,Bc 63 .neq 62 0] (Cd 63 (Sr [Mv 64 6,Mv 4 64] .ret) .skip))) (.seq (.block 1 (Sr [Fa 66 5 2,Fa 67 3 66,Ld 68 67,Cl 69 233 [(t 68),(Ci 0),(Ci 172800)],Oo 70 (.un .not (t 69)),Mv 65 70] (Cd 65 (Sr [Mc 4 3] .ret) (Sr [Fa 72 5 2,Fa 73 4 72,Ld 74 73,Cl 75 235 [(t 74),(.const (.bool false))],Oo 76 (.un .not (t 75)),Mv 71 76] (Cd 71 (Sr [Mc 4 7] .ret) .skip))))) (Sr [Mc 4 0] .ret)))))
theorem k236:Zaw Tryz.prog 236=some ⟨c236,[(.tmp 4)],77⟩:=by kernel_rfl
def c156:AC:=(Sr [Oo 1 (.box 94 2 (t 0)),Mc 2 0] (.seq (Sr [Fa 6 0 1,Ld 7 6,Cl 8 59 [(t 7)],Oo 9 (.un .not (t 8)),Mv 10 9,Of 11 10 (.fa 1 (t 1)),Of 12 10 (.load false 1 (t 11)),Of 13 10 (.len false (t 12)),Of 14 10 (.bin .eql (t 13) (Ci 0)),Oo 15 (.pick (t 10) (.const (.bool true)) (t 14))] (Cd 15 (Sr [Mc 2 1] .ret) .skip)) (.seq (Sr [Fa 16 1 1,Ld 17 16,Oo 18 (.len false (t 17)),Mc 19 0] (.block 0 (.loop (Sr [Bn 20 .lss 19 18] (.seq (Cd 20 .skip (.exit 0)) (.seq (.block 1 (Sr [Mv 21 19,Oo 22 (.ia 10 (t 17) (t 19)),Oo 23 (.load true 10 (t 22)),Oo 4 (.new 144 10 [(iv 0),Ss,(iv 0),Ss,(.v (.bool false)),(iv 0),(iv 0),(iv 0),(iv 0),(iv 0)]),Mv 3 21,⟨none,none,(.store 10 (t 4) (t 23))⟩] (Sr [Oo 24 (.load true 10 (t 4)),Mv 25 3,Fa 26 1 1,Ld 27 26,Oo 28 (.len false (t 27)),Bc 29 .sub 28 1,Bn 30 .eql 25 29,Cl 31 236 [(t 24),(t 30)],Mv 5 31] (Sr [Mv 32 5,Bc 33 .neq 32 0] (Cd 33 (Sr [Mv 34 5,Mv 2 34] .ret) .skip))))) (.reg [Bc 35 .add 19 1,Mv 19 35]))))))) (Sr [Mc 2 0] .ret))))
theorem k156:Zaw Tryz.prog 156=some ⟨c156,[(.tmp 2)],36⟩:=by kernel_rfl
def c153:AC:=(Sr [Mc 4 0] (.seq (Sr [Mv 8 0,Oo 9 (.len false (t 8)),Mc 10 0] (.block 0 (.loop (Sr [Bn 11 .lss 10 9] (.seq (Cd 11 .skip (.exit 0)) (.seq (.block 1 (Sr [Oo 12 (.ia 11 (t 8) (t 10)),Oo 13 (.load true 11 (t 12)),Oo 6 (.new 168 11 [Ss,(iv 0),(iv 0),(iv 0),(iv 0),(iv 0),(iv 0),(iv 0),(iv 0),(iv 0),Ss]),⟨none,none,(.store 11 (t 6) (t 13))⟩] (Sr [Mv 14 1,Oo 15 (.load true 11 (t 6)),Oo 16 (.call (t 14) [(t 15)]),Mv 7 16] (Sr [Mv 17 7,Bc 18 .neq 17 0] (Cd 18 (Sr [Mv 19 7,Mv 4 19] .ret) .skip))))) (.reg [Bc 20 .add 10 1,Mv 10 20]))))))) (Sr [Mc 4 0] .ret)))
theorem k153:Zaw Tryz.prog 153=some ⟨c153,[(.tmp 4)],21⟩:=by kernel_rfl
def c155:AC:=(Sr [Mc 4 0] (.seq (Sr [Mv 8 0,Oo 9 (.len false (t 8)),Mc 10 0] (.block 0 (.loop (Sr [Bn 11 .lss 10 9] (.seq (Cd 11 .skip (.exit 0)) (.seq (.block 1 (Sr [Oo 12 (.ia 2 (t 8) (t 10)),Oo 13 (.load true 2 (t 12)),Oo 6 (.new 94 2 [Ss,nl]),⟨none,none,(.store 2 (t 6) (t 13))⟩] (Sr [Mv 14 1,Oo 15 (.load true 2 (t 6)),Oo 16 (.call (t 14) [(t 15)]),Mv 7 16] (Sr [Mv 17 7,Bc 18 .neq 17 0] (Cd 18 (Sr [Mv 19 7,Mv 4 19] .ret) .skip))))) (.reg [Bc 20 .add 10 1,Mv 10 20]))))))) (Sr [Mc 4 0] .ret)))
theorem k155:Zaw Tryz.prog 155=some ⟨c155,[(.tmp 4)],21⟩:=by kernel_rfl
def c157:AC:=(Sr [Mc 4 0] (.seq (Sr [Mv 8 0,Oo 9 (.len false (t 8)),Mc 10 0] (.block 0 (.loop (Sr [Bn 11 .lss 10 9] (.seq (Cd 11 .skip (.exit 0)) (.seq (.block 1 (Sr [Oo 12 (.ia 2 (t 8) (t 10)),Oo 13 (.load true 2 (t 12)),Oo 6 (.new 97 2 [Ss,Ss]),⟨none,none,(.store 2 (t 6) (t 13))⟩] (Sr [Mv 14 1,Oo 15 (.load true 2 (t 6)),Oo 16 (.call (t 14) [(t 15)]),Mv 7 16] (Sr [Mv 17 7,Bc 18 .neq 17 0] (Cd 18 (Sr [Mv 19 7,Mv 4 19] .ret) .skip))))) (.reg [Bc 20 .add 10 1,Mv 10 20]))))))) (Sr [Mc 4 0] .ret)))
theorem k157:Zaw Tryz.prog 157=some ⟨c157,[(.tmp 4)],21⟩:=by kernel_rfl
def c152:AC:=(Sr [Oo 1 (.box 53 3 (t 0)),Mb 2 false] (.seq (Sr [Fa 5 1 1,Ld 6 5,Oo 7 (.len false (t 6)),Mc 8 0] (.block 0 (.loop (Sr [Bn 9 .lss 8 7] (.seq (Cd 9 .skip (.exit 0)) (.seq (.block 1 (Sr [Oo 10 (.ia 2 (t 6) (t 8)),Oo 11 (.load true 2 (t 10)),Oo 4 (.new 94 2 [Ss,nl]),⟨none,none,(.store 2 (t 4) (t 11))⟩] (Sr [Fa 12 1 4,Ld 13 12,Oo 14 (.len false (t 13)),Bc 15 .gtr 14 8] (Cd 15 (Sr [Mb 2 true] .ret) .skip)))) (.reg [Bc 16 .add 8 1,Mv 8 16]))))))) (Sr [Fa 17 0 1,Ld 18 17,Oo 19 (.len false (t 18)),Bc 20 .gtr 19 40,Mv 21 20,Of 22 21 (.fa 1 (t 1)),Of 23 21 (.load false 1 (t 22)),Of 24 21 (.len false (t 23)),Of 25 21 (.bin .gtr (t 24) (Ci 20)),Oo 26 (.pick (t 21) (.const (.bool true)) (t 25)),Mv 27 26,Of 28 27 (.fa 2 (t 1)),Of 29 27 (.load false 1 (t 28)),Of 30 27 (.len false (t 29)),Of 31 27 (.bin .gtr (t 30) (Ci 20)),Oo 32 (.pick (t 27) (.const (.bool true)) (t 31)),Mv 2 32] .ret)))
theorem k152:Zaw Tryz.prog 152=some ⟨c152,[(.tmp 2)],33⟩:=by kernel_rfl
def c90:AC:=(Sr [Oo 1 (.box 53 3 (t 0)),Mc 2 0] (.seq (Sr [Oo 4 (.load true 3 (t 1)),Cl 5 152 [(t 4)]] (Cd 5 (Sr [Mc 2 2] .ret) .skip)) (Sr [Fa 6 0 1,Ld 7 6,Cl 8 153 [(t 7),(.func 154)],Mv 3 8] (.seq (Sr [Mv 9 3,Bc 10 .eql 9 0] (Cd 10 (.reg [Fa 11 1 1,Ld 12 11,Cl 13 155 [(t 12),(.func 156)],Mv 3 13]) .skip)) (.seq (Sr [Mv 14 3,Bc 15 .eql 14 0] (Cd 15 (.reg [Fa 16 2 1,Ld 17 16,Cl 18 157 [(t 17),(.func 158)],Mv 3 18]) .skip)) (Sr [Mv 19 3,Mv 2 19] .ret))))))
theorem k90:Zaw Tryz.prog 90=some ⟨c90,[(.tmp 2)],20⟩:=by kernel_rfl
def Zbo (r:Rul):Int :=
 if ¬(ZcD r.1=true∧Zfa r.2.2.2.2.2.2.2.2=true) then 1
 else if r.2.1<1900∨r.2.1>r.2.2.1∨r.2.2.1>2100∨¬wi r.2.2.2.1 1 12=true then 3
 else if (onV 2001 r.2.2.2.1 r.2.2.2.2.1.1 r.2.2.2.2.1.2.1 r.2.2.2.2.1.2.2).2≠0 then (onV 2001 r.2.2.2.1 r.2.2.2.2.1.1 r.2.2.2.2.1.2.1 r.2.2.2.2.1.2.2).2
 else if ¬wi r.2.2.2.2.2.1 0 172800=true then 3
 else if ¬clkB r.2.2.2.2.2.2.1 true=true then 7
 else if ¬wi r.2.2.2.2.2.2.2.1 0 10800=true then 3 else 0
def Zii (l:Lnk):Int:=if ¬(ZcD l.1=true∧ZcD l.2=true) then 1 else 0
theorem link_b {a b:ByteArray}{h:AH}(ha:a.size≤maxLen) (hb:b.size≤maxLen):Ac 158 [.agg [sv a,sv b]] h (iv (Zii (a,b))):=by
 refine tI' k158 fun N hn _ _ hbd=>?_
 simp only[tb'] at hbd ⊢
 refine wr'<|E' (ZaR cv rfl hl0 ha0) pt<|ms<|Zac<|wr'<|fq<|Vw (Zaa lk gx gt0)<|Zad mp (Zic ha) pt<|Vw (ZaE lk)<|mw<|?_
 refine Za6 (t:=7) gt pt pt (fun hg7=>?_) (fun hg7=>?_)
 ·refine so<|so<|so<|so<|Vw (Zal lk lkb)<|sn'<|Zbb lk<|wo<|?_
  refine Zah<|Zae rz<|rT'<|?_
  rw[show Zii (a,b)=1 by unfold Zii;simp_all]
 refine sd<|fq<|sd<|Vw (Zaa lk gx gt1)<|sd<|Zad mp (Zic hb) pt<|sd<|Vw (ZaE lk)<|Vw (Zaj lk lk)<|sn'<|?_
 refine Zav lk (fun hc1=>?_) (fun hc1=>?_)
 ·refine wo<|Zah<|Zae rz<|rT'<|?_
  rw[show Zii (a,b)=1 by unfold Zii;simp_all]
 refine za<|wo<|Zae rz<|rT'<|?_
 rw[show Zii (a,b)=0 by unfold Zii;simp_all]
theorem rule_b {nm lt:ByteArray}{f t m k w n a c s:Int}{h:AH}(hn:nm.size≤maxLen) (hl:lt.size≤maxLen):Ac 154 [.agg [sv nm,iv f,iv t,iv m,iv k,iv w,iv n,iv a,iv c,iv s,sv lt]] h (iv (Zbo (nm,f,t,m,(k,w,n),a,c,s,lt))):=by
 have hnm:=hn
 clear hn
 refine tI' k154 fun N hn _ _ hbd=>?_
 simp only[tb'] at hbd ⊢
 refine wr'<|E' (ZaR cv rfl hl0 ha0) pt<|ms<|Zac<|Zaf<|wr'<|fq<|Vw (Zaa lk gx gt0)<|Zad mp (Zic hnm) pt<|Vw (ZaE lk)<|?_
 refine mv' lk pt ?_
 refine Za6 (t:=10) gt pt pt (fun hg10=>?_) (fun hg10=>?_)
 ·refine so<|so<|so<|so<|Vw (Zal lk lkb)<|ms<|Zbb lk<|wk'<|?_
  refine Zbe<|Zaq<|Zah<|Zae rz<|rT'<|?_
  rw[show Zbo (nm,f,t,m,(k,w,n),a,c,s,lt)=1 by unfold Zbo;simp_all]
 refine sd<|fq<|sd<|Vw (Zaa lk gx gt10)<|sd<|Zad mp (Zuq hl) pt<|sd<|Vw (ZaE lk)<|Vw (Zaj lk lk)<|ms<|?_
 refine Zav lk (fun hc1=>?_) (fun hc1=>?_)
 ·refine wo<|Zaq<|Zah<|Zae rz<|rT'<|?_
  rw[show Zbo (nm,f,t,m,(k,w,n),a,c,s,lt)=1 by unfold Zbo;simp_all]
 have h1:ZcD nm=true∧Zfa lt=true:=by simp_all
 have hR:Zbo (nm,f,t,m,(k,w,n),a,c,s,lt)=if f<1900∨f>t∨t>2100∨¬wi m 1 12=true then 3 else if (onV 2001 m k w n).2≠0 then (onV 2001 m k w n).2 else if ¬wi a 0 172800=true then 3 else if ¬clkB c true=true then 7 else if ¬wi s 0 10800=true then 3 else 0:=if_neg (by simp[h1])
 refine wr'<|fq<|Vw (Zaa lk gx gt1)<|Vw (ZaO lk lki)<|mw<|?_
 refine sp' (t:=20) gt pt pt (fun hg20=>?_) (fun hg20=>?_)
 ·rw[if_pos (.inl om)] at hR
  refine so<|so<|so<|so<|so<|Vw (Zal lk lkb)<|mw<|so<|so<|so<|Vw (Zal lk lkb)<|mw<|so<|so<|?_
  refine so<|so<|Vw (Zal lk lkb)<|ms<|Zbb lk<|wo<|Zaq<|?_
  refine Zah<|Zae rz<|rT'<|?_
  rw[hR]
 refine sd<|fq<|sd<|Vw (Zaa lk gx gt1)<|sd<|fq<|sd<|Vw (Zaa lk gx gt2)<|sd<|Vw (ZbE lk lk)<|Vw (Zaj lk lk)<|mw<|?_
 refine sp' (t:=27) gt pt pt (fun hg27=>?_) (fun hg27=>?_)
 ·rw[if_pos (.inr (.inl om))] at hR
  refine so<|so<|so<|Vw (Zal lk lkb)<|mw<|so<|so<|so<|so<|Vw (Zal lk lkb)<|ms<|Zbb lk<|?_
  refine wo<|Zaq<|Zah<|Zae rz<|rT'<|?_
  rw[hR]
 refine sd<|fq<|sd<|Vw (Zaa lk gx gt2)<|sd<|Vw (ZbE lk lki)<|Vw (Zaj lk lk)<|mw<|?_
 refine sp' (t:=32) gt pt pt (fun hg32=>?_) (fun hg32=>?_)
 ·rw[if_pos (.inr (.inr (.inl om)))] at hR
  refine so<|so<|so<|so<|Vw (Zal lk lkb)<|ms<|Zbb lk<|wk'<|?_
  refine Zbe<|Zaq<|Zah<|Zae rz<|rT'<|?_
  rw[hR]
 refine sd<|fq<|sd<|Vw (Zaa lk gx gt3)<|sd<|Zad mp (Zb0) pt<|sd<|Vw (ZaE lk)<|Vw (Zaj lk lk)<|ms<|?_
 refine Zav lk (fun hc2=>?_) (fun hc2=>?_)
 ·rw[if_pos (.inr (.inr (.inr (by simpa using hc2))))] at hR
  refine wo<|Zaq<|Zah<|Zae rz<|rT'<|?_
  rw[hR]
 have hw2:wi m 1 12=true:=by simpa using hc2
 have h2:¬(f<1900∨f>t∨t>2100∨¬wi m 1 12=true):=by rw[hw2];simp;omega
 rw[if_neg h2] at hR
 refine ZaB<|Zau<|Zan<|Zac<|wr'<|fq<|Vw (Zaa lk gx gt3)<|fq<|Vw (Zag lk gx ZrN rfl)<|Zad mp (on_a) pt<|mw<|Vw (ZaQ lk gt)<|Vw (ZaQ lk gt)<|?_
 refine E' (ZaV hl1 ha1) pt<|E' (Zai lk cv gx rfl nb rfl ZrP hs1) ptn<|ms<|wm<|Vw (Zba lk lki)<|sn'<|?_
 refine cd' lk (fun hc3=>?_) (fun hc3=>?_)
 ·rw[if_pos hc3] at hR
  refine wm<|mr<|Zah<|Zae rz<|rT'<|?_
  rw[hR]
 rw[if_neg hc3] at hR
 refine za<|Zac<|Zaf<|wr'<|fq<|Vw (Zaa lk gx gt7)<|Zad mp (Zb0) pt<|Vw (ZaE lk)<|ms<|?_
 refine Zav lk (fun hc4=>?_) (fun hc4=>?_)
 ·rw[if_pos (by simpa using hc4)] at hR
  refine wo<|Zaq<|Zah<|Zae rz<|rT'<|?_
  rw[hR]
 rw[if_neg (by simpa using hc4)] at hR
 refine wr'<|fq<|Vw (Zaa lk gx gt8)<|Zad mp (Ziz) pt<|Vw (ZaE lk)<|ms<|?_
 refine Zav lk (fun hc5=>?_) (fun hc5=>?_)
 ·rw[if_pos (by simpa using hc5)] at hR
  refine wo<|Zaq<|Zah<|Zae rz<|rT'<|?_
  rw[hR]
 rw[if_neg (by simpa using hc5)] at hR
 refine wr'<|fq<|Vw (Zaa lk gx gt9)<|Zad mp (Zb0) pt<|Vw (ZaE lk)<|ms<|?_
 refine Zav lk (fun hc6=>?_) (fun hc6=>?_)
 ·rw[if_pos (by simpa using hc6)] at hR
  refine wo<|Zaq<|Zah<|Zae rz<|rT'<|?_
  rw[hR]
 rw[if_neg (by simpa using hc6)] at hR
 refine ZaB<|Zau<|Zan<|wo<|Zae rz<|rT'<|?_
 rw[hR]
theorem Zle {y m d:Int}{h:AH}:Ac 83 [.agg [iv y,iv m,iv d]] h (.tup [iv (if Zbq y m d=true then num y m d else 0),iv (if Zbq y m d=true then 0 else 3)]):=days_a
def eraE (sh:Int) (rl:ByteArray) (sa:Int) (fm:ByteArray) (op:Bool) (y m d a c:Int) (last:Bool):Int :=
 if (rl≠⟨#[]⟩∧¬ZcD rl=true)∨¬ZbX fm=true then 1
 else if ¬wi sh (-64800) 64800=true∨¬wi sa 0 10800=true then 3
 else if rl≠⟨#[]⟩∧sa≠0 then 1
 else if op≠last then 4
 else if op=true then (if ¬(y=0∧m=0∧d=0∧a=0∧c=0) then 1 else 0)
 else if ¬Zbq y m d=true then 3
 else if ¬wi a 0 172800=true then 3
 else if ¬clkB c false=true then 7 else 0
theorem era_b {rl fm:ByteArray}{sh sa y m d a c:Int}{op last:Bool}{h:AH}(hrl:rl.size≤maxLen) (hfm:fm.size≤maxLen):Ac 236 [.agg [iv sh,sv rl,iv sa,sv fm,bv op,iv y,iv m,iv d,iv a,iv c],bv last] h (iv (eraE sh rl sa fm op y m d a c last)):=by
 refine tI' k236 fun N hn _ _ hbd=>?_
 simp only[tb'] at hbd ⊢
 refine wr'<|E' (ZaR cv rfl hl0 ha0) pt<|ms<|Zac<|Zaf<|wr'<|fq<|Vw (Zaa lk gx gt1)<|Vw (ZeC lk lks)<|mw<|?_
 refine sp' (t:=11) gt pt pt (fun hg11=>?_) (fun hg11=>?_)
 ·refine sd<|fq<|sd<|Vw (Zaa lk gx gt1)<|sd<|Zad mp (Zic hrl) pt<|sd<|Vw (ZaE lk)<|Vw (Zal lk lk)<|mw<|?_
  refine Za6 (t:=17) gt pt pt (fun hg17=>?_) (fun hg17=>?_)
  ·refine so<|so<|so<|so<|Vw (Zal lk lkb)<|ms<|Zbb lk<|wk'<|?_
   refine Zbe<|Zaq<|Zah<|Zae rz<|rT'<|?_
   refine ivx ?_;unfold eraE;simp_all
  refine sd<|fq<|sd<|Vw (Zaa lk gx gt3)<|sd<|Zad mp (Zp5 hfm) pt<|sd<|Vw (ZaE lk)<|Vw (Zaj lk lk)<|ms<|?_
  refine Zav lk (fun hc1=>?_) (fun hc1=>?_)
  ·refine wo<|Zaq<|Zah<|Zae rz<|rT'<|?_
   refine ivx ?_;unfold eraE;simp_all
  refine wr'<|fq<|Vw (Zaa lk gx gt0)<|Zad mp (Zb0) pt<|Vw (ZaE lk)<|mw<|?_
  refine Za6 (t:=28) gt pt pt (fun hg28=>?_) (fun hg28=>?_)
  ·refine so<|so<|so<|so<|Vw (Zal lk lkb)<|ms<|Zbb lk<|wk'<|?_
   refine Zbe<|Zaq<|Zah<|Zae rz<|rT'<|?_
   refine ivx ?_;unfold eraE;simp_all
  refine sd<|fq<|sd<|Vw (Zaa lk gx gt2)<|sd<|Zad mp (Zb0) pt<|sd<|Vw (ZaE lk)<|Vw (Zaj lk lk)<|ms<|?_
  refine Zav lk (fun hc2=>?_) (fun hc2=>?_)
  ·refine wo<|Zaq<|Zah<|Zae rz<|rT'<|?_
   refine ivx ?_;unfold eraE;simp_all
  refine wr'<|fq<|Vw (Zaa lk gx gt1)<|Vw (ZeC lk lks)<|mw<|?_
  refine sp' (t:=38) gt pt pt (fun hg38=>?_) (fun hg38=>?_)
  ·refine sd<|fq<|sd<|Vw (Zaa lk gx gt2)<|sd<|Vw (Zba lk lki)<|Vw (Zal lk lk)<|ms<|?_
   refine cd' lk (fun hc3=>?_) (fun hc3=>?_)
   ·refine wo<|Zaq<|Zah<|Zae rz<|rT'<|?_
    refine ivx ?_;unfold eraE;simp_all
   refine wr'<|fq<|Vw (Zaa lk gx gt4)<|mw<|Vw (Zo4 lk lk)<|ms<|?_
   refine cd' lk (fun hc4=>?_) (fun hc4=>?_)
   ·refine wo<|Zaq<|Zah<|Zae rz<|rT'<|?_
    refine ivx ?_;unfold eraE;simp_all
   refine wr'<|fq<|Vw (Zaa lk gx gt4)<|ms<|?_
   refine Zav lk (fun hc5=>?_) (fun hc5=>?_)
   ·refine Zac<|wr'<|fq<|Vw (Zag lk gx Zfn rfl)<|Vw (Zat Zez)<|Vw (ZfW lk lk Zdp)<|sn'<|?_
    refine cd' lk (fun hc6=>?_) (fun hc6=>?_)
    ·refine wo<|Zah<|Zaq<|Zah<|Zae rz<|rT'<|?_
     refine ivx ?_;unfold eraE;simp_all
    refine za<|wo<|Zaq<|Zah<|Zae rz<|rT'<|?_
    refine ivx ?_;unfold eraE;simp_all
   refine ZaB<|Zau<|Zan<|Zac<|wr'<|fq<|Vw (Zbs lk)<|Vw (Zag lk gx Zfo rfl)<|Zad mp (Zle) pt<|mw<|Vw (ZaQ lk gt)<|Vw (ZaQ lk gt)<|mw<|?_
   refine ms<|wm<|Vw (Zba lk lki)<|sn'<|?_
   refine cd' lk (fun hc7=>?_) (fun hc7=>?_)
   ·refine wm<|mr<|Zah<|Zae rz<|rT'<|?_
    refine ivx ?_;unfold eraE;simp_all
   refine za<|Zac<|Zaf<|wr'<|fq<|Vw (Zbs lk)<|Vw (Zaa lk gx gt8)<|Zad mp (Zb0) pt<|Vw (ZaE lk)<|ms<|?_
   refine Zav lk (fun hc8=>?_) (fun hc8=>?_)
   ·refine wo<|Zaq<|Zah<|Zae rz<|rT'<|?_
    refine ivx ?_;unfold eraE;simp_all
   refine wr'<|fq<|Vw (Zbs lk)<|Vw (Zaa lk gx gt9)<|Zad mp (Ziz) pt<|Vw (ZaE lk)<|ms<|?_
   refine Zav lk (fun hc9=>?_) (fun hc9=>?_)
   ·refine wo<|Zaq<|Zah<|Zae rz<|rT'<|?_
    refine ivx ?_;unfold eraE;simp_all
   refine ZaB<|Zau<|Zan<|wo<|Zae rz<|rT'<|?_
   refine ivx ?_;unfold eraE;simp_all
  refine so<|so<|so<|Vw (Zaj lk lkb)<|ms<|Za8 lk<|wr'<|fq<|Vw (Zaa lk gx gt4)<|mw<|Vw (Zo4 lk lk)<|?_
  refine ms<|?_
  refine cd' lk (fun hc4=>?_) (fun hc4=>?_)
  ·refine wo<|Zaq<|Zah<|Zae rz<|rT'<|?_
   refine ivx ?_;unfold eraE;simp_all
  refine wr'<|fq<|Vw (Zaa lk gx gt4)<|ms<|?_
  refine Zav lk (fun hc5=>?_) (fun hc5=>?_)
  ·refine Zac<|wr'<|fq<|Vw (Zag lk gx Zfn rfl)<|Vw (Zat Zez)<|Vw (ZfW lk lk Zdp)<|sn'<|?_
   refine cd' lk (fun hc6=>?_) (fun hc6=>?_)
   ·refine wo<|Zah<|Zaq<|Zah<|Zae rz<|rT'<|?_
    refine ivx ?_;unfold eraE;simp_all
   refine za<|wo<|Zaq<|Zah<|Zae rz<|rT'<|?_
   refine ivx ?_;unfold eraE;simp_all
  refine ZaB<|Zau<|Zan<|Zac<|wr'<|fq<|Vw (Zbs lk)<|Vw (Zag lk gx Zfo rfl)<|Zad mp (Zle) pt<|mw<|Vw (ZaQ lk gt)<|Vw (ZaQ lk gt)<|mw<|?_
  refine ms<|wm<|Vw (Zba lk lki)<|sn'<|?_
  refine cd' lk (fun hc7=>?_) (fun hc7=>?_)
  ·refine wm<|mr<|Zah<|Zae rz<|rT'<|?_
   refine ivx ?_;unfold eraE;simp_all
  refine za<|Zac<|Zaf<|wr'<|fq<|Vw (Zbs lk)<|Vw (Zaa lk gx gt8)<|Zad mp (Zb0) pt<|Vw (ZaE lk)<|ms<|?_
  refine Zav lk (fun hc8=>?_) (fun hc8=>?_)
  ·refine wo<|Zaq<|Zah<|Zae rz<|rT'<|?_
   refine ivx ?_;unfold eraE;simp_all
  refine wr'<|fq<|Vw (Zbs lk)<|Vw (Zaa lk gx gt9)<|Zad mp (Ziz) pt<|Vw (ZaE lk)<|ms<|?_
  refine Zav lk (fun hc9=>?_) (fun hc9=>?_)
  ·refine wo<|Zaq<|Zah<|Zae rz<|rT'<|?_
   refine ivx ?_;unfold eraE;simp_all
  refine ZaB<|Zau<|Zan<|wo<|Zae rz<|rT'<|?_
  refine ivx ?_;unfold eraE;simp_all
 refine so<|so<|so<|so<|Vw (Zaj lk lkb)<|mw<|sd<|fq<|sd<|Vw (Zaa lk gx gt3)<|sd<|Zad mp (Zp5 hfm) pt<|sd<|Vw (ZaE lk)<|?_
 refine Vw (Zaj lk lk)<|ms<|?_
 refine Zav lk (fun hc1=>?_) (fun hc1=>?_)
 ·refine wo<|Zaq<|Zah<|Zae rz<|rT'<|?_
  refine ivx ?_;unfold eraE;simp_all
 refine wr'<|fq<|Vw (Zaa lk gx gt0)<|Zad mp (Zb0) pt<|Vw (ZaE lk)<|mw<|?_
 refine Za6 (t:=28) gt pt pt (fun hg28=>?_) (fun hg28=>?_)
 ·refine so<|so<|so<|so<|Vw (Zal lk lkb)<|ms<|Zbb lk<|wk'<|?_
  refine Zbe<|Zaq<|Zah<|Zae rz<|rT'<|?_
  refine ivx ?_;unfold eraE;simp_all
 refine sd<|fq<|sd<|Vw (Zaa lk gx gt2)<|sd<|Zad mp (Zb0) pt<|sd<|Vw (ZaE lk)<|Vw (Zaj lk lk)<|ms<|?_
 refine Zav lk (fun hc2=>?_) (fun hc2=>?_)
 ·refine wo<|Zaq<|Zah<|Zae rz<|rT'<|?_
  refine ivx ?_;unfold eraE;simp_all
 refine wr'<|fq<|Vw (Zaa lk gx gt1)<|Vw (ZeC lk lks)<|mw<|?_
 refine sp' (t:=38) gt pt pt (fun hg38=>?_) (fun hg38=>?_)
 ·refine sd<|fq<|sd<|Vw (Zaa lk gx gt2)<|sd<|Vw (Zba lk lki)<|Vw (Zal lk lk)<|ms<|?_
  refine cd' lk (fun hc3=>?_) (fun hc3=>?_)
  ·refine wo<|Zaq<|Zah<|Zae rz<|rT'<|?_
   refine ivx ?_;unfold eraE;simp_all
  refine wr'<|fq<|Vw (Zaa lk gx gt4)<|mw<|Vw (Zo4 lk lk)<|ms<|?_
  refine cd' lk (fun hc4=>?_) (fun hc4=>?_)
  ·refine wo<|Zaq<|Zah<|Zae rz<|rT'<|?_
   refine ivx ?_;unfold eraE;simp_all
  refine wr'<|fq<|Vw (Zaa lk gx gt4)<|ms<|?_
  refine Zav lk (fun hc5=>?_) (fun hc5=>?_)
  ·refine Zac<|wr'<|fq<|Vw (Zag lk gx Zfn rfl)<|Vw (Zat Zez)<|Vw (ZfW lk lk Zdp)<|sn'<|?_
   refine cd' lk (fun hc6=>?_) (fun hc6=>?_)
   ·refine wo<|Zah<|Zaq<|Zah<|Zae rz<|rT'<|?_
    refine ivx ?_;unfold eraE;simp_all
   refine za<|wo<|Zaq<|Zah<|Zae rz<|rT'<|?_
   refine ivx ?_;unfold eraE;simp_all
  refine ZaB<|Zau<|Zan<|Zac<|wr'<|fq<|Vw (Zbs lk)<|Vw (Zag lk gx Zfo rfl)<|Zad mp (Zle) pt<|mw<|Vw (ZaQ lk gt)<|Vw (ZaQ lk gt)<|mw<|?_
  refine ms<|wm<|Vw (Zba lk lki)<|sn'<|?_
  refine cd' lk (fun hc7=>?_) (fun hc7=>?_)
  ·refine wm<|mr<|Zah<|Zae rz<|rT'<|?_
   refine ivx ?_;unfold eraE;simp_all
  refine za<|Zac<|Zaf<|wr'<|fq<|Vw (Zbs lk)<|Vw (Zaa lk gx gt8)<|Zad mp (Zb0) pt<|Vw (ZaE lk)<|ms<|?_
  refine Zav lk (fun hc8=>?_) (fun hc8=>?_)
  ·refine wo<|Zaq<|Zah<|Zae rz<|rT'<|?_
   refine ivx ?_;unfold eraE;simp_all
  refine wr'<|fq<|Vw (Zbs lk)<|Vw (Zaa lk gx gt9)<|Zad mp (Ziz) pt<|Vw (ZaE lk)<|ms<|?_
  refine Zav lk (fun hc9=>?_) (fun hc9=>?_)
  ·refine wo<|Zaq<|Zah<|Zae rz<|rT'<|?_
   refine ivx ?_;unfold eraE;simp_all
  refine ZaB<|Zau<|Zan<|wo<|Zae rz<|rT'<|?_
  refine ivx ?_;unfold eraE;simp_all
 refine so<|so<|so<|Vw (Zaj lk lkb)<|ms<|Za8 lk<|wr'<|fq<|Vw (Zaa lk gx gt4)<|mw<|Vw (Zo4 lk lk)<|?_
 refine ms<|?_
 refine cd' lk (fun hc4=>?_) (fun hc4=>?_)
 ·refine wo<|Zaq<|Zah<|Zae rz<|rT'<|?_
  refine ivx ?_;unfold eraE;simp_all
 refine wr'<|fq<|Vw (Zaa lk gx gt4)<|ms<|?_
 refine Zav lk (fun hc5=>?_) (fun hc5=>?_)
 ·refine Zac<|wr'<|fq<|Vw (Zag lk gx Zfn rfl)<|Vw (Zat Zez)<|Vw (ZfW lk lk Zdp)<|sn'<|?_
  refine cd' lk (fun hc6=>?_) (fun hc6=>?_)
  ·refine wo<|Zah<|Zaq<|Zah<|Zae rz<|rT'<|?_
   refine ivx ?_;unfold eraE;simp_all
  refine za<|wo<|Zaq<|Zah<|Zae rz<|rT'<|?_
  refine ivx ?_;unfold eraE;simp_all
 refine ZaB<|Zau<|Zan<|Zac<|wr'<|fq<|Vw (Zbs lk)<|Vw (Zag lk gx Zfo rfl)<|Zad mp (Zle) pt<|mw<|Vw (ZaQ lk gt)<|Vw (ZaQ lk gt)<|mw<|?_
 refine ms<|wm<|Vw (Zba lk lki)<|sn'<|?_
 refine cd' lk (fun hc7=>?_) (fun hc7=>?_)
 ·refine wm<|mr<|Zah<|Zae rz<|rT'<|?_
  refine ivx ?_;unfold eraE;simp_all
 refine za<|Zac<|Zaf<|wr'<|fq<|Vw (Zbs lk)<|Vw (Zaa lk gx gt8)<|Zad mp (Zb0) pt<|Vw (ZaE lk)<|ms<|?_
 refine Zav lk (fun hc8=>?_) (fun hc8=>?_)
 ·refine wo<|Zaq<|Zah<|Zae rz<|rT'<|?_
  refine ivx ?_;unfold eraE;simp_all
 refine wr'<|fq<|Vw (Zbs lk)<|Vw (Zaa lk gx gt9)<|Zad mp (Ziz) pt<|Vw (ZaE lk)<|ms<|?_
 refine Zav lk (fun hc9=>?_) (fun hc9=>?_)
 ·refine wo<|Zaq<|Zah<|Zae rz<|rT'<|?_
  refine ivx ?_;unfold eraE;simp_all
 refine ZaB<|Zau<|Zan<|wo<|Zae rz<|rT'<|?_
 refine ivx ?_;unfold eraE;simp_all
abbrev eraX (x:Era) (last:Bool):Int:=eraE x.1 x.2.1 x.2.2.1 x.2.2.2.1 x.2.2.2.2.1 x.2.2.2.2.2.1.1 x.2.2.2.2.2.1.2.1 x.2.2.2.2.2.1.2.2 x.2.2.2.2.2.2.1 x.2.2.2.2.2.2.2 last
def Zjd:List Era→Int
 | []=>0
 | x::xs=>if eraX x xs.isEmpty≠0 then eraX x xs.isEmpty else Zjd xs
def ZhT (z:Zon):Int:=if ¬ZcD z.1=true∨z.2.length=0 then 1 else Zjd z.2
def okEra (x:Era):Prop:=x.2.1.size≤maxLen∧x.2.2.2.1.size≤maxLen
theorem erasE_at {l:List Era}{k:Nat}(h:k<l.length):Zjd (l.drop k)=if eraX l[k] (decide ((k:Int)=(l.length:Int)-1))≠0 then eraX l[k] (decide ((k:Int)=(l.length:Int)-1)) else Zjd (l.drop (k+1)):=by
 have e:(l.drop (k+1)).isEmpty=decide ((k:Int)=(l.length:Int)-1):=by
  rw[Bool.eq_iff_iff,List.isEmpty_iff,List.drop_eq_nil_iff,decide_eq_true_iff];omega
 rw[List.drop_eq_getElem_cons h,Zjd,e]
theorem zone_b {nm:ByteArray}{l:List Era}{h:AH}(hnm:nm.size≤maxLen) (hl : ∀ x∈l,okEra x):Ac 156 [.agg [sv nm,.sl l.length 10 false (rows eraC l)]] h (iv (ZhT (nm,l))):=by
 refine tI' k156 fun N hn hlt _ hbd=>?_
 simp only[tb'] at hbd ⊢
 refine wr'<|E' (ZaR cv rfl hl0 ha0) pt<|ms<|Zac<|wr'<|fq<|Vw (Zaa lk gx gt0)<|Zad mp (Zic hnm) pt<|Vw (ZaE lk)<|mw<|?_
 refine Za6 (t:=10) gt pt pt (fun hg10=>?_) (fun hg10=>?_)
 ·have hZ:ZhT (nm,l)=1:=if_pos (.inl (by simpa using hg10))
  refine so<|so<|so<|so<|Vw (Zal lk lkb)<|sn'<|Zbb lk<|wo<|?_
  refine Zah<|Zae rz<|rT'<|?_
  rw[hZ]
 refine sd<|fq<|sd<|Vw (Zaa lk gx gt1)<|sd<|Vw (ZaA lk)<|sd<|Vw (Za7 lk lki)<|Vw (Zaj lk lk)<|sn'<|?_
 refine cd' lk (fun hc1=>?_) (fun hc1=>?_)
 ·have hZ:ZhT (nm,l)=1:=if_pos (.inr (by show l.length=0;omega))
  refine wo<|Zah<|Zae rz<|rT'<|?_
  rw[hZ]
 have hZ:ZhT (nm,l)=Zjd l:=if_neg (by rintro (h1 | h1);exact h1 (by simpa using hg10);exact hc1 (by show (l.length:Int)=0;have:l.length=0:=h1;omega))
 refine za<|Zac<|wr'<|fq<|Vw (Zaa lk gx gt1)<|Vw (ZaA lk)<|ms<|Zaf<|?_
 refine w_lp (ι:=Nat) (fun (k:Nat)=>[(19,iv (k:Int))]++rn' 2 4++rn' 20 16) (fun (k:Nat)=>[]) (fun (k:Nat)=>k≤l.length∧Zjd l=Zjd (l.drop k)) (fun (k:Nat)=>l.length-k) (0) (by exact⟨Nat.zero_le _,rfl⟩) ?_
 rintro k hi1
 try simp only[sm',Nat.reduceAdd]
 obtain⟨hk1,hk2⟩:=hi1
 refine wr'<|Vw (ZaO lk lk)<|sn'<|Zac<|?_
 refine cd' lk (fun hc2=>?_) (fun hc2=>?_)
 ·have hk:k<l.length:=by omega
  have ho:=hl _ (List.getElem_mem hk)
  rw[erasE_at hk] at hk2
  refine za<|Zac<|Zaf<|wm<|?_
  refine V' (ZaJ lk lk ZcV nb ro om ro rfl) pt ?_
  refine Vw (Zas lk ZrM rfl)<|E' (ZaV hl1 ha1) pt<|mw<|E' (Zai lk cv gx rfl nb rfl ZoF hs1) ptn<|sn'<|wr'<|Vw (Zag lk gx ZoD rfl)<|mw<|fq<|Vw (Zaa lk gx gt1)<|Vw (ZaA lk)<|?_
  refine V' (Za3 lk lki om om) pt ?_
  refine Vw (Za7 lk lk)<|Zad mp (era_b (last:=decide ((k:Int)=(l.length:Int)-1)) ho.1 ho.2) pt<|ms<|wm<|Vw (Zba lk lki)<|sn'<|?_
  refine cd' lk (fun hc3=>?_) (fun hc3=>?_)
  ·have hc3':eraX l[k] (decide ((k:Int)=(l.length:Int)-1))≠0:=hc3
   rw[if_pos hc3'] at hk2
   refine wm<|mr<|Zaq<|Zah<|Zah<|Zaq<|Zah<|Zae rz<|rT'<|?_
   rw[hZ,hk2]
  have hc3':¬eraX l[k] (decide ((k:Int)=(l.length:Int)-1))≠0:=hc3
  rw[if_neg hc3'] at hk2
  refine ZaB<|Zau<|Zan<|Zap<|?_
  refine ad<|mw<|Zam<|Zaz<|?_
  refine lU' (k+1) (by (try dsimp only);exact⟨by omega,hk2⟩) (by refine zz ?_;exact bk' 1 hn hlt)
 rw[List.drop_of_length_le om] at hk2
 refine Zay<|Zar<|Zar<|ZaN<|Zan<|wo<|Zae rz<|rT'<|?_
 rw[hZ,hk2];rfl
def Zbc {α:Type}(p:α→Int):List α→Int
 | []=>0
 | x::xs=>if p x≠0 then p x else Zbc p xs
theorem ZdC {α:Type}{p:α→Int}{l:List α}{k:Nat}(h:k<l.length):Zbc p (l.drop k)=if p l[k]≠0 then p l[k] else Zbc p (l.drop (k+1)):=by
 rw[List.drop_eq_getElem_cons h,Zbc]
theorem Zq6 {p:Rul→Int}{f:FuncId}{l:List Rul}(hp : ∀ x∈l,∀ h:AH,ACalls Tryz.prog f [.agg (rulC x)] h fun y h'=>h'=h∧y=.ret (iv (p x))) {h:AH}:Ac 153 [.sl l.length 11 false (rows rulC l),.v (.func (.func f) #[] #[])] h (iv (Zbc p l)):=by
 refine tI' k153 fun N hn hlt _ hbd=>?_
 simp only[tb'] at hbd ⊢
 refine wk'<|Zac<|wm<|Vw (ZaA lk)<|ms<|Zaf<|?_
 refine w_lp (ι:=Nat) (fun (k:Nat)=>[(10,iv (k:Int)),(4,.any),(6,.any),(7,.any)]++rn' 11 10) (fun (k:Nat)=>[]) (fun (k:Nat)=>k≤l.length∧Zbc p l=Zbc p (l.drop k)) (fun (k:Nat)=>l.length-k) (0) (by exact⟨Nat.zero_le _,rfl⟩) ?_
 rintro k hi1
 try simp only[sm',Nat.reduceAdd]
 obtain⟨hk1,hk2⟩:=hi1
 refine wr'<|Vw (ZaO lk lk)<|sn'<|Zac<|?_
 refine cd' lk (fun hc1=>?_) (fun hc1=>?_)
 ·have hk:k<l.length:=by omega
  rw[ZdC hk] at hk2
  refine za<|Zac<|Zaf<|wr'<|?_
  refine V' (ZaJ lk lk Zcq nb ro om ro rfl) pt ?_
  refine Vw (Zas lk ZrL rfl)<|E' (ZaV hl0 ha0) pt<|E' (Zai lk cv gx rfl nb rfl ZoE hs0) ptn<|sn'<|wm<|Vw (Zag lk gx ZoC rfl)<|ZfE lk mp (hp _ (List.getElem_mem hk) _) pt<|ms<|Zac<|?_
  refine Zap<|mw<|Vw (Zba lk lki)<|sn'<|?_
  refine cd' lk (fun hc2=>?_) (fun hc2=>?_)
  ·rw[if_pos hc2] at hk2
   refine wm<|mr<|Zaq<|Zah<|Zah<|Zaq<|Zah<|Zae rz<|rT'<|?_
   rw[hk2]
  rw[if_neg hc2] at hk2
  refine ZaB<|Zau<|Zan<|Zap<|?_
  refine ad<|mw<|Zam<|Zaz<|?_
  refine lU' (k+1) (by (try dsimp only);exact⟨by omega,hk2⟩) (by refine zz ?_;exact bk' 0 hn hlt)
 rw[List.drop_of_length_le om] at hk2
 refine Zay<|Zar<|Zar<|ZaN<|Zan<|wo<|Zae rz<|rT'<|?_
 rw[hk2];rfl
theorem Zq5 {p:Zon→Int}{f:FuncId}{l:List Zon}(hp : ∀ x∈l,∀ h:AH,ACalls Tryz.prog f [.agg (zonC x)] h fun y h'=>h'=h∧y=.ret (iv (p x))) {h:AH}:Ac 155 [.sl l.length 2 false (rows zonC l),.v (.func (.func f) #[] #[])] h (iv (Zbc p l)):=by
 refine tI' k155 fun N hn hlt _ hbd=>?_
 simp only[tb'] at hbd ⊢
 refine wk'<|Zac<|wm<|Vw (ZaA lk)<|ms<|Zaf<|?_
 refine w_lp (ι:=Nat) (fun (k:Nat)=>[(10,iv (k:Int)),(4,.any),(6,.any),(7,.any)]++rn' 11 10) (fun (k:Nat)=>[]) (fun (k:Nat)=>k≤l.length∧Zbc p l=Zbc p (l.drop k)) (fun (k:Nat)=>l.length-k) (0) (by exact⟨Nat.zero_le _,rfl⟩) ?_
 rintro k hi1
 try simp only[sm',Nat.reduceAdd]
 obtain⟨hk1,hk2⟩:=hi1
 refine wr'<|Vw (ZaO lk lk)<|sn'<|Zac<|?_
 refine cd' lk (fun hc1=>?_) (fun hc1=>?_)
 ·have hk:k<l.length:=by omega
  rw[ZdC hk] at hk2
  refine za<|Zac<|Zaf<|wr'<|?_
  refine V' (ZaJ lk lk Zcp nb ro om ro rfl) pt ?_
  refine Vw (Zas lk ZiO rfl)<|E' (ZaV hl0 ha0) pt<|E' (Zai lk cv gx rfl nb rfl Zg5 hs0) ptn<|sn'<|wm<|Vw (Zag lk gx Zke rfl)<|ZfE lk mp (hp _ (List.getElem_mem hk) _) pt<|ms<|Zac<|?_
  refine Zap<|mw<|Vw (Zba lk lki)<|sn'<|?_
  refine cd' lk (fun hc2=>?_) (fun hc2=>?_)
  ·rw[if_pos hc2] at hk2
   refine wm<|mr<|Zaq<|Zah<|Zah<|Zaq<|Zah<|Zae rz<|rT'<|?_
   rw[hk2]
  rw[if_neg hc2] at hk2
  refine ZaB<|Zau<|Zan<|Zap<|?_
  refine ad<|mw<|Zam<|Zaz<|?_
  refine lU' (k+1) (by (try dsimp only);exact⟨by omega,hk2⟩) (by refine zz ?_;exact bk' 0 hn hlt)
 rw[List.drop_of_length_le om] at hk2
 refine Zay<|Zar<|Zar<|ZaN<|Zan<|wo<|Zae rz<|rT'<|?_
 rw[hk2];rfl
theorem ZjR {p:Lnk→Int}{f:FuncId}{l:List Lnk}(hp : ∀ x∈l,∀ h:AH,ACalls Tryz.prog f [.agg (lnkC x)] h fun y h'=>h'=h∧y=.ret (iv (p x))) {h:AH}:Ac 157 [.sl l.length 2 false (rows lnkC l),.v (.func (.func f) #[] #[])] h (iv (Zbc p l)):=by
 refine tI' k157 fun N hn hlt _ hbd=>?_
 simp only[tb'] at hbd ⊢
 refine wk'<|Zac<|wm<|Vw (ZaA lk)<|ms<|Zaf<|?_
 refine w_lp (ι:=Nat) (fun (k:Nat)=>[(10,iv (k:Int)),(4,.any),(6,.any),(7,.any)]++rn' 11 10) (fun (k:Nat)=>[]) (fun (k:Nat)=>k≤l.length∧Zbc p l=Zbc p (l.drop k)) (fun (k:Nat)=>l.length-k) (0) (by exact⟨Nat.zero_le _,rfl⟩) ?_
 rintro k hi1
 try simp only[sm',Nat.reduceAdd]
 obtain⟨hk1,hk2⟩:=hi1
 refine wr'<|Vw (ZaO lk lk)<|sn'<|Zac<|?_
 refine cd' lk (fun hc1=>?_) (fun hc1=>?_)
 ·have hk:k<l.length:=by omega
  rw[ZdC hk] at hk2
  refine za<|Zac<|Zaf<|wr'<|?_
  refine V' (ZaJ lk lk Zbf nb ro om ro rfl) pt ?_
  refine Vw (Zas lk ZiO rfl)<|E' (ZaV hl0 ha0) pt<|E' (Zai lk cv gx rfl nb rfl Zg5 hs0) ptn<|sn'<|wm<|Vw (Zag lk gx Zke rfl)<|ZfE lk mp (hp _ (List.getElem_mem hk) _) pt<|ms<|Zac<|?_
  refine Zap<|mw<|Vw (Zba lk lki)<|sn'<|?_
  refine cd' lk (fun hc2=>?_) (fun hc2=>?_)
  ·rw[if_pos hc2] at hk2
   refine wm<|mr<|Zaq<|Zah<|Zah<|Zaq<|Zah<|Zae rz<|rT'<|?_
   rw[hk2]
  rw[if_neg hc2] at hk2
  refine ZaB<|Zau<|Zan<|Zap<|?_
  refine ad<|mw<|Zam<|Zaz<|?_
  refine lU' (k+1) (by (try dsimp only);exact⟨by omega,hk2⟩) (by refine zz ?_;exact bk' 0 hn hlt)
 rw[List.drop_of_length_le om] at hk2
 refine Zay<|Zar<|Zar<|ZaN<|Zan<|wo<|Zae rz<|rT'<|?_
 rw[hk2];rfl
def Zl9 (s:Src):Bool:=s.2.1.any (fun z=>decide (8<z.2.length))||decide (40<s.1.length)||decide (20<s.2.1.length)||decide (20<s.2.2.length)
theorem many_b {a:List Rul}{z:List Zon}{l:List Lnk}{h:AH}:Ac 152 [.agg [.sl a.length 11 false (rows rulC a),.sl z.length 2 false (rows zonC z),.sl l.length 2 false (rows lnkC l)]] h (bv (Zl9 (a,z,l))):=by
 refine tI' k152 fun N hn hlt _ hbd=>?_
 simp only[tb'] at hbd ⊢
 refine wr'<|E' (ZaR cv rfl hl0 ha0) pt<|ms<|Zac<|wr'<|fq<|Vw (Zaa lk gx gt1)<|Vw (ZaA lk)<|mw<|Zam<|?_
 refine Zan<|Zaf<|?_
 refine w_lp (ι:=Nat) (fun (k:Nat)=>[(8,iv (k:Int)),(2,.any),(4,.any)]++rn' 9 8) (fun (k:Nat)=>[]) (fun (k:Nat)=>k≤z.length∧(z.take k).any (fun z=>decide (8<z.2.length))=false) (fun (k:Nat)=>z.length-k) (0) (by exact⟨Nat.zero_le _,rfl⟩) ?_
 rintro k hi1
 try simp only[sm',Nat.reduceAdd]
 obtain⟨hk1,hk2⟩:=hi1
 refine wr'<|Vw (ZaO lk lk)<|sn'<|Zac<|?_
 refine cd' lk (fun hc1=>?_) (fun hc1=>?_)
 ·have hk:k<z.length:=by omega
  refine za<|Zac<|Zaf<|wr'<|?_
  refine V' (ZaJ lk lk Zcp nb ro om ro rfl) pt ?_
  refine Vw (Zas lk ZiO rfl)<|E' (ZaV hl1 ha1) pt<|E' (Zai lk cv gx rfl nb rfl Zg5 hs1) ptn<|sn'<|wr'<|fq<|Vw (Zaa lk gx gt1)<|?_
  refine V' ((by first | exact ZaA lk | exact Zcm lk)) pt ?_
  refine Vw (ZbE lk lki)<|sn'<|?_
  refine cd' lk (fun hc2=>?_) (fun hc2=>?_)
  ·have hA:z.any (fun z=>decide (8<z.2.length))=true:=List.any_eq_true.2 ⟨z[k],List.getElem_mem hk,decide_eq_true om⟩
   refine wo<|Zaq<|Zah<|Zah<|Zaq<|Zah<|Zae rz<|rT'<|?_
   refine bvx ?_;unfold Zl9;rw[hA];simp
  refine ZaB<|Zau<|Zan<|Zap<|?_
  refine ad<|mw<|Zam<|Zaz<|?_
  refine lU' (k+1) (by (try dsimp only);exact⟨by omega,by rw[List.take_succ_eq_append_getElem hk,List.any_append,hk2];simp;omega⟩) (by refine zz ?_;exact bk' 1 hn hlt)
 rw[List.take_of_length_le om] at hk2
 refine Zay<|Zar<|Zar<|ZaN<|Zan<|wr'<|fq<|Vw (Zaa lk gx gt0)<|Vw (ZaA lk)<|Vw (ZbE lk lki)<|mw<|?_
 refine sp' (t:=21) gt pt pt (fun hg21=>?_) (fun hg21=>?_)
 ·refine so<|so<|so<|so<|Vw (Zal lk lkb)<|mw<|so<|so<|so<|so<|Vw (Zal lk lkb)<|ms<|?_
  refine Zbe<|Zae rz<|rT'<|?_
  refine bvx ?_;unfold Zl9;rw[hk2];rw[Bool.eq_iff_iff];simp;omega
 refine sd<|fq<|sd<|Vw (Zaa lk gx gt1)<|sd<|Vw (ZaA lk)<|sd<|Vw (ZbE lk lki)<|Vw (Zaj lk lk)<|mw<|?_
 refine sp' (t:=27) gt pt pt (fun hg27=>?_) (fun hg27=>?_)
 ·refine so<|so<|so<|so<|Vw (Zal lk lkb)<|mr<|Zae rz<|rT'<|?_
  refine bvx ?_;unfold Zl9;rw[hk2];rw[Bool.eq_iff_iff];simp;omega
 refine sd<|fq<|sd<|Vw (Zaa lk gx gt2)<|sd<|Vw (ZaA lk)<|sd<|Vw (ZbE lk lki)<|Vw (Zaj lk lk)<|mr<|Zae rz<|?_
 refine rT' ?_
 refine bvx ?_;unfold Zl9;rw[hk2];rw[Bool.eq_iff_iff];simp;omega
def Zny (s:Src):Prop:=(∀ r∈s.1,r.1.size≤maxLen∧r.2.2.2.2.2.2.2.2.size≤maxLen)∧(∀ z∈s.2.1,z.1.size≤maxLen ∧ ∀ x∈z.2,okEra x) ∧ ∀ l∈s.2.2,l.1.size≤maxLen∧l.2.size≤maxLen
def Zc6 (s:Src):Int:=if Zl9 s=true then 2 else if Zbc Zbo s.1≠0 then Zbc Zbo s.1 else if Zbc ZhT s.2.1≠0 then Zbc ZhT s.2.1 else Zbc Zii s.2.2
theorem scheck_b {a:List Rul}{z:List Zon}{l:List Lnk}{h:AH}(hok:Zny (a,z,l)):Ac 90 [.agg [.sl a.length 11 false (rows rulC a),.sl z.length 2 false (rows zonC z),.sl l.length 2 false (rows lnkC l)]] h (iv (Zc6 (a,z,l))):=by
 have p1 : ∀ x∈a,∀ h:AH,ACalls Tryz.prog 154 [.agg (rulC x)] h fun y h'=>h'=h∧y=.ret (iv (Zbo x)):=fun x hx h=>rule_b (hok.1 x hx).1 (hok.1 x hx).2
 have p2 : ∀ x∈z,∀ h:AH,ACalls Tryz.prog 156 [.agg (zonC x)] h fun y h'=>h'=h∧y=.ret (iv (ZhT x)):=fun x hx h=>zone_b (hok.2.1 x hx).1 (hok.2.1 x hx).2
 have p3 : ∀ x∈l,∀ h:AH,ACalls Tryz.prog 158 [.agg (lnkC x)] h fun y h'=>h'=h∧y=.ret (iv (Zii x)):=fun x hx h=>link_b (hok.2.2 x hx).1 (hok.2.2 x hx).2
 refine tI' k90 fun N hn _ _ hbd=>?_
 simp only[tb'] at hbd ⊢
 refine wr'<|E' (ZaR cv rfl hl0 ha0) pt<|ms<|Zac<|wr'<|Vw (Zag lk gx ZrO rfl)<|Zad mp (many_b) pt<|sn'<|?_
 refine Zav lk (fun hc1=>?_) (fun hc1=>?_)
 ·refine wo<|Zah<|Zae rz<|rT'<|?_
  refine ivx ?_;unfold Zc6;simp_all
 refine za<|wr'<|fq<|Vw (Zaa lk gx gt0)<|Zad mp (Zq6 p1) pt<|ms<|Zac<|wm<|?_
 refine Vw (Za7 lk lki)<|sn'<|?_
 refine cd' lk (fun hc2=>?_) (fun hc2=>?_)
 ·refine Zap<|fq<|Vw (Zaa lk gx gt1)<|Zad mp (Zq5 p2) pt<|ms<|Zac<|wm<|Vw (Za7 lk lki)<|sn'<|?_
  refine cd' lk (fun hc3=>?_) (fun hc3=>?_)
  ·refine Zap<|fq<|Vw (Zaa lk gx gt2)<|Zad mp (ZjR p3) pt<|ms<|wm<|mr<|?_
   refine Zae rz<|rT'<|?_
   refine ivx ?_;unfold Zc6;simp_all
  refine za<|wm<|mr<|Zae rz<|rT'<|?_
  refine ivx ?_;unfold Zc6;simp_all
 refine za<|Zac<|wm<|Vw (Za7 lk lki)<|sn'<|?_
 refine cd' lk (fun hc3=>?_) (fun hc3=>?_)
 ·refine Zap<|fq<|Vw (Zaa lk gx gt2)<|Zad mp (ZjR p3) pt<|ms<|wm<|mr<|?_
  refine Zae rz<|rT'<|?_
  refine ivx ?_;unfold Zc6;simp_all
 refine za<|wm<|mr<|Zae rz<|rT'<|?_
 refine ivx ?_;unfold Zc6;simp_all
end
section
open Go.Ab Civ
abbrev Trn:=Int×Rul
abbrev Tim:=Int×Int×ByteArray
abbrev trnC (t:Trn):List AV:=iv t.1::rulC t.2
abbrev timC (t:Tim):List AV:=[iv t.1,iv t.2.1,sv t.2.2]
theorem Zlz {n:Nat}(l:List Trn):AV.ltL n (rows trnC l)=true:=ZcB (fun n x=>by simp[AV.ltL,AV.lt]) l
theorem ZdH {n:Nat}(l:List Tim):AV.ltL n (rows timC l)=true:=ZcB (fun n x=>by simp[AV.ltL,AV.lt]) l
theorem ZaD : ∀ x,(trnC x).length=12:=fun _=>rfl
theorem Zdl : ∀ x,(timC x).length=3:=fun _=>rfl
theorem ZsQ (l:List Trn):(rows trnC l).length=l.length*12:=Zbk ZaD l
theorem Zda (l:List Tim):(rows timC l).length=l.length*3:=Zbk Zdl l
instance decTim:DecidableEq Tim:=inferInstance
abbrev rFr (r:Rul):Int:=r.2.1
abbrev rTo (r:Rul):Int:=r.2.2.1
abbrev rDy (r:Rul) (y:Int):Int:=Zdb y r.2.2.2.1 r.2.2.2.2.1.1 r.2.2.2.2.1.2.1 r.2.2.2.2.1.2.2
abbrev rAt (r:Rul):Int:=r.2.2.2.2.2.1
abbrev rCk (r:Rul):Int:=r.2.2.2.2.2.2.1
abbrev rSv (r:Rul):Int:=r.2.2.2.2.2.2.2.1
abbrev rLt (r:Rul):ByteArray:=r.2.2.2.2.2.2.2.2
def Zdi (r:Rul) (y:Int):Int:=rDy r y*86400+rAt r
def ZbI (a b:Int):List Int:=(List.range (b+1-a).toNat).map fun (k:Nat)=>a+(k:Int)
def ZcK (r:Rul):List Trn:=(ZbI (rFr r) (rTo r)).map fun y=>(Zdi r y,r)
def Za9 (l:List Rul) (nm:ByteArray):List Trn:=l.flatMap fun r=>if r.1=nm then ZcK r else []
def offV (r:Rul) (sh sa:Int):Int:=if rCk r=1 then sh+sa else if rCk r=2 then sh else 0
def timV (sh sa:Int) (t:Trn):Tim:=(t.1-offV t.2 sh sa,rSv t.2,rLt t.2)
def outV (sh:Int):Int→List Trn→List Tim
 | _,[]=>[]
 | sa,t::l=>timV sh sa t::outV sh (rSv t.2) l
def gapB:List Trn→Bool
 | a::b::l=>decide (b.1-a.1<172800)||gapB (b::l)
 | _=>false
def srtT (l:List Trn):List Trn:=l.mergeSort fun a b=>decide (a.1≤b.1)
def Zdj (l:List Rul) (nm:ByteArray) (sh:Int):Int :=
 if 40<l.length then 2 else if Zbc Zbo l≠0 then Zbc Zbo l else if sh < -64800∨sh>64800 then 3
 else if l.any (fun r=>decide (r.1=nm))=false then 5 else 0
def Za0 (l:List Rul) (nm:ByteArray) (sh:Int):List Tim×Int :=
 if Zdj l nm sh≠0 then ([],Zdj l nm sh)
 else if gapB (srtT (Za9 l nm))=true then ([],4)
 else if 1000<(Za9 l nm).length then ([],2) else (outV sh 0 (srtT (Za9 l nm)),0)
theorem ZkE (l:List Trn):(srtT l).Perm l:=List.mergeSort_perm l _
theorem ZqF (l:List Trn):(srtT l).Pairwise fun a b=>a.1≤b.1:=by
 have h:=List.pairwise_mergeSort (le:=fun a b:Trn=>decide (a.1≤b.1)) (fun a b c h1 h2=>by simp at *;omega) (fun a b=>by simp;omega) l
 exact h.imp fun h=>by simpa using h
theorem srt_len (l:List Trn):(srtT l).length=l.length:=List.length_mergeSort l
theorem Zgg {a b:Trn}{l:List Trn}:gapB (a::b::l)=(decide (b.1-a.1<172800)||gapB (b::l)):=rfl
theorem ZqW {l m:List Trn}(hp:l.Perm m) (h1:l.Pairwise fun a b=>a.1≤b.1) (h2:m.Pairwise fun a b=>a.1≤b.1):l.map (·.1)=m.map (·.1):=by
 refine List.Perm.eq_of_pairwise (le:=fun a b:Int=>a≤b) (fun a b _ _ h1 h2=>by omega) ?_ ?_ (hp.map _)
 ·exact List.pairwise_map.2 h1
 ·exact List.pairwise_map.2 h2
def gapI:List Int→Bool
 | a::b::l=>decide (b-a<172800)||gapI (b::l)
 | _=>false
theorem Zk3 : ∀ l:List Trn,gapB l=gapI (l.map (·.1))
 | []=>rfl
 | [_]=>rfl
 | a::b::l=>by rw[Zgg,Zk3 (b::l)];rfl
theorem ZgV : ∀ {l:List Trn},gapB l=false→l.Pairwise (fun a b=>a.1≤b.1)→l.Pairwise fun a b=>a.1<b.1
 | [],_,_=>.nil
 | [a],_,_=>by simp
 | a::b::l,h,hp=>by
  rw[Zgg,Bool.or_eq_false_iff] at h
  have h1:¬b.1-a.1<172800:=by simpa using h.1
  rw[List.pairwise_cons] at hp
  have ih:=ZgV h.2 hp.2
  refine List.pairwise_cons.2 ⟨fun x hx=>?_,ih⟩
  rcases List.mem_cons.1 hx with rfl | hx
  ·omega
  ·have:=(List.pairwise_cons.1 hp.2).1 x hx;omega
theorem gap_uniq {l m:List Trn}(hp:l.Perm m) (h1:l.Pairwise fun a b=>a.1≤b.1) (h2:m.Pairwise fun a b=>a.1≤b.1):gapB l=gapB m∧(gapB l=false→l=m):=by
 have e:gapB l=gapB m:=by rw[Zk3,Zk3,ZqW hp h1 h2]
 refine⟨e,fun h=>?_⟩
 exact List.Perm.eq_of_pairwise (le:=fun a b:Trn=>a.1<b.1) (fun a b _ _ h1 h2=>by omega) (ZgV h h1) (ZgV (e ▸ h) h2) hp
theorem ZhO : ∀ l:List Trn,gapB l=false ↔ ∀ i (h:i+1<l.length),172800≤l[i+1].1-l[i].1
 | []=>by simp[gapB]
 | [_]=>by simp[gapB]
 | a::b::l=>by
  rw[Zgg,Bool.or_eq_false_iff,ZhO (b::l)]
  constructor
  ·rintro⟨h1,h2⟩ i hi
   cases i with
   | zero=>simp at h1 ⊢;omega
   | succ i=>exact h2 i (by simpa using hi)
  ·intro h
   refine⟨?_,fun i hi=>h (i+1) (by simpa using hi)⟩
   have:=h 0 (by simp)
   simp at this ⊢;omega
theorem Zmk {l:List Trn}{i:Nat}(h:i+1<l.length) (hg:l[i+1].1-l[i].1<172800):gapB l=true:=by
 by_cases e:gapB l=true
 ·exact e
 ·have:=(ZhO l).1 (by simpa using e) i h;omega
def svAt (l:List Trn) (i:Nat):Int:=match i with
 | 0=>0
 | i+1=>match l[i]? with
  | some t=>rSv t.2
  | none=>0
theorem Zf1 {l:List Trn}{i:Nat}(h:i<l.length):svAt l (i+1)=rSv l[i].2:=by
 show (match l[i]? with | some t=>rSv t.2 | none=>0)=_
 rw[List.getElem?_eq_getElem h]
def lastS:Int→List Trn→Int
 | sa,[]=>sa
 | _,t::l=>lastS (rSv t.2) l
theorem ZjN : ∀ (l:List Trn) (t:Trn) (sa:Int),lastS sa (l++[t])=rSv t.2
 | [],t,sa=>rfl
 | u::l,t,sa=>ZjN l t (rSv u.2)
theorem Zpz : ∀ (l m:List Trn) (sh sa:Int),outV sh sa (l++m)=outV sh sa l++outV sh (lastS sa l) m
 | [],m,sh,sa=>rfl
 | t::l,m,sh,sa=>by rw[List.cons_append,outV,Zpz l m,outV,List.cons_append];rfl
theorem ZcZ {l:List Trn}{i:Nat}(h:i<l.length) (sh:Int):outV sh 0 (l.take (i+1))=outV sh 0 (l.take i)++[timV sh (svAt l i) l[i]]:=by
 rw[List.take_succ_eq_append_getElem h,Zpz]
 congr 1
 rw[outV,outV]
 cases i with
 | zero=>rfl
 | succ i=>rw[Zf1 om,List.take_succ_eq_append_getElem (i:=i) om,ZjN]
theorem ZdM : ∀ (l:List Trn) (sh sa:Int),(outV sh sa l).length=l.length
 | [],_,_=>rfl
 | t::l,sh,sa=>by rw[outV,List.length_cons,ZdM l,List.length_cons]
theorem ZbA {r:Rul}(h:Zbo r=0):1900≤rFr r∧rFr r≤rTo r∧rTo r≤2100∧(1≤r.2.2.2.1∧r.2.2.2.1≤12)∧ZbN 2001 r.2.2.2.1 r.2.2.2.2.1.1 r.2.2.2.2.1.2.1 r.2.2.2.2.1.2.2=0∧(0≤rAt r∧rAt r≤172800)∧clkB (rCk r) true=true∧(0≤rSv r∧rSv r≤10800):=by
 unfold Zbo at h
 split at h
 ·omega
 split at h
 ·omega
 rename_i h2
 split at h
 ·rename_i h3;exact absurd h h3
 rename_i h3
 split at h
 ·omega
 rename_i h4
 split at h
 ·omega
 rename_i h5
 split at h
 ·omega
 rename_i h6
 have w1:wi r.2.2.2.1 1 12=true:=Decidable.of_not_not fun e=>h2 (.inr (.inr (.inr e)))
 refine⟨show 1900≤r.2.1 by omega,show r.2.1≤r.2.2.1 by omega,show r.2.2.1≤2100 by omega,Zbt.1 w1,?_,Zbt.1 (Decidable.of_not_not h4),Decidable.of_not_not h5,Zbt.1 (Decidable.of_not_not h6)⟩
 by_cases e:ZbN 2001 r.2.2.2.1 r.2.2.2.2.1.1 r.2.2.2.2.1.2.1 r.2.2.2.2.1.2.2=0
 ·exact e
 ·exact absurd (Decidable.of_not_not h3) (by rw[ZjG rfl e];exact e)
theorem Zuc (m y:Int):mlen 2001 m≤mlen y m:=by
 have:=ZnH y
 have e:lp 2001=0:=by decide
 unfold mlen;rw[e];split <;> (try split) <;> (try split) <;> (try split) <;> (try split) <;> omega
theorem ZuA {m k w n y:Int}(h:ZbN 2001 m k w n=0) (hy:1≤y∧y≤9999):ZbN y m k w n=0:=by
 obtain⟨_,h2,h3,h4,h5,h6,h7⟩:=Zk4 h
 have:=Zuc m y
 unfold ZbN
 repeat' split
 all_goals omega
theorem onDay_bd {m k w n y:Int}(h:ZbN y m k w n=0) (hy:1900≤y∧y≤2100) : -30000≤Zdb y m k w n∧Zdb y m k w n≤50000:=by
 obtain⟨h1,h2,h3,h4,h5,h6,h7⟩:=Zk4 h
 have hm:=Zdc y m
 have a:=Zey (a:=1900) (b:=y) hy.1
 have b:=Zey (a:=y) (b:=2100) hy.2
 have c:=Zmw (y:=y) (m:=m) h2.1 om
 have e1:bef 1900=693595:=by decide
 have e2:bef 2100=766644:=by decide
 unfold Zdb fwd bwd num
 repeat' split
 all_goals omega
theorem Zh9 {r:Rul}(h:Zbo r=0) {y:Int}(hy:1900≤y∧y≤2100):onV y r.2.2.2.1 r.2.2.2.2.1.1 r.2.2.2.2.1.2.1 r.2.2.2.2.1.2.2=(Zbg (rDy r y),0) ∧ -30000≤rDy r y∧rDy r y≤50000:=by
 obtain⟨_,_,_,_,h5,_⟩:=ZbA h
 have hf:=ZuA (y:=y) h5 om
 have hb:=onDay_bd hf hy
 exact⟨by rw[Zia hf rfl,if_pos om],hb⟩
theorem ZsP {r:Rul}(h:Zbo r=0) {y:Int}(hy:1900≤y∧y≤2100) : -2592000000≤Zdi r y∧Zdi r y≤4320172800:=by
 have:=(Zh9 h hy).2
 obtain⟨_,_,_,_,_,h6,_⟩:=ZbA h
 unfold Zdi;omega
theorem Zcw {α:Type}{p:α→Int} : ∀ {l:List α},Zbc p l=0 → ∀ x∈l,p x=0
 | [],_,x,hx=>by cases hx
 | a::l,h,x,hx=>by
  rw[Zbc] at h
  split at h
  ·rename_i h1;exact absurd h h1
  ·rename_i h1
   rcases List.mem_cons.1 hx with rfl | hx
   ·exact Decidable.of_not_not h1
   ·exact Zcw h x hx
theorem Zf9 {l:List Rul}{nm:ByteArray}{sh:Int}(h:Zdj l nm sh=0):l.length≤40∧(∀ r∈l,Zbo r=0)∧(-64800≤sh∧sh≤64800) ∧ ∃ r∈l,r.1=nm:=by
 unfold Zdj at h
 split at h
 ·omega
 split at h
 ·rename_i h1;exact absurd h h1
 rename_i h1
 split at h
 ·omega
 split at h
 ·omega
 rename_i h2
 refine⟨by omega,Zcw (Decidable.of_not_not h1),by omega,?_⟩
 have h3:l.any (fun r=>decide (r.1=nm))=true:=by simpa using h2
 simpa using h3
theorem ZeS {a b y:Int}:y∈ZbI a b↔a≤y∧y≤b:=by
 unfold ZbI
 simp only[List.mem_map,List.mem_range]
 constructor
 ·rintro⟨k,hk,rfl⟩;omega
 ·intro h;exact⟨(y-a).toNat,by omega,by omega⟩
theorem ZcA (a b:Int):(ZbI a b).length=(b+1-a).toNat:=by simp[ZbI]
theorem Zug {l:List Rul}{nm:ByteArray}{t:Trn}:t∈Za9 l nm↔t.2∈l∧t.2.1=nm ∧ ∃ y,(rFr t.2≤y∧y≤rTo t.2)∧t.1=Zdi t.2 y:=by
 unfold Za9
 rw[List.mem_flatMap]
 constructor
 ·rintro⟨r,hr,h⟩
  split at h
  ·rename_i hn
   obtain⟨y,hy,rfl⟩:=List.mem_map.1 h
   exact⟨hr,hn,y,ZeS.1 hy,rfl⟩
  ·cases h
 ·rintro⟨hr,hn,y,hy,e⟩
  refine⟨t.2,hr,?_⟩
  rw[if_pos hn]
  exact List.mem_map.2 ⟨y,ZeS.2 hy,by rw[←e]⟩
theorem ZhF {l:List Rul}{nm:ByteArray}(h : ∀ r∈l,Zbo r=0) {t:Trn}(ht:t∈Za9 l nm):Zbo t.2=0 ∧ -2592000000≤t.1∧t.1≤4320172800:=by
 obtain⟨h1,h2,y,hy,e⟩:=Zug.1 ht
 have h3:=h _ h1
 obtain⟨q1,q2,q3,_⟩:=ZbA h3
 rw[e]
 exact⟨h3,ZsP h3 om⟩
theorem ZgF {r:Rul}(h:Zbo r=0):(ZcK r).length≤201∧((ZcK r).length:Int)=rTo r-rFr r+1:=by
 obtain⟨h1,h2,h3,_⟩:=ZbA h
 unfold ZcK
 rw[List.length_map,ZcA];omega
theorem ZfY : ∀ {l:List Rul}{nm:ByteArray},(∀ r∈l,Zbo r=0)→(Za9 l nm).length≤201*l.length
 | [],nm,_=>by simp[Za9]
 | r::l,nm,h=>by
  have ih:=ZfY (l:=l) (nm:=nm) fun x hx=>h x (by simp[hx])
  have h1:=ZgF (h r (by simp))
  unfold Za9 at ih ⊢
  rw[List.flatMap_cons,List.length_append,List.length_cons]
  split
  ·omega
  ·rw[List.length_nil];omega
theorem Zjt {l:List Rul}{k:Nat}(hk:k<l.length) (nm:ByteArray):Za9 (l.take (k+1)) nm=Za9 (l.take k) nm++(if l[k].1=nm then ZcK l[k] else []):=by
 unfold Za9
 rw[List.take_succ_eq_append_getElem hk,List.flatMap_append,List.flatMap_cons,List.flatMap_nil,List.append_nil]
theorem Zlu {a b c:Int}(h1:a≤b+1) (h2:b≤c):ZbI a c=ZbI a b++ZbI (b+1) c:=by
 refine List.ext_getElem (by rw[List.length_append,ZcA,ZcA,ZcA];omega) fun i h3 h4=>?_
 rw[List.getElem_append]
 rw[ZcA] at h3
 split
 ·simp[ZbI]
 ·rename_i h5
  rw[ZcA] at h5
  simp only[ZbI,List.getElem_map,List.getElem_range]
  have:(List.map (fun (k:Nat)=>a+(k:Int)) (List.range (b+1-a).toNat)).length=(b+1-a).toNat:=by simp
  rw[this]
  omega
theorem Zs6 {l:List Trn}{i:Nat}(h : ∀ t∈l,Zbo t.2=0):0≤svAt l i∧svAt l i≤10800:=by
 cases i with
 | zero=>simp[svAt]
 | succ i =>
  show 0≤(match l[i]? with | some t=>rSv t.2 | none=>0)∧(match l[i]? with | some t=>rSv t.2 | none=>0)≤10800
  cases e:l[i]? with
  | none=>exact⟨by simp,by simp⟩
  | some t =>
   obtain⟨_,_,_,_,_,_,_,h8⟩:=ZbA (h t (List.mem_of_getElem? e))
   exact h8
theorem Zt7 {r:Rul}{sh sa:Int}(h : -64800≤sh∧sh≤64800) (h2:0≤sa∧sa≤10800) : -64800≤offV r sh sa∧offV r sh sa≤75600:=by
 unfold offV;split
 ·omega
 split <;> omega
def yrT (l:List Rul) (nm:ByteArray) (y:Int):List Trn:=l.flatMap fun r=>if r.1=nm∧wi y (rFr r) (rTo r)=true then [(Zdi r y,r)] else []
theorem ZeE {α β:Type}(f g:α→List β) : ∀ l:List α,(l.flatMap fun x=>f x++g x).Perm (l.flatMap f++l.flatMap g)
 | []=>.nil
 | x::l=>by
  rw[List.flatMap_cons,List.flatMap_cons,List.flatMap_cons]
  have ih:=ZeE f g l
  rw[List.append_assoc,List.append_assoc]
  refine List.Perm.append_left _ ?_
  refine (List.Perm.append_left _ ih).trans ?_
  rw[←List.append_assoc,←List.append_assoc]
  exact List.Perm.append_right _ List.perm_append_comm
theorem Zqy {a b:Int}(h1:1900≤a) (h2:a≤b) (h3:b≤2100) (f:Int→Trn):((ZbI 1900 2100).flatMap fun y=>if wi y a b=true then [f y] else [])=(ZbI a b).map f:=by
 have none : ∀ l:List Int,(∀ y∈l,¬(a≤y∧y≤b))→(l.flatMap fun y=>if wi y a b=true then [f y] else [])=[]:=by
  intro l hl
  rw[List.flatMap_eq_nil_iff]
  intro y hy
  rw[if_neg (by rw[Zbt];exact hl y hy)]
 have some : ∀ l:List Int,(∀ y∈l,a≤y∧y≤b)→(l.flatMap fun y=>if wi y a b=true then [f y] else [])=l.map f:=by
  intro l
  induction l with
  | nil=>intro _;rfl
  | cons y l ih =>
   intro hl
   rw[List.flatMap_cons,ih fun z hz=>hl z (by simp[hz]),if_pos (Zbt.2 (hl y (by simp)))];rfl
 rw[Zlu (a:=1900) (b:=b) (c:=2100) om h3,List.flatMap_append,none (ZbI (b+1) 2100) (fun y hy=>by have:=ZeS.1 hy;omega),List.append_nil]
 rw[show ZbI 1900 b=ZbI 1900 (a-1)++ZbI a b by have:=Zlu (a:=1900) (b:=a-1) (c:=b) om om;rwa [show a-1+1=a by omega] at this]
 rw[List.flatMap_append,none (ZbI 1900 (a-1)) (fun y hy=>by have:=ZeS.1 hy;omega),List.nil_append,some (ZbI a b) (fun y hy=>ZeS.1 hy)]
theorem Zo1 : ∀ {l:List Rul}{nm:ByteArray},(∀ r∈l,Zbo r=0)→((ZbI 1900 2100).flatMap (yrT l nm)).Perm (Za9 l nm)
 | [],nm,_=>by
  have:(ZbI 1900 2100).flatMap (yrT [] nm)=[]:=by rw[List.flatMap_eq_nil_iff];intro y _;rfl
  rw[this];exact .nil
 | r::l,nm,h=>by
  obtain⟨q1,q2,q3,_⟩:=ZbA (h r (by simp))
  have ih:=Zo1 (l:=l) (nm:=nm) fun x hx=>h x (by simp[hx])
  have e:(ZbI 1900 2100).flatMap (yrT (r::l) nm)=(ZbI 1900 2100).flatMap fun y=>(if r.1=nm∧wi y (rFr r) (rTo r)=true then [(Zdi r y,r)] else [])++yrT l nm y:=rfl
  rw[e]
  refine (ZeE _ _ _).trans ?_
  have e2:Za9 (r::l) nm=(if r.1=nm then ZcK r else [])++Za9 l nm:=rfl
  rw[e2]
  refine List.Perm.append ?_ ih
  by_cases hn:r.1=nm
  ·simp only[hn,true_and,if_true]
   rw[Zqy q1 q2 q3];exact List.Perm.refl _
  ·simp only[hn,false_and,if_false]
   rw[show ((ZbI 1900 2100).flatMap fun _=>([]:List Trn))=[] by rw[List.flatMap_eq_nil_iff];intros;rfl]
theorem Zky {l:List Rul}{nm:ByteArray}{sh:Int}(hr:Zdj l nm sh=0) {S:List Trn}(hp:S.Perm (Za9 l nm)) (hs:S.Pairwise fun a b=>a.1≤b.1) :
  Za0 l nm sh=if gapB S=true then ([],4) else if 1000<S.length then ([],2) else (outV sh 0 S,0):=by
 obtain⟨g1,g2⟩:=gap_uniq (hp.trans (ZkE _).symm) hs (ZqF _)
 unfold Za0
 rw[if_neg (by simp[hr]),←g1,←hp.length_eq]
 by_cases e:gapB S=true
 ·rw[if_pos e,if_pos e]
 ·rw[if_neg e,if_neg e,g2 (by simpa using e)]
theorem ZdU {l:List Rul}{nm:ByteArray}{sh:Int}(hr:Zdj l nm sh≠0):Za0 l nm sh=([],Zdj l nm sh):=if_pos hr
end
section
def Zdd (F:Loc):List Chg→Int→Loc
 | [],_=>F
 | c::cs,a=>if c.1≤a then Zdd c.2 cs a else F
def nrm (a:Int) (F:Loc):List Chg→Prop
 | []=>True
 | c::cs=>a<c.1∧c.2≠F∧nrm c.1 c.2 cs
theorem ZpE {M:Int} : ∀ (C C':List Chg) (a:Int) (F:Loc),nrm a F C→nrm a F C'→(∀ c∈C,c.1≤M)→(∀ c∈C',c.1≤M)→(∀ x,a≤x→x≤M→Zdd F C x=Zdd F C' x)→C=C'
 | [],[],_,_,_,_,_,_,_=>rfl
 | [],c::cs,a,F,_,h2,_,m2,h=>by
  have:=h c.1 (by have:=h2.1;omega) (m2 c (by simp))
  rw[Zdd,Zdd,if_pos (Int.le_refl _)] at this
  have e:Zdd c.2 cs c.1=c.2:=by
   cases cs with
   | nil=>rfl
   | cons d ds=>rw[Zdd,if_neg (by have:=h2.2.2.1;omega)]
  rw[e] at this
  exact absurd this.symm h2.2.1
 | c::cs,[],a,F,h1,_,m1,_,h=>by
  have:=h c.1 (by have:=h1.1;omega) (m1 c (by simp))
  rw[Zdd,Zdd,if_pos (Int.le_refl _)] at this
  have e:Zdd c.2 cs c.1=c.2:=by
   cases cs with
   | nil=>rfl
   | cons d ds=>rw[Zdd,if_neg (by have:=h1.2.2.1;omega)]
  rw[e] at this
  exact absurd this h1.2.1
 | c::cs,d::ds,a,F,h1,h2,m1,m2,h=>by
  have self : ∀ (c:Chg) (cs:List Chg),nrm c.1 c.2 cs→Zdd c.2 cs c.1=c.2:=by
   intro c cs hn
   cases cs with
   | nil=>rfl
   | cons d ds=>rw[Zdd,if_neg (by have:=hn.1;omega)]
  have hc:=h c.1 (by have:=h1.1;omega) (m1 c (by simp))
  have hd:=h d.1 (by have:=h2.1;omega) (m2 d (by simp))
  rw[Zdd,Zdd,if_pos (Int.le_refl _),self c cs h1.2.2] at hc
  rw[Zdd,Zdd,if_pos (Int.le_refl _),self d ds h2.2.2] at hd
  have e1:c.1=d.1:=by
   rcases Int.lt_trichotomy c.1 d.1 with e | e | e
   ·rw[if_neg om] at hc;exact absurd hc h1.2.1
   ·exact e
   ·rw[if_neg om] at hd;exact absurd hd.symm h2.2.1
  rw[if_pos om,e1,self d ds h2.2.2] at hc
  have e2:c=d:=Prod.ext e1 hc
  subst e2
  refine congrArg _ (ZpE cs ds c.1 c.2 h1.2.2 h2.2.2 (fun x hx=>m1 x (by simp[hx])) (fun x hx=>m2 x (by simp[hx])) fun x hx hM=>?_)
  have:=h x (by have:=h1.1;omega) hM
  rwa [Zdd,Zdd,if_pos hx,if_pos hx] at this
def dd (F:Loc):List Chg→List Chg
 | []=>[]
 | c::cs=>if c.2=F then dd F cs else c::dd c.2 cs
def pts (g:Int→Loc) (L:List Int):List Chg:=L.map fun a=>(a,g a)
theorem Zmv : ∀ {l:List Chg}{F:Loc}{c:Chg},c∈dd F l→c∈l
 | [],_,_,h=>by cases h
 | d::l,F,c,h=>by
  rw[dd] at h
  split at h
  ·exact List.mem_cons_of_mem _ (Zmv h)
  ·rcases List.mem_cons.1 h with rfl | h
   ·exact List.mem_cons_self
   ·exact List.mem_cons_of_mem _ (Zmv h)
theorem Zqi : ∀ (l:List Chg) (F:Loc),(dd F l).length≤l.length
 | [],_=>Nat.le_refl _
 | d::l,F=>by
  rw[dd]
  split
  ·have:=Zqi l F;simp only[List.length_cons];omega
  ·have:=Zqi l d.2;simp only[List.length_cons];omega
theorem Zqj : ∀ (l m:List Chg) (F:Loc),dd F (l++m)=dd F l++dd ((dd F l).getLast?.elim F (·.2)) m
 | [],m,F=>rfl
 | c::l,m,F=>by
  rw[List.cons_append,dd,dd]
  split
  ·exact Zqj l m F
  ·rw[Zqj l m c.2,List.cons_append,List.getLast?_cons]
   cases (dd c.2 l).getLast? <;> rfl
theorem ZuV {g:Int→Loc} : ∀ {L:List Int}{a:Int},L.Pairwise (· ≤ ·)→(∀ x∈L,a≤x)→nrm a (g a) (dd (g a) (pts g L))
 | [],_,_,_=>trivial
 | p::L,a,hs,ha=>by
  have h1:=ha p (by simp)
  show nrm a (g a) (if g p=g a then dd (g a) (pts g L) else (p,g p)::dd (g p) (pts g L))
  rw[List.pairwise_cons] at hs
  split
  ·exact ZuV hs.2 fun x hx=>ha x (by simp[hx])
  ·rename_i hne
   exact⟨by have:a≠p:=fun e=>hne (by rw[e]);show a<p;omega,hne,ZuV hs.2 hs.1⟩
theorem Zul {F:Loc}{l:List Chg}{x:Int}(h : ∀ c∈l,x<c.1):Zdd F l x=F:=by
 cases l with
 | nil=>rfl
 | cons c l=>rw[Zdd,if_neg (by have:=h c (by simp);omega)]
theorem ZnE {g:Int→Loc}{L:List Int}{c:Chg}:c∈pts g L↔c.1∈L∧c.2=g c.1:=by
 unfold pts
 rw[List.mem_map]
 constructor
 ·rintro⟨a,ha,rfl⟩;exact⟨ha,rfl⟩
 ·rintro⟨h1,h2⟩;exact⟨c.1,h1,by rw[←h2]⟩
def still (g:Int→Loc) (L:List Int) (a M:Int):Prop := ∀ u v,a≤u→u≤v→v≤M→(∀ p∈L,¬(u<p∧p≤v))→g u=g v
theorem Zn5 {g:Int→Loc}{M:Int} : ∀ {L:List Int}{a:Int},L.Pairwise (· ≤ ·)→(∀ x∈L,a≤x)→still g L a M → ∀ x,a≤x→x≤M→Zdd (g a) (dd (g a) (pts g L)) x=g x
 | [],a,_,_,hc,x,h1,h2=>hc a x (Int.le_refl _) h1 h2 (by simp)
 | p::L,a,hs,ha,hc,x,h1,h2=>by
  have hp:=ha p (by simp)
  rw[List.pairwise_cons] at hs
  have hc':still g L p M:=fun u v q1 q2 q3 q4=>hc u v om q2 q3 (fun z hz=>by
   rcases List.mem_cons.1 hz with rfl | hz
   ·omega
   ·exact q4 z hz)
  show Zdd (g a) (if g p=g a then dd (g a) (pts g L) else (p,g p)::dd (g p) (pts g L)) x=g x
  have low:x<p→g a=g x:=fun hx=>hc a x (Int.le_refl _) h1 h2 fun z hz=>by
   rcases List.mem_cons.1 hz with rfl | hz
   ·omega
   ·have:=hs.1 z hz;omega
  split
  ·rename_i e
   by_cases hx:p≤x
   ·have:=Zn5 hs.2 hs.1 hc' x hx h2
    rwa [e] at this
   ·rw[Zul fun c hc=>?_]
    ·exact low om
    ·have:=hs.1 _ (ZnE.1 (Zmv hc)).1;omega
  ·rw[Zdd]
   split
   ·rename_i hx;exact Zn5 hs.2 hs.1 hc' x hx h2
   ·rename_i hx;exact low (by have:¬p≤x:=hx;omega)
abbrev tMin:Int := -62135596800
abbrev tMax:Int:=253402300799
def inT (x:Int):Bool:=decide (tMin<x∧x≤tMax)
def ZeK (g:Int→Loc) (L:List Int):Tab:=(g tMin,dd (g tMin) (pts g (L.filter inT)))
theorem ZlF {g:Int→Loc}{L:List Int}(h:still g L tMin tMax):still g (L.filter inT) tMin tMax:=fun u v h1 h2 h3 h4=>h u v h1 h2 h3 fun p hp hpp=>h4 p (List.mem_filter.2 ⟨hp,by unfold inT;simp only[tMin,tMax] at *;simp;omega⟩) hpp
theorem Zmo {L:List Int} : ∀ x∈L.filter inT,tMin≤x:=fun x hx=>by
 have:=(List.mem_filter.1 hx).2;unfold inT at this;simp only[tMin,decide_eq_true_eq] at *;omega
theorem Zjv {g:Int→Loc}{L:List Int}(hs:L.Pairwise (· ≤ ·)) (h:still g L tMin tMax) {x:Int}(h1:tMin≤x) (h2:x≤tMax):Zdd (ZeK g L).1 (ZeK g L).2 x=g x :=
 Zn5 (hs.filter _) Zmo (ZlF h) x h1 h2
theorem Zh1 {g:Int→Loc}{L:List Int}(hs:L.Pairwise (· ≤ ·)):nrm tMin (g tMin) (ZeK g L).2:=ZuV (hs.filter _) Zmo
theorem ZlE {g:Int→Loc}{L:List Int} : ∀ c∈(ZeK g L).2,c.1≤tMax:=fun c hc=>by
 have:=(List.mem_filter.1 (ZnE.1 (Zmv hc)).1).2
 unfold inT at this;simp only[decide_eq_true_eq] at this;exact this.2
theorem ZqE {g:Int→Loc}{L L':List Int}(hs:L.Pairwise (· ≤ ·)) (h:still g L tMin tMax) (hs':L'.Pairwise (· ≤ ·)) (h':still g L' tMin tMax):ZeK g L=ZeK g L':=by
 refine Prod.ext rfl (ZpE (M:=tMax) _ _ tMin (g tMin) (Zh1 hs) (Zh1 hs') ZlE ZlE fun x h1 h2=>?_)
 have a:=Zjv hs h h1 h2
 have b:=Zjv hs' h' h1 h2
 exact a.trans b.symm
def ZbW:List Chg→Int
 | []=>0
 | c::cs=>if locE c.2≠0 then locE c.2 else ZbW cs
theorem ZhM : ∀ {l:List Chg}{F:Loc},locE F=0→ZbW (dd F l)=ZbW l
 | [],_,_=>rfl
 | c::l,F,h=>by
  rw[dd]
  split
  ·rename_i e
   rw[ZhM h,ZbW,e,h];simp
  ·rw[ZbW,ZbW]
   split
   ·rfl
   ·rename_i h2;exact ZhM (Decidable.of_not_not h2)
def tabR (t:Tab):Tab×Int :=
 if locE t.1≠0 then ((((0,0,⟨#[]⟩):Loc),[]),locE t.1) else if ZbW t.2≠0 then (((0,0,⟨#[]⟩),[]),ZbW t.2) else if 1000<t.2.length then (((0,0,⟨#[]⟩),[]),2) else (t,0)
theorem ZpP : ∀ {l:List Chg},ZbW l=0 → ∀ c∈l,locE c.2=0
 | [],_,_,h=>by cases h
 | c::l,h,d,hd=>by
  rw[ZbW] at h
  split at h
  ·rename_i h2;exact absurd h h2
  ·rename_i h2
   rcases List.mem_cons.1 hd with rfl | hd
   ·exact Decidable.of_not_not h2
   ·exact ZpP h d hd
theorem Zvc : ∀ {C:List Chg}{a:Int}{F:Loc},nrm a F C→(∀ c∈C,locE c.2=0∧Zhv c.1=true)→chk a F C=0
 | [],_,_,_,_=>rfl
 | c::cs,a,F,h,hc=>by
  have h1:=hc c (by simp)
  rw[ZiA h1.2 h.1 h1.1 (ZpQ h.2.1)]
  exact Zvc h.2.2 fun d hd=>hc d (by simp[hd])
theorem Zs3 {t:Tab}(h:(tabR t).2=0):(tabR t).1=t∧locE t.1=0∧ZbW t.2=0∧t.2.length≤1000:=by
 unfold tabR at h ⊢
 split at h
 ·rename_i h1;exact absurd h h1
 split at h
 ·rename_i h1;exact absurd h h1
 split at h
 ·cases h
 rename_i h1 h2 h3
 rw[if_neg h1,if_neg h2,if_neg h3]
 exact⟨rfl,Decidable.of_not_not h1,Decidable.of_not_not h2,by omega⟩
theorem ZqD {g:Int→Loc}{L:List Int}(hs:L.Pairwise (· ≤ ·)) (h:(tabR (ZeK g L)).2=0):Zbd (ZeK g L)=0:=by
 obtain⟨_,h2,h3,h4⟩:=Zs3 h
 unfold Zbd
 rw[if_neg om,if_neg (by simp[h2])]
 have hn:nrm (-62135596801) (ZeK g L).1 (ZeK g L).2:=by
  have:=Zh1 (g:=g) hs
  show nrm (-62135596801) (g tMin) (ZeK g L).2
  cases hC:(ZeK g L).2 with
  | nil=>trivial
  | cons c cs=>rw[hC] at this;exact⟨by have:=this.1;simp only[tMin] at this;omega,this.2⟩
 refine Zvc hn fun c hc=>⟨ZpP h3 c hc,ZsX.2 ?_⟩
 have:=(List.mem_filter.1 (ZnE.1 (Zmv hc)).1).2
 unfold inT at this;simp only[tMin,tMax,decide_eq_true_eq] at this;omega
end
section
open Go.Ab Civ
abbrev xSh (x:Era):Int:=x.1
abbrev xRl (x:Era):ByteArray:=x.2.1
abbrev xSv (x:Era):Int:=x.2.2.1
abbrev xFm (x:Era):ByteArray:=x.2.2.2.1
abbrev xOp (x:Era):Bool:=x.2.2.2.2.1
def endV (x:Era):Int:=num x.2.2.2.2.2.1.1 x.2.2.2.2.2.1.2.1 x.2.2.2.2.2.1.2.2*86400+x.2.2.2.2.2.2.1-(if x.2.2.2.2.2.2.2=2 then xSh x else 0)
def ZaI (es:List Era):List Int:=es.dropLast.map endV
def Zfs (fm lt:ByteArray) (sa:Int):ByteArray :=
 if (cutL fm [47]).2.2=true then (if 0<sa then bA (cutL fm [47]).2.1 else bA (cutL fm [47]).1)
 else if (cutL fm [37,115]).2.2=true then bA ((cutL fm [37,115]).1++aB lt++(cutL fm [37,115]).2.1) else fm
def locV (x:Era) (sa:Int) (lt:ByteArray):Loc:=(xSh x+sa,sa,Zfs (xFm x) lt sa)
def ZaG (rl:List Rul) (x:Era):List Tim:=if xRl x=⟨#[]⟩ then [] else (Za0 rl (xRl x) (xSh x)).1
def Zcy (sa:Int) (lt:ByteArray):List Tim→Int→Int×ByteArray
 | [],_=>(sa,lt)
 | t::ts,a=>if t.1≤a then Zcy t.2.1 t.2.2 ts a else Zcy sa lt ts a
def Zft (rl:List Rul) (x:Era) (a:Int):Loc:=locV x (Zcy (xSv x) ⟨#[]⟩ (ZaG rl x) a).1 (Zcy (xSv x) ⟨#[]⟩ (ZaG rl x) a).2
def locZ:Loc:=(0,0,⟨#[]⟩)
def ZaY (rl:List Rul):List Era→Int→Loc
 | [],_=>locZ
 | [x],a=>Zft rl x a
 | x::y::es,a=>if endV x≤a then ZaY rl (y::es) a else Zft rl x a
def kAt:List Int→Int→Nat
 | [],_=>0
 | e::es,a=>if e≤a then kAt es a+1 else 0
theorem ZpW : ∀ (l:List Int) (a:Int),kAt l a≤l.length
 | [],_=>Nat.le_refl _
 | e::es,a=>by
  rw[kAt]
  split
  ·have:=ZpW es a;simp only[List.length_cons];omega
  ·exact Nat.zero_le _
theorem ZpV : ∀ {l:List Int}{a:Int}{k:Nat}(h:k<l.length),k≤kAt l a→(l[k]≤a↔k+1≤kAt l a)
 | e::es,a,0,_,_=>by
  rw[kAt]
  simp only[List.getElem_cons_zero]
  split
  ·rename_i h;exact⟨fun _=>by omega,fun _=>h⟩
  ·rename_i h;exact⟨fun h2=>absurd h2 h,fun h2=>by omega⟩
 | e::es,a,k+1,h,hk=>by
  rw[kAt] at hk ⊢
  simp only[List.getElem_cons_succ]
  split at hk
  ·rename_i h2
   rw[if_pos h2]
   have:=ZpV (l:=es) (a:=a) (k:=k) (by simpa using h) om
   rw[this];omega
  ·omega
theorem ZcW (es:List Era):(ZaI es).length=es.length-1:=by simp[ZaI]
theorem ZeV {x y:Era}{es:List Era}:ZaI (x::y::es)=endV x::ZaI (y::es):=by simp[ZaI]
theorem Zk8 {es:List Era}{k:Nat}(h:k<(ZaI es).length) (h2:k<es.length):(ZaI es)[k]=endV es[k]:=by simp[ZaI]
theorem Zne {rl:List Rul} : ∀ {es:List Era}{a:Int}(h:kAt (ZaI es) a<es.length),ZaY rl es a=Zft rl es[kAt (ZaI es) a] a
 | [],a,h=>by simp at h
 | [x],a,h=>by simp[ZaY,ZaI,kAt]
 | x::y::es,a,h=>by
  have e:kAt (ZaI (x::y::es)) a=if endV x≤a then kAt (ZaI (y::es)) a+1 else 0:=by rw[ZeV,kAt]
  rw[ZaY]
  split
  ·rename_i hx
   rw[if_pos hx] at e
   have h':kAt (ZaI (y::es)) a<(y::es).length:=by have:=ZpW (ZaI (y::es)) a;rw[ZcW] at this;simp at this ⊢;omega
   rw[Zne h']
   simp only[e,List.getElem_cons_succ]
  ·rename_i hx
   rw[if_neg hx] at e
   simp only[e,List.getElem_cons_zero]
theorem kAt_lt {es:List Era}(h:es≠[]) (a:Int):kAt (ZaI es) a<es.length:=by
 have:=ZpW (ZaI es) a
 rw[ZcW] at this
 have:=List.length_pos_iff.2 h
 omega
theorem Zd2 : ∀ (l:List Tim) (t:Tim) (sa:Int) (lt:ByteArray) (a:Int),Zcy sa lt (l++[t]) a=if t.1≤a then (t.2.1,t.2.2) else Zcy sa lt l a
 | [],t,sa,lt,a=>rfl
 | u::l,t,sa,lt,a=>by
  rw[List.cons_append,Zcy,Zcy]
  split
  ·exact Zd2 l t _ _ a
  ·exact Zd2 l t _ _ a
theorem Zh8 : ∀ (l:List Tim) (sa:Int) (lt:ByteArray) (u v:Int),u≤v→(∀ t∈l,¬(u<t.1∧t.1≤v))→Zcy sa lt l u=Zcy sa lt l v
 | [],_,_,_,_,_,_=>rfl
 | t::l,sa,lt,u,v,h,hl=>by
  have ih:=fun sa lt=>Zh8 l sa lt u v h fun x hx=>hl x (by simp[hx])
  have:=hl t (by simp)
  rw[Zcy,Zcy]
  split
  ·rw[if_pos om];exact ih _ _
  ·rw[if_neg om];exact ih _ _
theorem ZjF : ∀ (l:List Tim) (sa:Int) (lt:ByteArray) (a:Int),(∀ t∈l,a<t.1)→Zcy sa lt l a=(sa,lt)
 | [],_,_,_,_=>rfl
 | t::l,sa,lt,a,h=>by
  rw[Zcy,if_neg (by have:=h t (by simp);omega)]
  exact ZjF l sa lt a fun x hx=>h x (by simp[hx])
theorem Zpq : ∀ {l:List Tim}{t:Tim}(sa:Int) (lt:ByteArray),l.Pairwise (fun a b=>a.1<b.1)→t∈l→Zcy sa lt l t.1=(t.2.1,t.2.2)
 | u::l,t,sa,lt,hp,ht=>by
  rw[List.pairwise_cons] at hp
  rw[Zcy]
  rcases List.mem_cons.1 ht with rfl | ht
  ·rw[if_pos (Int.le_refl _)];exact ZjF l _ _ _ hp.1
  ·rw[if_pos (by have:=hp.1 t ht;omega)];exact Zpq _ _ hp.2 ht
def eraG (x:Era) (b:Int) (ts:List Tim):List Chg :=
 (b,locV x (Zcy (xSv x) ⟨#[]⟩ ts b).1 (Zcy (xSv x) ⟨#[]⟩ ts b).2)::(ts.filter fun t=>decide (b<t.1)).map fun t=>(t.1,locV x t.2.1 t.2.2)
theorem eraG_low {x:Era}{b:Int}{ts:List Tim}{t:Tim}(h:t.1≤b):eraG x b (ts++[t])=(b,locV x t.2.1 t.2.2)::(eraG x b ts).tail:=by
 unfold eraG
 rw[Zd2,if_pos h,List.filter_append]
 simp[show ¬b<t.1 by omega]
theorem ZuQ {x:Era}{b:Int}{ts:List Tim}{t:Tim}(h:¬t.1≤b):eraG x b (ts++[t])=eraG x b ts++[(t.1,locV x t.2.1 t.2.2)]:=by
 unfold eraG
 rw[Zd2,if_neg h,List.filter_append]
 simp[show b<t.1 by omega]
def cutV (l:List Chg) (e:Int):List Chg:=l.takeWhile fun c=>decide (c.1<e)
def ZbD (prev:Option Int) (f:Int):Int:=match prev with
 | none=>f
 | some e=>max f e
def ZaX (rl:List Rul) (f:Int):Option Int→List Era→List Chg
 | _,[]=>[]
 | prev,[x]=>eraG x (ZbD prev f) (ZaG rl x)
 | prev,x::y::es=>(if endV x≤f then [] else cutV (eraG x (ZbD prev f) (ZaG rl x)) (endV x))++ZaX rl f (some (endV x)) (y::es)
def risL:List Int→Bool
 | a::b::l=>decide (a<b)&&risL (b::l)
 | _=>true
theorem ZkQ : ∀ l:List Int,risL l=true↔l.Pairwise (· < ·)
 | []=>by simp[risL]
 | [a]=>by simp[risL]
 | a::b::l=>by
  rw[risL,Bool.and_eq_true,ZkQ (b::l),List.pairwise_cons (a:=a)]
  constructor
  ·rintro⟨h1,h2⟩
   have h1:a<b:=by simpa using h1
   refine⟨fun x hx=>?_,h2⟩
   rcases List.mem_cons.1 hx with rfl | hx
   ·exact h1
   ·have:=(List.pairwise_cons.1 h2).1 x hx;omega
  ·rintro⟨h1,h2⟩
   exact⟨by simpa using h1 b (by simp),h2⟩
theorem ZlR : ∀ {l:List Int},(∀ i (h:i+1<l.length),l[i]<l[i+1])→risL l=true
 | [],_=>rfl
 | [_],_=>rfl
 | a::b::l,h=>by
  rw[risL,Bool.and_eq_true]
  exact⟨by simpa using h 0 (by simp),ZlR fun i hi=>h (i+1) (by simpa using hi)⟩
theorem ZqL {l:List Int}{i:Nat}(h:i+1<l.length) (hb:¬l[i]<l[i+1]):risL l=false:=by
 cases e:risL l with
 | false=>rfl
 | true=>exact absurd (List.pairwise_iff_getElem.1 ((ZkQ l).1 e) i (i+1) om h om) hb
def risT (rl:List Rul) (x:Era):Prop:=(ZaG rl x).Pairwise fun a b=>a.1<b.1
theorem Zn6 {l:List Chg}{e:Int}{c:Chg}(hs:l.Pairwise fun a b=>a.1<b.1):c∈cutV l e↔c∈l∧c.1<e:=by
 unfold cutV
 induction l with
 | nil=>simp
 | cons d l ih =>
  rw[List.pairwise_cons] at hs
  rw[List.takeWhile_cons]
  split
  ·rename_i h
   rw[List.mem_cons,ih hs.2,List.mem_cons]
   simp only[decide_eq_true_eq] at h
   constructor
   ·rintro (rfl | ⟨h1,h2⟩)
    ·exact⟨.inl rfl,h⟩
    ·exact⟨.inr h1,h2⟩
   ·rintro⟨rfl | h1,h2⟩
    ·exact .inl rfl
    ·exact .inr ⟨h1,h2⟩
  ·rename_i h
   simp only[decide_eq_true_eq] at h
   constructor
   ·intro h;cases h
   ·rintro⟨h1,h2⟩
    rcases List.mem_cons.1 h1 with rfl | h1
    ·exact absurd h2 h
    ·have:=hs.1 c h1;omega
theorem Zqc {x:Era}{b:Int}{ts:List Tim}(h:ts.Pairwise fun a b=>a.1<b.1):(eraG x b ts).Pairwise fun a b=>a.1<b.1:=by
 unfold eraG
 rw[List.pairwise_cons]
 refine⟨fun c hc=>?_,?_⟩
 ·obtain⟨t,ht,rfl⟩:=List.mem_map.1 hc
  simpa using (List.mem_filter.1 ht).2
 ·rw[List.pairwise_map]
  exact h.filter _
theorem Zqe {rl:List Rul}{x:Era}{b:Int}(h:risT rl x) {c:Chg}(hc:c∈eraG x b (ZaG rl x)):b≤c.1∧c.2=Zft rl x c.1:=by
 rcases List.mem_cons.1 hc with rfl | hc
 ·exact⟨Int.le_refl _,rfl⟩
 ·obtain⟨t,ht,rfl⟩:=List.mem_map.1 hc
  obtain⟨h1,h2⟩:=List.mem_filter.1 ht
  simp only[decide_eq_true_eq] at h2
  refine⟨by show b≤t.1;omega,?_⟩
  show locV x t.2.1 t.2.2=Zft rl x t.1
  unfold Zft
  rw[Zpq _ _ h h1]
theorem Zet {rl:List Rul}{x:Era}{u v:Int}(h:u≤v) (ht : ∀ t∈ZaG rl x,¬(u<t.1∧t.1≤v)):Zft rl x u=Zft rl x v:=by
 unfold Zft;rw[Zh8 _ _ _ u v h ht]
theorem Zq8 {rl:List Rul}{x:Era}{b u v:Int}(h0:b≤u) (h:u≤v) (hc : ∀ c∈eraG x b (ZaG rl x),¬(u<c.1∧c.1≤v)):Zft rl x u=Zft rl x v:=by
 refine Zet h fun t ht hh=>?_
 refine hc (t.1,locV x t.2.1 t.2.2) (List.mem_cons_of_mem _ (List.mem_map.2 ⟨t,List.mem_filter.2 ⟨ht,?_⟩,rfl⟩)) hh
 simp;omega
def prevOk (prev:Option Int) (es:List Era):Prop:=match prev with
 | none=>True
 | some e => ∀ x∈ZaI es,e<x
theorem Zl1 {rl:List Rul}{f:Int} : ∀ {es:List Era}{prev:Option Int},es≠[]→(∀ x∈es,risT rl x)→(ZaI es).Pairwise (· < ·)→prevOk prev es →
  (∃ l,ZaX rl f prev es=(ZbD prev f,ZaY rl es (ZbD prev f))::l)∧(ZaX rl f prev es).Pairwise (fun a b=>a.1<b.1)∧(∀ c∈ZaX rl f prev es,ZbD prev f≤c.1∧c.2=ZaY rl es c.1) ∧
  ∀ u v,ZbD prev f≤u→u≤v→(∀ c∈ZaX rl f prev es,¬(u<c.1∧c.1≤v))→ZaY rl es u=ZaY rl es v
 | [x],prev,_,ht,_,_=>by
  have hx:=ht x (by simp)
  refine⟨⟨_,rfl⟩,Zqc hx,fun c hc=>Zqe hx hc,fun u v h1 h2 h3=>Zq8 h1 h2 h3⟩
 | x::y::es,prev,_,ht,hr,hp=>by
  have hx:=ht x (by simp)
  rw[ZeV,List.pairwise_cons] at hr
  have hp2:prevOk (some (endV x)) (y::es):=hr.1
  obtain⟨i1,i2,i3,i4⟩:=Zl1 (f:=f) (es:=y::es) (prev:=some (endV x)) (by simp) (fun z hz=>ht z (by simp[hz])) hr.2 hp2
  have hbe:prev=none ∨ ∃ e,prev=some e∧e<endV x:=by
   cases prev with
   | none=>exact .inl rfl
   | some e=>exact .inr ⟨e,rfl,hp _ (by rw[ZeV];simp)⟩
  by_cases hf:endV x≤f
  ·have hb:ZbD prev f=f:=by
    rcases hbe with rfl | ⟨e,rfl,he⟩
    ·rfl
    ·show max f e=f;omega
   have hb2:ZbD (some (endV x)) f=f:=by show max f (endV x)=f;omega
   have hP:ZaX rl f prev (x::y::es)=ZaX rl f (some (endV x)) (y::es):=by rw[ZaX,if_pos hf,List.nil_append]
   have hT : ∀ a,f≤a→ZaY rl (x::y::es) a=ZaY rl (y::es) a:=fun a ha=>by rw[ZaY,if_pos om]
   rw[hP,hb]
   rw[hb2] at i1 i3 i4
   refine⟨by rw[hT f (Int.le_refl _)];exact i1,i2,fun c hc=>?_,fun u v h1 h2 h3=>?_⟩
   ·obtain⟨j1,j2⟩:=i3 c hc
    exact⟨j1,by rw[hT _ j1];exact j2⟩
   ·rw[hT u h1,hT v om];exact i4 u v h1 h2 h3
  ·have hb:ZbD prev f<endV x:=by
    rcases hbe with rfl | ⟨e,rfl,he⟩
    ·show f<endV x;omega
    ·show max f e<endV x;omega
   have hb2:ZbD (some (endV x)) f=endV x:=by show max f (endV x)=endV x;omega
   have hP:ZaX rl f prev (x::y::es)=cutV (eraG x (ZbD prev f) (ZaG rl x)) (endV x)++ZaX rl f (some (endV x)) (y::es):=by rw[ZaX,if_neg hf]
   have hT1 : ∀ a,a<endV x→ZaY rl (x::y::es) a=Zft rl x a:=fun a ha=>by rw[ZaY,if_neg om]
   have hT2 : ∀ a,endV x≤a→ZaY rl (x::y::es) a=ZaY rl (y::es) a:=fun a ha=>by rw[ZaY,if_pos ha]
   rw[hb2] at i1 i3 i4
   have hg:=Zqc (x:=x) (b:=ZbD prev f) hx
   generalize hB:ZbD prev f=b at *
   rw[hP]
   refine⟨?_,?_,?_,?_⟩
   ·have:cutV (eraG x b (ZaG rl x)) (endV x)=(b,Zft rl x b)::cutV (eraG x b (ZaG rl x)).tail (endV x):=by
     unfold cutV eraG Zft
     rw[List.takeWhile_cons,if_pos (by simpa using hb)]
     rfl
    rw[this,hT1 b hb]
    exact⟨_,rfl⟩
   ·rw[List.pairwise_append]
    refine⟨hg.sublist (List.takeWhile_sublist _),i2,fun c hc d hd=>?_⟩
    have h1:=((Zn6 hg).1 hc).2
    have h2:=(i3 d hd).1
    omega
   ·intro c hc
    rcases List.mem_append.1 hc with hc | hc
    ·obtain⟨h1,h2⟩:=(Zn6 hg).1 hc
     obtain⟨h3,h4⟩:=Zqe hx h1
     exact⟨h3,by rw[hT1 _ h2];exact h4⟩
    ·obtain⟨h1,h2⟩:=i3 c hc
     exact⟨by omega,by rw[hT2 _ h1];exact h2⟩
   ·intro u v h1 h2 h3
    by_cases hv:v<endV x
    ·rw[hT1 u om,hT1 v hv]
     refine Zet h2 fun t ht hh=>?_
     refine h3 (t.1,locV x t.2.1 t.2.2) (List.mem_append_left _ ((Zn6 hg).2 ⟨List.mem_cons_of_mem _ (List.mem_map.2 ⟨t,List.mem_filter.2 ⟨ht,?_⟩,rfl⟩),?_⟩)) hh
     ·simp;omega
     ·show t.1<endV x;omega
    ·by_cases hu:endV x≤u
     ·rw[hT2 u hu,hT2 v om]
      exact i4 u v hu h2 fun c hc=>h3 c (List.mem_append_right _ hc)
     ·obtain⟨l,hl⟩:=i1
      exact absurd ⟨by show u<endV x;omega,by show endV x≤v;omega⟩ (h3 (endV x,_) (List.mem_append_right _ (by rw[hl];exact List.mem_cons_self)))
def ZdI (rl:List Rul) (es:List Era):List Int:=(es.flatMap fun x=>(ZaG rl x).map (·.1))++ZaI es
theorem ZfD {rl:List Rul} : ∀ {es:List Era}{u v:Int},u≤v→(∀ p∈ZdI rl es,¬(u<p∧p≤v))→ZaY rl es u=ZaY rl es v
 | [],u,v,_,_=>rfl
 | [x],u,v,h,hp=>Zet h fun t ht=>hp t.1 (by unfold ZdI;simp;exact .inl ⟨_,_,ht⟩)
 | x::y::es,u,v,h,hp=>by
  have hx:¬(u<endV x∧endV x≤v):=hp _ (by unfold ZdI;rw[ZeV];simp)
  have ht : ∀ t∈ZaG rl x,¬(u<t.1∧t.1≤v):=fun t ht=>hp t.1 (by unfold ZdI;rw[List.flatMap_cons];simp only[List.append_assoc,List.mem_append,List.mem_map];exact .inl ⟨t,ht,rfl⟩)
  have ih:ZaY rl (y::es) u=ZaY rl (y::es) v:=ZfD h fun p hp'=>hp p (by
   unfold ZdI at hp' ⊢
   rw[ZeV,List.flatMap_cons]
   rcases List.mem_append.1 hp' with h1 | h1
   ·exact List.mem_append_left _ (List.mem_append_right _ h1)
   ·exact List.mem_append_right _ (List.mem_cons_of_mem _ h1))
  rw[ZaY,ZaY]
  split
  ·rw[if_pos om];exact ih
  ·rw[if_neg om];exact Zet h ht
def Zdx (rl:List Rul) (es:List Era):Tab:=ZeK (ZaY rl es) ((ZdI rl es).mergeSort fun a b=>decide (a≤b))
theorem Zpd {rl:List Rul}{es:List Era}{L:List Int}(hs:L.Pairwise (· ≤ ·)) (hc : ∀ u v,tMin≤u→u≤v→(∀ p∈L,¬(u<p∧p≤v))→ZaY rl es u=ZaY rl es v):ZeK (ZaY rl es) L=Zdx rl es:=by
 refine ZqE hs (fun u v h1 h2 _ h4=>hc u v h1 h2 h4) ?_ fun u v h1 h2 _ h4=>ZfD h2 fun p hp=>h4 p ?_
 ·have h:=List.pairwise_mergeSort (le:=fun a b:Int=>decide (a≤b)) (fun a b c h1 h2=>by simp at *;omega) (fun a b=>by simp;omega) (ZdI rl es)
  exact h.imp fun h=>by simpa using h
 ·exact (List.mergeSort_perm _ _).mem_iff.2 hp
theorem ZtX {rl:List Rul}{f:Int}{es:List Era}(hc : ∀ c∈ZaX rl f none es,c.2=ZaY rl es c.1):ZaX rl f none es=pts (ZaY rl es) ((ZaX rl f none es).map (·.1)):=by
 unfold pts
 rw[List.map_map]
 exact (List.map_id' _).symm.trans (List.map_congr_left fun c h=>by show c=(c.1,_);rw[←hc c h])
end
section
open Go.Ab Civ
def stV:List Chg→Tab
 | []=>(locZ,[])
 | c::cs=>(c.2,dd c.2 cs)
def Zep (F:Loc) (l:List Chg):Loc:=l.getLast?.elim F (·.2)
theorem stV_snoc {l:List Chg}{c:Chg}(h:l≠[]):stV (l++[c])=((stV l).1,(stV l).2++if c.2=Zep (stV l).1 (stV l).2 then [] else [c]):=by
 cases l with
 | nil=>exact absurd rfl h
 | cons d l =>
  show ((d.2,dd d.2 (l++[c])):Tab)=(d.2,dd d.2 l++_)
  rw[Zqj]
  rfl
theorem Zs7 : ∀ l:List Chg,(stV l).2.length≤l.length
 | []=>Nat.le_refl _
 | c::l=>by have:=Zqi l c.2;show (dd c.2 l).length≤_;simp only[List.length_cons];omega
def inP (ps:List Chg):List Chg:=ps.takeWhile fun c=>decide (c.1≤tMax)
theorem Zp1 {ps:List Chg}{i:Nat}(h1 : ∀ c∈ps.take i,c.1≤tMax) (h2 : ∀ h:i<ps.length,¬ps[i].1≤tMax):inP ps=ps.take i:=by
 unfold inP
 induction ps generalizing i with
 | nil=>simp
 | cons c ps ih =>
  cases i with
  | zero=>rw[List.takeWhile_cons,if_neg (by have:=h2 (by simp);simpa using this)];rfl
  | succ i =>
   rw[List.takeWhile_cons,if_pos (by have:=h1 c (by simp);simpa using this),List.take_succ_cons]
   exact congrArg _ (ih (fun d hd=>h1 d (by simp[hd])) fun h=>by have:=h2 (by simpa using h);simpa using this)
theorem inP_pts {g:Int→Loc}{L:List Int}(hs:L.Pairwise (· < ·)):inP (pts g L)=pts g (L.filter fun x=>decide (x≤tMax)):=by
 unfold inP
 induction L with
 | nil=>rfl
 | cons a L ih =>
  rw[List.pairwise_cons] at hs
  show List.takeWhile _ ((a,g a)::pts g L)=_
  rw[List.takeWhile_cons]
  by_cases h:a≤tMax
  ·rw[if_pos (by simpa using h),List.filter_cons,if_pos (by simpa using h),ih hs.2];rfl
  ·rw[if_neg (by simpa using h),List.filter_cons,if_neg (by simpa using h)]
   have:L.filter (fun x=>decide (x≤tMax))=[]:=List.filter_eq_nil_iff.2 fun x hx=>by have:=hs.1 x hx;simp only[decide_eq_true_eq];omega
   rw[this];rfl
theorem stV_tab {g:Int→Loc}{L:List Int}(hs:(tMin::L).Pairwise (· < ·)):stV (inP (pts g (tMin::L)))=ZeK g (tMin::L):=by
 rw[inP_pts hs]
 rw[List.pairwise_cons] at hs
 unfold ZeK
 rw[List.filter_cons,if_pos (by decide)]
 have e:(tMin::L).filter inT=L.filter fun x=>decide (x≤tMax):=by
  rw[List.filter_cons,if_neg (by decide)]
  refine List.filter_congr fun x hx=>?_
  have:=hs.1 x hx
  unfold inT
  rw[Bool.eq_iff_iff]
  simp only[decide_eq_true_eq]
  exact⟨fun h=>h.2,fun h=>⟨this,h⟩⟩
 rw[e]
 rfl
theorem tabR_st : ∀ {l:List Chg},locE locZ=0∨l≠[]→tabR (stV l)=if ZbW l≠0 then ((((0,0,⟨#[]⟩):Loc),[]),ZbW l) else if 1000<(stV l).2.length then (((0,0,⟨#[]⟩),[]),2) else (stV l,0)
 | [],h=>by
  have h:=h.resolve_right (fun h=>h rfl)
  unfold tabR stV
  simp[ZbW,h]
 | c::l,_=>by
  unfold tabR
  show (if locE c.2≠0 then _ else if ZbW (dd c.2 l)≠0 then _ else _)=_
  rw[ZbW]
  by_cases h:locE c.2=0
  ·have e:(if locE c.2≠0 then locE c.2 else ZbW l)=ZbW l:=if_neg (by simp[h])
   rw[e,if_neg (show ¬locE c.2≠0 from fun hh=>hh h),ZhM h,show ZbW (stV (c::l)).2=ZbW l from ZhM h]
  ·have e:(if locE c.2≠0 then locE c.2 else ZbW l)=locE c.2:=if_pos h
   rw[e,if_pos h,if_pos h];rfl
theorem Zgd : ∀ {l:List Chg}{c:Chg},ZbW l=0→ZbW (l++[c])=locE c.2
 | [],c,_=>by show (if locE c.2≠0 then locE c.2 else 0)=_;split <;> simp_all
 | d::l,c,h=>by
  rw[ZbW] at h
  split at h
  ·rename_i h2;exact absurd h h2
  ·rename_i h2
   rw[List.cons_append,ZbW,if_neg h2]
   exact Zgd h
theorem Zih : ∀ {l m:List Chg},ZbW l≠0→ZbW (l++m)=ZbW l
 | [],_,h=>absurd rfl h
 | d::l,m,h=>by
  rw[List.cons_append,ZbW,ZbW]
  rw[ZbW] at h
  split
  ·rfl
  ·rename_i h2;rw[if_neg h2] at h;exact Zih h
end
section
theorem Zvd : ∀ {a:Int}{l:Loc}{cs:List Chg},chk a l cs=0 → ∀ c∈cs,Zhv c.1=true∧locE c.2=0
 | a,l,[],_,c,hc=>by simp at hc
 | a,l,d::cs,h,c,hc=>by
  rw[chk] at h
  split at h
  ·cases h
  ·split at h
   ·cases h
   ·split at h
    ·rename_i h1 _ h3;exact absurd h h3
    ·split at h
     ·cases h
     ·rename_i h1 _ h3 _
      rcases List.mem_cons.1 hc with rfl | hc
      ·exact⟨by simpa using h1,Decidable.of_not_not h3⟩
      ·exact Zvd h c hc
theorem Zrk {t:Tab}(h:Zbd t=0):t.2.length≤1000∧locE t.1=0 ∧ ∀ c∈t.2,Zhv c.1=true∧locE c.2=0:=by
 unfold Zbd at h
 split at h
 ·cases h
 ·split at h
  ·rename_i h1 h2;exact absurd h h2
  ·rename_i h1 h2;exact⟨by omega,Decidable.of_not_not h2,Zvd h⟩
end
section
open Go.Ab Civ
attribute [local simp] Zbi
section
theorem Zjr {τ:Operand→AV}:Zak τ [] []=some []:=rfl
end
def c89:AC:=(Sr [Oo 2 (.mv (.const (.slice none 0 0)))] (.seq (Sr [Mv 3 0,Oo 4 (.eqn false (t 3))] (Cd 4 (Sr [Oo 2 (.mv (.const (.slice none 0 0)))] .ret) .skip)) (Sr [Oo 5 (.lit 89 4 0 [] []),Mv 6 0,Oo 7 (.app 89 4 40 (t 5) (t 6)),Mv 2 7] .ret)))
theorem k89:Zaw Tryz.prog 89=some ⟨c89,[(.tmp 2)],8⟩:=by kernel_rfl
def c215:AC:=(Sr [Mv 4 0,Oo 5 (.len false (t 4)),Bc 6 .sub 5 1,Mc 2 0,Mv 3 6] (.block 0 (.loop (.seq (Sr [Mv 7 2,Mv 8 3,Bn 9 .lss 7 8] (Cd 9 .skip (.exit 0))) (.seq (.block 1 (.drw [Mv 14 0,Mv 15 2,Mv 16 0,Mv 17 3,Mv 18 0,Mv 19 3,Oo 20 (.ia 4 (t 18) (t 19)),Oo 21 (.load true 4 (t 20)),Mv 22 0,Mv 23 2,Oo 24 (.ia 4 (t 22) (t 23)),Oo 25 (.load true 4 (t 24)),Oo 26 (.ia 4 (t 14) (t 15))] [false,false,false] [⟨none,none,(.store 4 (t 26) (t 21))⟩,Oo 27 (.ia 4 (t 16) (t 17)),⟨none,none,(.store 4 (t 27) (t 25))⟩])) (.reg [Mv 10 2,Bc 11 .add 10 1,Mv 12 3,Bc 13 .sub 12 1,Mv 2 11,Mv 3 13]))))))
theorem k215:Zaw Tryz.prog 215=some ⟨c215,[],28⟩:=by kernel_rfl
def c138:AC:=(Sr [Oo 2 (.mv (.const (.slice none 0 0)))] (Sr [Mv 4 0,Cl 5 89 [(t 4)],Mv 3 5] (Sr [Mv 6 3,Cl 7 215 [(t 6)]] (Sr [Mv 8 3,Mv 2 8] .ret))))
theorem k138:Zaw Tryz.prog 138=some ⟨c138,[(.tmp 2)],9⟩:=by kernel_rfl
theorem Zvb {l:List Chg}{full:Bool}{h:AH}(hl:l.length≤3000000000000):ACalls Tryz.prog 89 [.sl l.length 4 full (rows chgC l)] h fun r h' => ∃ v,r=.ret (.own h.length v l.length)∧h'=h++[.mk v 89 4 (rows chgC l)]:=by
 refine tN' k89 fun N hn _ _ hbd=>?_
 simp only[tb'] at hbd ⊢
 refine wk'<|Zac<|wm<|?_
 refine Ztn lk (fun _=>pt) (fun bn3 hbn3=>?_)
 refine sn' ?_
 refine cd' lk (fun hc1=>?_) (fun hc1=>?_)
 ·refine wr'<|mv' lkn pt2<|Zam<|ZaP (ALe.own0 (d:=2) (st':=4) (ty:=89) rfl)<|Zbe<|Zah<|Zae (rs1 (rr_t gt2))<|?_
  have h0:l=[]:=List.eq_nil_of_length_eq_zero ((Nat.eq_zero_or_pos _).resolve_right (fun e=>by have:=hbn3 e;rw[hc1] at this;cases this))
  subst h0
  exact⟨0,by simp,by simp[rows]⟩
 refine za<|wr'<|E' (Zcz Zjr hl0 ha0) pt<|mw<|?_
 refine E' (ZbK (ZkH lk (Zbj _)) lk gx rfl om (Zgo _) hs0) pt ?_
 refine mr<|Zae rz<|?_
 exact⟨0+1,by simp[hn],by simp⟩
def rvAt (l m:List Chg) (k:Nat):Prop:=m.length=l.length ∧ ∀ t,t<l.length→m[t]?=if t<k∨l.length-k≤t then l[l.length-1-t]? else l[t]?
theorem ZqI (l:List Chg):rvAt l l 0:=⟨rfl,fun t ht=>by rw[if_neg om]⟩
theorem Ztq {l m:List Chg}{k:Nat}(h:rvAt l m k) (hk:k<l.length-1-k) (h1:k<m.length) (h2:l.length-1-k<m.length):rvAt l ((m.set k m[l.length-1-k]).set (l.length-1-k) m[k]) (k+1):=by
 obtain⟨hl,hm⟩:=h
 refine⟨by simp[hl],fun t ht=>?_⟩
 have a:=hm k om
 have b:=hm (l.length-1-k) om
 have c:=hm t ht
 rw[List.getElem?_eq_getElem h1,if_neg om] at a
 rw[List.getElem?_eq_getElem h2,if_neg om] at b
 rw[List.getElem?_set,List.length_set]
 by_cases e1:l.length-1-k=t
 ·rw[if_pos e1,if_pos h2,a,if_pos om]
  congr 1;omega
 rw[if_neg e1,List.getElem?_set]
 by_cases e2:k=t
 ·rw[if_pos e2,if_pos h1,b,if_pos om]
  congr 1;omega
 rw[if_neg e2,c]
 by_cases e3:t<k∨l.length-k≤t
 ·rw[if_pos e3,if_pos om]
 rw[if_neg e3,if_neg om]
theorem rvAt_end {l m:List Chg}{k:Nat}(h:rvAt l m k) (hk:¬k<l.length-1-k):m=l.reverse:=by
 obtain⟨hl,hm⟩:=h
 apply List.ext_getElem?
 intro t
 by_cases ht:t<l.length
 ·rw[hm t ht,List.getElem?_reverse ht]
  by_cases e:t<k∨l.length-k≤t
  ·rw[if_pos e]
  rw[if_neg e];congr 1;omega
 rw[List.getElem?_eq_none om,List.getElem?_eq_none (by simp;omega)]
theorem Ztx {l:List Chg}{id v:Nat}{h:AH}(he:h[id]?=some (.mk v 89 4 (rows chgC l))):ACalls Tryz.prog 215 [.own id v l.length] h fun r h'=>r=.ret (.tup [])∧h'=h.set id (.mk v 89 4 (rows chgC l.reverse)):=by
 have hid:id<h.length:=(List.getElem?_eq_some_iff.1 he).1
 refine tJ' k215 fun N hn hlt _ hbd=>?_
 simp only[tb'] at hbd ⊢
 refine ZfQ (h1:=h.set id (.mk v 89 4 (rows chgC l))++[]) (by rw[ZgU he]) ?_
 refine wm<|Vw (Zcm lk)<|?_
 refine V' (Za3 lk lki (by (try simp only[List.length_set]);omega) (by (try simp only[List.length_set]);omega)) pt ?_
 refine mw<|ms<|Zaf<|?_
 refine ZgD (ι:=List Chg×Nat) (fun (x_:List Chg×Nat)=>match x_ with | ⟨m,k⟩=>[(2,iv (k:Int)),(3,iv ((l.length:Int)-1-k))]++rn' 7 21) (fun (x_:List Chg×Nat)=>match x_ with | ⟨m,k⟩=>h.set id (.mk v 89 4 (rows chgC m))++[]) (fun (x_:List Chg×Nat)=>match x_ with | ⟨m,k⟩=>rvAt l m k∧k≤l.length) (fun (x_:List Chg×Nat)=>match x_ with | ⟨m,k⟩=>l.length-k) (⟨l,0⟩) (by exact⟨ZqI l,by omega⟩) (by try simp only[sm',Nat.reduceAdd];exact ALe.same wA' rfl) ?_
 rintro⟨m,k⟩ hi1
 try simp only[sm',Nat.reduceAdd]
 obtain⟨hk1,hk2⟩:=hi1
 have hml:m.length=l.length:=hk1.1
 refine Zac<|wm<|mw<|Vw (ZaO lk lk)<|sn'<|?_
 refine cd' lk (fun hc1=>?_) (fun hc1=>?_)
 ·have hkk:k<l.length-1-k:=by omega
  refine za<|Zac<|Zaf<|ZaH<|Dw vm<|Dw vm<|Dw vm<|Dw vm<|Dw vm<|Dw vm<|?_
  refine D' (ZaT (k:=l.length-1-k) lk lk (Zmh hid) Za1 nb (by first | rfl | (try simp only[List.length_set]);omega) (by (try simp only[List.length_set]);omega) (by first | rfl | (simp;done) | (try simp only[List.length_set]);omega)) pt ?_
  refine D' (ZeN lk (Zmh hid) Za1 (by (try simp only[List.length_set]);omega) rfl) pt ?_
  refine Dw vm<|Dw vm<|?_
  refine D' (ZaT lk lk (Zmh hid) Za1 nb (by first | rfl | (try simp only[List.length_set]);omega) (by (try simp only[List.length_set]);omega) (by first | rfl | (simp;done) | (try simp only[List.length_set]);omega)) pt ?_
  refine D' (ZeN lk (Zmh hid) Za1 (by (try simp only[List.length_set]);omega) rfl) pt ?_
  refine D' (ZaT lk lk (Zmh hid) Za1 nb (by first | rfl | (try simp only[List.length_set]);omega) (by (try simp only[List.length_set]);omega) (by first | rfl | (simp;done) | (try simp only[List.length_set]);omega)) pt ?_
  refine ZaM ?_
  refine Za5 ?_
  refine E' (Zgj lk cv (Zmh hid) Za1 rfl (by (try simp only[List.length_set]);omega) (hx_set hid)) ptn ?_
  refine V' (ZaT (k:=l.length-1-k) lk lk (Zmh hid) Za1 nb (by first | rfl | (try simp only[List.length_set]);omega) (by (try simp only[List.length_set]);omega) (by first | rfl | (simp;done) | (try simp only[List.length_set]);omega)) pt ?_
  refine E' (Zgj lk cv (Zmh hid) Za1 rfl (by (try simp only[List.length_set]);omega) (hx_set hid)) ptn ?_
  refine Zam<|Zau<|Zan<|Zap<|mw<|?_
  refine V' (ZbM lk lki (by (try simp only[List.length_set]);omega) (by (try simp only[List.length_set]);omega)) pt ?_
  refine mv' lk pt ?_
  refine V' (Za3 lk lki (by (try simp only[List.length_set]);omega) (by (try simp only[List.length_set]);omega)) pt ?_
  refine mw<|mw<|Zam<|Zaz<|?_
  refine lT' (⟨_,k+1⟩) (by (try dsimp only);exact⟨Ztq hk1 hkk om om,by omega⟩)
 refine Zay<|Zar<|Zar<|ZaN<|w_end (rs0)<|?_
 exact⟨h.set id (.mk v 89 4 (rows chgC m)),[],rfl,hx_len hn,ZnS hlt (by simp[Ent.lt,Zbi]),rfl,rfl,by rw[rvAt_end hk1 om]⟩
theorem back_a {l:List Chg}{full:Bool}{h:AH}(hl:l.length≤3000000000000):Ac 138 [.sl l.length 4 full (rows chgC l)] h (chS l.reverse):=by
 refine tI' k138 fun N hn _ _ hbd=>?_
 simp only[tb'] at hbd ⊢
 refine wk'<|wm<|?_
 refine Znn mp (Zvb (by first | assumption | omega)) hl0 (fun _=>ha0) (fun _=>pt) (fun va3=>?_)
 refine ms<|wm<|Zh3 mp (Ztx gx) hs0 pt<|sn'<|wm<|mw<|Zam<|?_
 refine ZaP (ALe.iceR (hga hn rfl) gt2 (List.take_of_length_le (by rw[Zbj];simp)) (by rw[Zbj];simp) pt2 hs0) ?_
 refine Zbe<|Zae rz<|rT'<|?_
 simp[chS]
end
section
open Go.Ab Civ
attribute [local simp] Zbi
section
theorem ZoW {a0 a1 a2:AV}{l:List AV}:((a0::a1::a2::l).drop 0).take 3=[a0,a1,a2]:=rfl
theorem ZhE {τ:Operand→AV}{y0 y1:Operand}{x0_0 x0_1 x0_2 x1_0:AV}(h0:Zao (τ y0)=some [x0_0,x0_1,x0_2]) (l0:[x0_0,x0_1,x0_2].all leaf=true) (h1:Zao (τ y1)=some [x1_0]) (l1:[x1_0].all leaf=true):Zak τ [(0,3,y0),(3,1,y1)] [(iv 0),(iv 0),(.v (.string ⟨#[]⟩)),(iv 0),(iv 0),(.sl 0 0 true [])]=some [x0_0,x0_1,x0_2,x1_0,(iv 0),(.sl 0 0 true [])]:=by
 simp only[Zak,h0,l0,h1,l1]
 rfl
theorem ZsC { e:Ent}:([]:AH)++[e]=[e]:=rfl
theorem ZoZ {e0 e1 e2 d0:Ent}:([e0,e1,e2]:AH)++[d0]=[e0,e1,e2,d0]:=rfl
theorem Zi9 {a0 a1 a2 a3 a4 a5 c0 c1 c2 c3 c4 c5:AV}{l:List AV}:setCells (a0::a1::a2::a3::a4::a5::l) 0 [c0,c1,c2,c3,c4,c5]=c0::c1::c2::c3::c4::c5::l:=rfl
theorem ZoY {a0 a1 a2 a3 a4 c0:AV}{l:List AV}:setCells (a0::a1::a2::a3::a4::l) 4 [c0]=a0::a1::a2::a3::c0::l:=rfl
theorem ZoX {a0 a1 a2 a3 a4 a5 c0:AV}{l:List AV}:setCells (a0::a1::a2::a3::a4::a5::l) 5 [c0]=a0::a1::a2::a3::a4::c0::l:=rfl
theorem Zi8 {a0 a1 a2 a3 a4 a5:AV}{l:List AV}:((a0::a1::a2::a3::a4::a5::l).drop 0).take 6=[a0,a1,a2,a3,a4,a5]:=rfl
end
def c74:AC:=(Sr [Oo 2 (.box 38 4 (t 0)),Oo 3 (.box 38 4 (t 1)),Oo 4 (.new 42 6 [(iv 0),(iv 0),Ss,(iv 0),(iv 0),nl])] (.seq (.drw [Fa 6 0 3,Oo 7 (.load true 3 (t 6)),Fa 8 3 2,Ld 9 8,Fa 10 3 3,Ld 11 10,Cl 12 137 [(t 9),(t 11)],Oo 13 (.build [(iv 0),(iv 0),Ss,(iv 0),(iv 0),nl] [(0,(3,(t 7))),(3,(1,(t 12)))]),Oo 5 (.new 42 6 [(iv 0),(iv 0),Ss,(iv 0),(iv 0),nl])] [false] [⟨none,none,(.store 6 (t 5) (t 13))⟩]) (.seq (.drw [Fa 14 3 2,Ld 15 14,Fa 16 3 5,Ld 17 16,Oo 18 (.slc 4 (t 15) (some (t 17)) none none),Cl 19 138 [(t 18)],Fa 20 3 3,Ld 21 20,Fa 22 3 5,Ld 23 22,Oo 24 (.slc 4 (t 21) (some (t 23)) none none),Cl 25 138 [(t 24)],Cl 26 137 [(t 19),(t 25)],Fa 27 4 5] [false] [Sc 27 26]) (Sr [Fa 28 3 3,Ld 29 28,Fa 30 3 5,Ld 31 30,Fa 32 3 3,Ld 33 32,Oo 34 (.len false (t 33)),Fa 35 4 5,Ld 36 35,Bn 37 .sub 34 36,Oo 38 (.slc 4 (t 29) (some (t 31)) (some (t 37)) none),Cl 39 89 [(t 38)],Fa 40 5 5,Sc 40 39] (Sr [Oo 41 (.load true 6 (t 5)),⟨none,none,(.store 6 (t 4) (t 41))⟩] .ret)))))
theorem k74:Zaw Tryz.prog 74=some ⟨c74,[(.cell 4 true 6)],42⟩:=by kernel_rfl
abbrev Pat:=Loc×Int×Int×List Chg
abbrev patA (p:Pat):AV:=.agg [iv p.1.1,iv p.1.2.1,sv p.1.2.2,iv p.2.1,iv p.2.2.1,chS p.2.2.2]
def hdOf (t u:Tab):Nat:=com t.2 u.2
def tlOf (t u:Tab):Nat:=com (t.2.drop (hdOf t u)).reverse (u.2.drop (hdOf t u)).reverse
def ZcI (t u:Tab):Pat:=(u.1,hdOf t u,tlOf t u,(u.2.take (u.2.length-tlOf t u)).drop (hdOf t u))
def noPat:Pat:=((0,0,⟨#[]⟩),0,0,[])
def Zfr:Tab:=((0,0,⟨#[]⟩),[])
theorem hd_le (t u:Tab):hdOf t u≤t.2.length∧hdOf t u≤u.2.length:=Zu2 _ _
theorem tl_le (t u:Tab):tlOf t u≤t.2.length-hdOf t u∧tlOf t u≤u.2.length-hdOf t u:=by
 have:=Zu2 (t.2.drop (hdOf t u)).reverse (u.2.drop (hdOf t u)).reverse
 simpa [tlOf] using this
def Zra (t u:Tab):Int:=if Zbd t≠0 then Zbd t else Zbd u
def Zmt (t u:Tab):Pat:=if Zra t u=0 then ZcI t u else noPat
def okT (t:Tab):Prop:=t.1.2.2.size≤maxLen ∧ ∀ x∈t.2,x.2.2.2.size≤maxLen
theorem ZcO {t:Tab}(h:Zbd t=0):t.2.length≤1000:=by
 unfold Zbd at h
 split at h
 ·omega
 omega
theorem Zvq {t u:Tab}{f1 f2:Bool}{h:AH}(h1:t.2.length≤3000000000000) (h2:u.2.length≤3000000000000) :
  Ac 74 [.agg [iv t.1.1,iv t.1.2.1,sv t.1.2.2,.sl t.2.length 4 f1 (rows chgC t.2)],.agg [iv u.1.1,iv u.1.2.1,sv u.1.2.2,.sl u.2.length 4 f2 (rows chgC u.2)]] h (patA (ZcI t u)):=by
 have hh:=hd_le t u
 have ht:=tl_le t u
 refine tI' k74 fun N hn _ _ hbd=>?_
 simp only[tb'] at hbd ⊢
 refine wr'<|E' (ZaR cv rfl hl0 ha0) pt<|E' (ZaR cv rfl hl1 ha1) pt<|E' (ZaV hl2 ha2) pt<|sn'<|Zac<|ZaH<|dg<|Dw (Zag lk gx ZoW rfl)<|dg<|Dw (Zaa lk gx gt3)<|dg<|?_
 refine D' (Zaa lk gx gt3) pt ?_
 refine ZaC mp (fun hE hX=>(Zmx (f1:=f1) (f2:=f2) rfl:ACalls Tryz.prog 137 _ _ fun x h'=>_=_∧x=.ret (iv (hdOf t u)))) pt ?_
 refine Dw (Zat (ZhE cv rfl cv rfl))<|Zc5 rfl rfl (hlk hn rfl) (Zil) pt ZsC<|ZaM<|?_
 refine Zc4 ZoZ ?_
 refine E' (Zai lk cv gx rfl nb rfl Zi9 hs3) ptn<|sn'<|Zac<|ZaH<|dg<|Dw (Zaa lk gx gt3)<|dg<|Dw (Zaa lk gx gt3)<|?_
 refine D' (v_lo (k:=hdOf t u) lk lk Za1 ro om ro) pt ?_
 refine ZaC mp (fun hE hX=>back_a (by rw[List.length_drop];omega)) pt ?_
 refine dg<|Dw (Zaa lk gx gt3)<|dg<|Dw (Zaa lk gx gt3)<|?_
 refine D' (v_lo (k:=hdOf t u) lk lk Za1 ro om ro) pt ?_
 refine ZaC mp (fun hE hX=>back_a (by rw[List.length_drop];omega)) pt ?_
 refine ZaC mp (fun hE hX=>(Zmx (f1:=false) (f2:=false) rfl:ACalls Tryz.prog 137 _ _ fun x h'=>_=_∧x=.ret (iv (tlOf t u)))) pt ?_
 refine dg<|ZaM<|?_
 refine Za5 ?_
 refine E' (Zai lk cv gx rfl nb rfl ZoY hs3) ptn<|sn'<|wr'<|fq<|Vw (Zaa lk gx gt3)<|fq<|Vw (Zaa lk gx gt3)<|fq<|Vw (Zaa lk gx gt3)<|Vw (ZaA lk)<|fq<|Vw (Zaa lk gx gt4)<|?_
 refine V' (Za3 lk lk om om) pt ?_
 have hq:tlOf t u≤u.2.length:=by omega
 refine V' (v_lh (k:=hdOf t u) (m:=u.2.length-tlOf t u) lk lk lk Za1 ro ro om om ro) pt ?_
 refine Znn mp (Zvb (by simp;omega)) hl4 (fun _=>ha4) (fun _=>pt) (fun va40=>?_)
 refine fq<|E' (Zai lk cv gx rfl nb rfl ZoX hs3) ptn<|Zam<|?_
 refine ZaP (ALe.iceCellR (hga hn rfl) (hga hn rfl) om gt5 (List.take_of_length_le (by rw[Zbk Za1];first | exact Nat.le_refl _ | omega)) (by rw[Zbk Za1];first | exact Nat.le_refl _ | omega) pt5 hs4 hs3) ?_
 exact wr'<|Vw (Zag lk gx Zi8 rfl)<|E' (Zai lk cv gx rfl nb rfl Zi9 hs2) ptn<|sr<|Zae (rs1 (rr_c gt gx (ld1 Zi8 rfl)))<|rT' rfl
end
section
open Go.Ab Civ
attribute [local simp] Zbi
def c216:AC:=(Sr [Oo 4 (.mv (.const (.slice none 0 0)))] (.seq (Sr [Mv 5 1,Bc 6 .lss 5 0] (Cd 6 (.reg [Oo 7 (.mkif 9 (.const (.string ⟨#[99,97,110,110,111,116,32,98,101,32,110,101,103,97,116,105,118,101]⟩))),⟨none,none,(.panic (t 7))⟩]) .skip)) (.seq (Sr [Mv 8 1,Mv 9 0,Oo 10 (.cap (t 9)),Mv 11 0,Oo 12 (.len false (t 11)),Bn 13 .sub 10 12,Bn 14 .sub 8 13,Mv 1 14] (Sr [Mv 15 1,Bc 16 .gtr 15 0] (Cd 16 (.reg [Mv 17 0,Mv 18 0,Oo 19 (.cap (t 18)),Oo 20 (.slc 4 (t 17) none (some (t 19)) none),Mv 21 1,Oo 22 (.appz 89 4 40 (t 20) (t 21)),Mv 23 0,Oo 24 (.len false (t 23)),Oo 25 (.slc 4 (t 22) none (some (t 24)) none),Mv 0 25]) .skip))) (Sr [Mv 26 0,Mv 4 26] .ret))))
theorem k216:Zaw Tryz.prog 216=some ⟨c216,[(.tmp 4)],27⟩:=by kernel_rfl
def c139:AC:=(Sr [Oo 2 (.mv (.const (.slice none 0 0)))] (Sr [Mc 3 0] (.seq (Sr [Mv 9 0,Oo 10 (.len false (t 9)),Mc 11 0] (.block 0 (.loop (Sr [Bn 12 .lss 11 10] (.seq (Cd 12 .skip (.exit 0)) (.seq (.block 1 (Sr [Oo 13 (.ia 1 (t 9) (t 11)),Ld 14 13,Mv 5 14] (Sr [Mv 15 3,Mv 16 5,Oo 17 (.len false (t 16)),Bn 18 .add 15 17,Mv 3 18] (Sr [Mv 19 3,Bc 20 .lss 19 0] (Cd 20 (.reg [Oo 21 (.mkif 9 (.const (.string ⟨#[108,101,110,32,111,117,116,32,111,102,32,114,97,110,103,101]⟩))),⟨none,none,(.panic (t 21))⟩]) .skip))))) (.reg [Bc 22 .add 11 1,Mv 11 22]))))))) (Sr [Mv 23 3,Cl 24 216 [(.const (.slice none 0 0)),(t 23)],Mv 6 24] (.seq (Sr [Mv 25 0,Oo 26 (.len false (t 25)),Mc 27 0] (.block 2 (.loop (Sr [Bn 28 .lss 27 26] (.seq (Cd 28 .skip (.exit 2)) (.seq (.block 3 (Sr [Oo 29 (.ia 1 (t 25) (t 27)),Ld 30 29,Mv 8 30] (.reg [Mv 31 6,Mv 32 8,Oo 33 (.app 89 4 40 (t 31) (t 32)),Mv 6 33]))) (.reg [Bc 34 .add 27 1,Mv 27 34]))))))) (Sr [Mv 35 6,Mv 2 35] .ret))))))
theorem k139:Zaw Tryz.prog 139=some ⟨c139,[(.tmp 2)],36⟩:=by kernel_rfl
theorem grow_a {m:Nat}{h:AH}(hm:m≤3000000000000):ACalls Tryz.prog 216 [.sl 0 0 true [],iv (m:Int)] h fun r h' => ∃ v,r=.ret (.own h.length v 0)∧h'=h++[.mk v 89 4 []]:=by
 refine ACalls.wk (wkw (Wk.nil (st':=4)) (wk1 rfl wk0)) ?_
 refine tN' k216 fun N hn _ _ hbd=>?_
 simp only[tb'] at hbd ⊢
 refine wk'<|Zac<|wm<|Vw (ZaO lk lki)<|sn'<|?_
 refine ZdG lk (by exact decide_eq_false om) ?_
 refine za<|Zac<|wm<|mw<|Vw (v_cap lk)<|mw<|Vw (ZaA lk)<|?_
 refine V' (Za3 lk lk om om) pt ?_
 refine V' (Za3 lk lk om om) pt ?_
 refine ms<|wm<|Vw (ZbE lk lki)<|sn'<|?_
 refine cd' lk (fun hc2=>?_) (fun hc2=>?_)
 ·refine Zap<|mw<|mw<|Vw (v_cap lk)<|?_
  refine V' (v_slc lk on_ (oi lk) om om om) pt ?_
  refine mv' lk pt ?_
  refine E' (e_appz lk lk om nb nb om hl0 ha0) pt ?_
  refine mw<|Vw (ZaA lk)<|?_
  refine V' (v_hiO (m:=0) lk lk ro om) pt ?_
  refine ms<|wm<|mr<|Zae rz<|?_
  exact⟨_,by simp[hn];rfl,by simp⟩
 refine za<|wr'<|mv' lk0 pt26<|mv' lk26 pt4<|Zam<|ZaP (ALe.own0 (d:=4) (st':=4) (ty:=89) rfl)<|Zbe<|Zae (rs1 (rr_t gt4))<|?_
 exact⟨_,by simp[hn];rfl,by simp⟩
abbrev chSC (l:List Chg):List AV:=[chS l]
theorem Zqo : ∀ x,(chSC x).length=1:=fun _=>rfl
theorem concat_a {ls:List (List Chg)}{full:Bool}{h:AH}(hm:ls.flatten.length≤3000000000000):Ac 139 [.sl ls.length 1 full (rows chSC ls)] h (chS ls.flatten):=by
 have hpre : ∀ k,(ls.take k).flatten.length≤ls.flatten.length:=fun k=>by
  conv=>rhs;rw[←List.take_append_drop k ls]
  rw[List.flatten_append,List.length_append];omega
 have hst : ∀ k (hk:k<ls.length),(ls.take (k+1)).flatten=(ls.take k).flatten++ls[k]:=fun k hk=>by rw[List.take_succ_eq_append_getElem hk,List.flatten_append,List.flatten_cons,List.flatten_nil,List.append_nil]
 have hls : ∀ k (hk:k<ls.length),(ls.take k).flatten.length+ls[k].length≤ls.flatten.length:=fun k hk=>by
  have:=hpre (k+1);rw[hst k hk,List.length_append] at this;exact this
 refine tI' k139 fun N hn _ _ hbd=>?_
 simp only[tb'] at hbd ⊢
 refine wk'<|wk'<|Zac<|wm<|?_
 refine Vw (ZaA lk)<|ms<|Zaf<|?_
 refine w_lp (ι:=Nat) (fun (k:Nat)=>[(3,iv ((ls.take k).flatten.length:Int)),(11,iv (k:Int)),(5,.any)]++rn' 12 11) (fun (k:Nat)=>[]) (fun (k:Nat)=>k≤ls.length) (fun (k:Nat)=>ls.length-k) (0) om ?_
 rintro k hi1
 try simp only[sm',Nat.reduceAdd]
 refine wr'<|Vw (ZaO lk lk)<|sn'<|Zac<|?_
 refine cd' lk (fun hc1=>?_) (fun hc1=>?_)
 ·have hk:k<ls.length:=by omega
  have hkl:=hls k hk
  refine za<|Zac<|Zaf<|wr'<|?_
  refine V' (ZaJ lk lk Zqo nb ro om ro rfl) pt ?_
  refine Vw (Zax lk gt)<|ms<|wm<|mw<|?_
  refine V' ((by first | exact ZaA lk | exact Zcm lk)) pt ?_
  refine V' (ZbM lk lk om om) pt ?_
  refine ms<|wm<|Vw (ZaO lk lki)<|sn'<|?_
  refine ZdG lk (by exact decide_eq_false om) ?_
  refine ZaB<|Zau<|Zan<|Zap<|?_
  refine ad<|mw<|Zam<|Zaz<|?_
  refine lU' (k+1) (by (try dsimp only);omega) (by refine zz ?_;exact ALe.same (by repeat (first | exact wk0 | refine wka ?_ | refine wk1 rfl ?_ | refine wk1 (by first | rfl | exact ivx om | exact ivx (by rw[hst k hk,List.length_append];omega) | (simp;done)) ?_)) rfl)
 refine Zay<|Zar<|Zar<|ZaN<|Zan<|wm<|?_
 refine Znn mp (grow_a (Nat.le_trans (hpre _) hm)) hl0 (fun _=>ha0) (fun _=>pt) (fun va22=>?_)
 refine ms<|Zac<|wm<|Vw (ZaA lk)<|ms<|Zaf<|?_
 refine w_lp (ι:=Nat×Nat) (fun (x_:Nat×Nat)=>match x_ with | ⟨k,v⟩=>[(6,.own (N+0) v (ls.take k).flatten.length),(27,iv (k:Int)),(8,.any)]++rn' 28 7) (fun (x_:Nat×Nat)=>match x_ with | ⟨k,v⟩=>[(0,.mk v 89 4 (rows chgC (ls.take k).flatten))]) (fun (x_:Nat×Nat)=>match x_ with | ⟨k,v⟩=>k≤ls.length) (fun (x_:Nat×Nat)=>match x_ with | ⟨k,v⟩=>ls.length-k) (⟨0,va22⟩) (by exact Nat.zero_le _) ?_
 rintro⟨k,v⟩ hi2
 try simp only[sm',Nat.reduceAdd]
 refine wr'<|Vw (ZaO lk lk)<|sn'<|Zac<|?_
 refine cd' lk (fun hc3=>?_) (fun hc3=>?_)
 ·have hk:k<ls.length:=by omega
  have hkl:=hls k hk
  refine za<|Zac<|Zaf<|wr'<|?_
  refine V' (ZaJ lk lk Zqo nb ro om ro rfl) pt ?_
  refine Vw (Zax lk gt)<|ms<|Zap<|mw<|mw<|?_
  refine E' (ZbK (ZkH lk (Zbj _)) lk gx (Zbj _) om (Zgo _) hs0) pt ?_
  refine mw<|Zam<|Zau<|Zan<|Zap<|?_
  refine ad<|mw<|Zam<|Zaz<|?_
  refine lU' (⟨k+1,v+1⟩) (by (try dsimp only);exact hk) (by refine zz ?_;exact ALe.same (by repeat (first | exact wk0 | refine wka ?_ | refine wk1 rfl ?_ | refine wk1 (by first | rfl | exact ivx om | (rw[hst k hk,List.length_append];done) | (simp;done)) ?_)) (by rw[hst k hk,ZaF]))
 refine Zay<|Zar<|Zar<|ZaN<|Zan<|wm<|mw<|Zam<|?_
 refine ZaP (ALe.iceR (hga hn rfl) gt2 (List.take_of_length_le (by rw[Zbj];exact Nat.le_refl _)) (by rw[Zbj];exact Nat.le_refl _) pt2 hs0) ?_
 refine Zbe<|Zae rz<|rT'<|?_
 rw[List.take_of_length_le (show ls.length≤k by omega)]
end
section
open Go.Ab Civ
attribute [local simp] Zbi
section
theorem Zcr {τ:Operand→AV}:Zak τ [] [(iv 0),(iv 0),(.v (.string ⟨#[]⟩)),(.sl 0 0 true [])]=some [(iv 0),(iv 0),(.v (.string ⟨#[]⟩)),(.sl 0 0 true [])]:=rfl
theorem Zch {a0 a1 a2 a3 c0 c1 c2 c3:AV}{l:List AV}:setCells (a0::a1::a2::a3::l) 0 [c0,c1,c2,c3]=c0::c1::c2::c3::l:=rfl
theorem ZbY {a0 a1 a2 a3:AV}{l:List AV}:((a0::a1::a2::a3::l).drop 0).take 4=[a0,a1,a2,a3]:=rfl
theorem ZhD {τ:Operand→AV}:Zak τ [] [(iv 0),(iv 0),(.v (.string ⟨#[]⟩)),(.sl 0 0 true [])]=some [(iv 0),(iv 0),(.v (.string ⟨#[]⟩)),(.sl 0 0 true [])]:=rfl
theorem ZoU {a0 a1 a2:AV}{l:List AV}:((a0::a1::a2::l).drop 0).take 3=[a0,a1,a2]:=rfl
theorem ZhC {τ:Operand→AV}{y0 y1 y2:Operand}{x0_0 x1_0 x2_0:AV}(h0:Zao (τ y0)=some [x0_0]) (l0:[x0_0].all leaf=true) (h1:Zao (τ y1)=some [x1_0]) (l1:[x1_0].all leaf=true) (h2:Zao (τ y2)=some [x2_0]) (l2:[x2_0].all leaf=true):Zak τ [(0,1,y0),(1,1,y1),(2,1,y2)] [(.sl 0 0 true []),(.sl 0 0 true []),(.sl 0 0 true [])]=some [x0_0,x1_0,x2_0]:=by
 simp only[Zak,h0,l0,h1,l1,h2,l2]
 rfl
theorem ZsB { e:Ent}:([]:AH)++[e]=[e]:=rfl
theorem ZhB {τ:Operand→AV}{y0 y1:Operand}{x0_0 x0_1 x0_2 x1_0:AV}(h0:Zao (τ y0)=some [x0_0,x0_1,x0_2]) (l0:[x0_0,x0_1,x0_2].all leaf=true) (h1:Zao (τ y1)=some [x1_0]) (l1:[x1_0].all leaf=true):Zak τ [(0,3,y0),(3,1,y1)] [(iv 0),(iv 0),(.v (.string ⟨#[]⟩)),(.sl 0 0 true [])]=some [x0_0,x0_1,x0_2,x1_0]:=by
 simp only[Zak,h0,l0,h1,l1]
 rfl
theorem ZsA {e0 e:Ent}:([e0]:AH)++[e]=[e0,e]:=rfl
theorem ZoV {e0 e1 e2 d0 d1:Ent}:([e0,e1,e2]:AH)++[d0,d1]=[e0,e1,e2,d0,d1]:=rfl
theorem ZhA {τ:Operand→AV}:Zak τ [] [(iv 0),(iv 0),(.v (.string ⟨#[]⟩)),(.sl 0 0 true [])]=some [(iv 0),(iv 0),(.v (.string ⟨#[]⟩)),(.sl 0 0 true [])]:=rfl
end
def c75:AC:=(Sr [Oo 2 (.box 38 4 (t 0)),Oo 3 (.box 42 6 (t 1)),Oo 4 (.new 38 4 [(iv 0),(iv 0),Ss,nl]),Mc 5 0] (Sr [Fa 9 3 2,Ld 10 9,Oo 11 (.len false (t 10)),Mv 6 11] (.seq (.block 0 (Sr [Fa 13 3 3,Ld 14 13,Bc 15 .lss 14 0,Mv 16 15,Of 17 16 (.fa 4 (t 3)),Of 18 16 (.load false 1 (t 17)),Of 19 16 (.bin .lss (t 18) (Ci 0)),Oo 20 (.pick (t 16) (.const (.bool true)) (t 19)),Mv 21 20,Of 22 21 (.fa 3 (t 3)),Of 23 21 (.load false 1 (t 22)),Of 24 21 (mt 6),Of 25 21 (.bin .gtr (t 23) (t 24)),Oo 26 (.pick (t 21) (.const (.bool true)) (t 25)),Mv 27 26,Of 28 27 (.fa 4 (t 3)),Of 29 27 (.load false 1 (t 28)),Of 30 27 (mt 6),Of 31 27 (.fa 3 (t 3)),Of 32 27 (.load false 1 (t 31)),Of 33 27 (.bin .sub (t 30) (t 32)),Of 34 27 (.bin .gtr (t 29) (t 33)),Oo 35 (.pick (t 27) (.const (.bool true)) (t 34)),Mv 12 35] (Cd 12 (Sr [Oo 36 (.build [(iv 0),(iv 0),Ss,nl] []),⟨none,none,(.store 4 (t 4) (t 36))⟩,Mc 5 3] .ret) (Sr [Fa 38 5 3,Ld 39 38,Oo 40 (.len false (t 39)),Bc 41 .gtr 40 1000,Mv 37 41] (Cd 37 (Sr [Oo 42 (.build [(iv 0),(iv 0),Ss,nl] []),⟨none,none,(.store 4 (t 4) (t 42))⟩,Mc 5 2] .ret) .skip))))) (.seq (.drw [Fa 43 0 3,Oo 44 (.load true 3 (t 43)),Fa 45 3 2,Ld 46 45,Fa 47 3 3,Ld 48 47,Oo 49 (.slc 4 (t 46) none (some (t 48)) none),Fa 50 5 3,Ld 51 50,Fa 52 3 2,Ld 53 52,Mv 54 6,Fa 55 4 3,Ld 56 55,Bn 57 .sub 54 56,Oo 58 (.slc 4 (t 53) (some (t 57)) none none),Oo 59 (.lit 36 1 3 [nl,nl,nl] [(0,(1,(t 49))),(1,(1,(t 51))),(2,(1,(t 58)))]),Cl 60 139 [(t 59)],Oo 61 (.build [(iv 0),(iv 0),Ss,nl] [(0,(3,(t 44))),(3,(1,(t 60)))]),Oo 7 (.new 38 4 [(iv 0),(iv 0),Ss,nl])] [false] [⟨none,none,(.store 4 (t 7) (t 61))⟩]) (.seq (Sr [Oo 62 (.load true 4 (t 7)),Cl 63 60 [(t 62)],Mv 8 63] (Sr [Mv 64 8,Bc 65 .neq 64 0] (Cd 65 (Sr [Oo 66 (.build [(iv 0),(iv 0),Ss,nl] []),Mv 67 8,⟨none,none,(.store 4 (t 4) (t 66))⟩,Mv 5 67] .ret) .skip))) (Sr [Oo 68 (.load true 4 (t 7)),⟨none,none,(.store 4 (t 4) (t 68))⟩,Mc 5 0] .ret))))))
theorem k75:Zaw Tryz.prog 75=some ⟨c75,[(.cell 4 true 4),(.tmp 5)],69⟩:=by kernel_rfl
def offP (t:Tab) (p:Pat):Prop:=p.2.1<0∨p.2.2.1<0∨(t.2.length:Int)<p.2.1∨(t.2.length:Int)-p.2.1<p.2.2.1
instance (t:Tab) (p:Pat):Decidable (offP t p):=by unfold offP;infer_instance
abbrev outL (t:Tab) (p:Pat):List (List Chg):=[t.2.take p.2.1.toNat,p.2.2.2,t.2.drop ((t.2.length:Int)-p.2.2.1).toNat]
def outT (t:Tab) (p:Pat):Tab:=(p.1,(outL t p).flatten)
def patE (t:Tab) (p:Pat):Int:=if offP t p then 3 else if 1000<p.2.2.2.length then 2 else Zbd (outT t p)
def patV (t:Tab) (p:Pat):Tab:=if patE t p=0 then outT t p else Zfr
def okP (p:Pat):Prop:=p.1.2.2.size≤maxLen ∧ ∀ x∈p.2.2.2,x.2.2.2.size≤maxLen
theorem Zt5 {t:Tab}{p:Pat}(ht:okT t) (hp:okP p):okT (outT t p):=by
 refine⟨hp.1,fun x hx=>?_⟩
 simp only[outT,List.flatten_cons,List.flatten_nil,List.append_nil,List.mem_append] at hx
 rcases hx with h | h | h
 ·exact ht.2 x (List.mem_of_mem_take h)
 ·exact hp.2 x h
 exact ht.2 x (List.mem_of_mem_drop h)
theorem out_len {t:Tab}{p:Pat}:(outL t p).flatten.length≤t.2.length+p.2.2.2.length+t.2.length:=by
 simp only[List.flatten_cons,List.flatten_nil,List.append_nil,List.length_append,List.length_take,List.length_drop]
 omega
theorem ZtW {t:Tab}{p:Pat}{f1 f2:Bool}{h:AH}(h1:t.2.length≤1000) (ht:okT t) (hp:okP p) :
  Ac 75 [.agg [iv t.1.1,iv t.1.2.1,sv t.1.2.2,.sl t.2.length 4 f1 (rows chgC t.2)],.agg [iv p.1.1,iv p.1.2.1,sv p.1.2.2,iv p.2.1,iv p.2.2.1,.sl p.2.2.2.length 4 f2 (rows chgC p.2.2.2)]] h (.tup [tabA (patV t p),iv (patE t p)]):=by
 refine ACalls.wk (wkw (Wk.agg (wk1 rfl (wk1 rfl (wk1 rfl (wkw Wk.full wk0))))) (wkw (Wk.agg (wk1 rfl (wk1 rfl (wk1 rfl (wk1 rfl (wk1 rfl (wkw Wk.full wk0))))))) wk0)) ?_
 have hz:Wk (.agg [.v (.int .i64 0),.v (.int .i64 0),.v (.string ⟨#[]⟩),.sl 0 0 true []]) (tabA Zfr):=Wk.agg (wk1 rfl (wk1 rfl (wk1 rfl (wkw Wk.nilF wk0))))
 have ho:=Zt5 ht hp
 have hl:=out_len (t:=t) (p:=p)
 refine tW' k75 fun N hn _ _ hbd=>?_
 simp only[tb'] at hbd ⊢
 refine wr'<|E' (ZaR cv rfl hl0 ha0) pt<|E' (ZaR cv rfl hl1 ha1) pt<|E' (ZaV hl2 ha2) pt<|ms<|wr'<|fq<|Vw (Zaa lk gx gt3)<|Vw (ZaA lk)<|mw<|?_
 refine sn'<|Zac<|Zaf<|wr'<|fq<|Vw (Zaa lk gx gt3)<|Vw (ZaO lk lki)<|mw<|?_
 refine sp' (t:=16) gt pt pt (fun hg16=>?_) (fun hg16=>?_)
 ·refine so<|so<|so<|Vw (Zal lk lkb)<|mw<|so<|so<|so<|so<|Vw (Zal lk lkb)<|mw<|so<|so<|so<|?_
  refine so<|so<|so<|so<|Vw (Zal lk lkb)<|ms<|Zbb lk<|wr'<|Vw (Zat Zcr)<|E' (Zai lk cv gx rfl nb rfl Zch hs2) ptn<|mw<|?_
  refine sr<|Zaq<|Zah<|Zae (rsn (rm1 (rr_c gt gx (ld1 ZbY rfl)) (rm1 (rr_t gt) rm0)))<|rtW'<|?_
  have hE:patE t p=3:=if_pos (by unfold offP;omega)
  rw[patV,if_neg (by rw[hE];decide),hE]
  exact Wk.tup (wkw hz (wk1 rfl wk0))
 refine sd<|fq<|sd<|Vw (Zaa lk gx gt4)<|sd<|Vw (ZaO lk lki)<|Vw (Zaj lk lk)<|mw<|?_
 refine sp' (t:=21) gt pt pt (fun hg21=>?_) (fun hg21=>?_)
 ·refine so<|so<|so<|so<|Vw (Zal lk lkb)<|mw<|so<|so<|so<|so<|so<|so<|so<|Vw (Zal lk lkb)<|?_
  refine ms<|Zbb lk<|wr'<|Vw (Zat Zcr)<|E' (Zai lk cv gx rfl nb rfl Zch hs2) ptn<|mr<|Zaq<|Zah<|?_
  refine Zae (rsn (rm1 (rr_c gt gx (ld1 ZbY rfl)) (rm1 (rr_t gt) rm0)))<|rtW'<|?_
  have hE:patE t p=3:=if_pos (by unfold offP;omega)
  rw[patV,if_neg (by rw[hE];decide),hE]
  exact Wk.tup (wkw hz (wk1 rfl wk0))
 refine sd<|fq<|sd<|Vw (Zaa lk gx gt3)<|sd<|mw<|sd<|Vw (ZbE lk lk)<|Vw (Zaj lk lk)<|mw<|?_
 refine sp' (t:=27) gt pt pt (fun hg27=>?_) (fun hg27=>?_)
 ·refine so<|so<|so<|so<|so<|so<|so<|Vw (Zal lk lkb)<|ms<|Zbb lk<|wr'<|?_
  refine Vw (Zat Zcr)<|E' (Zai lk cv gx rfl nb rfl Zch hs2) ptn<|mr<|Zaq<|Zah<|Zae (rsn (rm1 (rr_c gt gx (ld1 ZbY rfl)) (rm1 (rr_t gt) rm0)))<|rtW'<|?_
  have hE:patE t p=3:=if_pos (by unfold offP;omega)
  rw[patV,if_neg (by rw[hE];decide),hE]
  exact Wk.tup (wkw hz (wk1 rfl wk0))
 refine sd<|fq<|sd<|Vw (Zaa lk gx gt4)<|sd<|mw<|sd<|fq<|sd<|Vw (Zaa lk gx gt3)<|sd<|?_
 refine V' (Za3 lk lk om om) pt ?_
 refine sd<|Vw (ZbE lk lk)<|Vw (Zaj lk lk)<|ms<|?_
 refine cd' lk (fun hc1=>?_) (fun hc1=>?_)
 ·refine wr'<|Vw (Zat Zcr)<|E' (Zai lk cv gx rfl nb rfl Zch hs2) ptn<|mr<|Zaq<|Zah<|Zae (rsn (rm1 (rr_c gt gx (ld1 ZbY rfl)) (rm1 (rr_t gt) rm0)))<|rtW'<|?_
  have hE:patE t p=3:=if_pos (by unfold offP;omega)
  rw[patV,if_neg (by rw[hE];decide),hE]
  exact Wk.tup (wkw hz (wk1 rfl wk0))
 refine wr'<|fq<|Vw (Zaa lk gx gt5)<|Vw (ZaA lk)<|Vw (ZbE lk lki)<|ms<|?_
 refine cd' lk (fun hc2=>?_) (fun hc2=>?_)
 ·refine wr'<|Vw (Zat ZhD)<|E' (Zai lk cv gx rfl nb rfl Zch hs2) ptn<|mr<|Zaq<|Zah<|Zae (rsn (rm1 (rr_c gt gx (ld1 ZbY rfl)) (rm1 (rr_t gt) rm0)))<|rtW'<|?_
  have hE:patE t p=2:=by rw[patE,if_neg (by unfold offP;omega),if_pos om]
  rw[patV,if_neg (by rw[hE];decide),hE]
  exact Wk.tup (wkw hz (wk1 rfl wk0))
 refine ZaB<|Zau<|Zan<|Zac<|ZaH<|dg<|Dw (Zag lk gx ZoU rfl)<|dg<|Dw (Zaa lk gx gt3)<|dg<|Dw (Zaa lk gx gt3)<|?_
 refine D' (v_hi (k:=p.2.1.toNat) lk lk Za1 ro om ro) pt ?_
 refine dg<|Dw (Zaa lk gx gt5)<|dg<|Dw (Zaa lk gx gt3)<|Dw vm<|dg<|Dw (Zaa lk gx gt4)<|?_
 refine D' (Za3 lk lk om om) pt ?_
 refine D' (v_lo (k:=((t.2.length:Int)-p.2.2.1).toNat) lk lk Za1 ro om ro) pt ?_
 refine d_effI rfl rfl (hlk hn rfl) (l_litI (ZhC cv rfl cv rfl cv rfl) rfl) pt ZsB ?_
 refine ZaC mp (fun hE hX=>concat_a (ls:=outL t p) om) pt ?_
 refine Dw (Zat (ZhB cv rfl cv rfl))<|Zc5 rfl rfl (hlk hn rfl) (Zil) pt ZsA<|ZaM<|?_
 refine Zc4 ZoV ?_
 refine E' (Zai lk cv gx rfl nb rfl Zch hs4) ptn<|sn'<|Zac<|wr'<|Vw (Zag lk gx ZbY rfl)<|Zad mp (Zvk (l:=(outL t p).flatten) ho.1 ho.2) pt<|ms<|wm<|?_
 refine Vw (Zba lk lki)<|sn'<|?_
 refine cd' lk (fun hc3=>?_) (fun hc3=>?_)
 ·refine wr'<|Vw (Zat ZhA)<|mw<|E' (Zai lk cv gx rfl nb rfl Zch hs2) ptn<|mr<|Zah<|Zae (rsn (rm1 (rr_c gt gx (ld1 ZbY rfl)) (rm1 (rr_t gt) rm0)))<|rtW'<|?_
  have hE:patE t p=Zbd (outT t p):=by rw[patE,if_neg (by unfold offP;omega),if_neg om]
  rw[patV,if_neg (by rw[hE];exact hc3),hE]
  exact Wk.tup (wkw hz (wk1 rfl wk0))
 refine za<|wr'<|Vw (Zag lk gx ZbY rfl)<|E' (Zai lk cv gx rfl nb rfl Zch hs2) ptn<|mr<|Zae (rsn (rm1 (rr_c gt gx (ld1 ZbY rfl)) (rm1 (rr_t gt) rm0)))<|rtW'<|?_
 have hE:patE t p=0:=by rw[patE,if_neg (by unfold offP;omega),if_neg om];exact Decidable.of_not_not hc3
 rw[patV,if_pos hE,hE]
 exact Wk.refl _
def appE (t:Tab) (p:Pat):Int:=if Zbd t≠0 then Zbd t else patE t p
def appV (t:Tab) (p:Pat):Tab:=if Zbd t≠0 then Zfr else patV t p
end
section
open Go.ChangeShapes Go.WideShapes Go.ChangeAt Go.RowKit
theorem own:ownKnob Tryz.prog.godebug=none:=by kernel_rfl
theorem laidOut:laidOutB Tryz.prog=true:=by kernel_rfl
theorem ZfZ {H:Type}{enc:TypeId×Value→H}{P:Program}(hl:laidOutB P=true) {W W':World}(hb:Below W.heap.size W W') :
  ∀ (ts:List TypeId) (vs:List Value) (ds:List (DataW H)) (ps:List MemPlace),(ts.all fun t=>P.readableRec t&&decide (t<P.types.size))=true→(∀ x∈ps,x.block<W.heap.size) →
   DataW.TrodAll enc P W 0 (fun _=>true) true ts vs ds ps→DataW.TrodAll enc P W' 0 (fun b=>decide (b<W.heap.size)) true ts vs ds ps
 | [],[],[],ps,_,_,h=>h
 | t::ts,v::vs,d::ds,ps,hr,hlt,h=>by
  obtain⟨p,q,h1,h2,rfl⟩:=h
  simp only[List.all_cons,Bool.and_eq_true,decide_eq_true_eq] at hr
  exact⟨p,q,Below.trod hl hr.1.1 hr.1.2 h1 hb (fun x hx=>hlt x (List.mem_append.2 (.inl hx))),
   ZfZ hl hb ts vs ds q hr.2 (fun x hx=>hlt x (List.mem_append.2 (.inr hx))) h2,rfl⟩
 | [],_::_,_,_,_,_,h=>by simp[DataW.TrodAll] at h
 | [],[],_::_,_,_,_,h=>by simp[DataW.TrodAll] at h
 | _::_,[],_,_,_,_,h=>by simp[DataW.TrodAll] at h
 | _::_,_::_,[],_,_,_,h=>by simp[DataW.TrodAll] at h
theorem law_post {H:Type}{enc:TypeId×Value→H}{P:Program}{f:Func}{s:ChangeSpec}{handsOn fresh:Bool}{W W':World}{args:Array Value}{ds gs:List (DataW H)}{before:List MemPlace}{tb:TypeId}
  (hl:laidOutB P=true) (hts:(f.params.toList.all fun t=>P.readableRec t&&decide (t<P.types.size))=true)
  (hrt:f.resultTypes = #[tb]) (htb:P.underlying tb=some .bool) (hvars:s.vars=[])
  (hs:s.fn H ds={ results:=[.lit (.bool true)],args:=ds })
  (hW:DataW.Whole enc P f.params.toList s.vars false W args.toList ds gs before) (hb:Below W.heap.size W W') :
  s.post enc P f false fresh handsOn false W args (.bool true) W':=by
 have hW':=hW
 obtain⟨p,q,hA,hV,rfl,_,_⟩:=hW
 rw[hvars] at hV
 obtain⟨rfl,rfl⟩:=trodVars_none hV
 have hlt : ∀ x∈p,x.block<W.heap.size:=fun x hx=>by simpa using hW'.lt x (List.mem_append.2 (.inl hx))
 have e1:s.fn H (ds++[])={ results:=[.lit (.bool true)],args:=ds }:=by simpa using hs
 refine⟨ds,[],p++[],[],p,[],hW',?_,?_,?_,hb.frame _,fun h=>by cases h⟩
 ·rw[e1,hrt];exact trodAll_mk1 (shut_bool htb _)
 ·rw[e1];exact ZfZ hl hb _ _ _ _ hts hlt hA
 ·rw[e1,hvars];exact rfl
end
section
open Go.ChangeShapes Go.WideShapes Go.ChangeAt Go.RowKit Go.Deep Go.Ab
inductive Ds where
 | int | str | bool
 | pair (a b:Ds)
 | slice (a:Ds)
@[reducible] def El:Ds→Type
 | .int=>Int
 | .str=>ByteArray
 | .bool=>Bool
 | .pair a b=>El a×El b
 | .slice a=>List (El a)
def Ds.size:Ds→Nat
 | .pair a b=>a.size+b.size
 | _=>1
theorem Ds.size_pos (d:Ds):0<d.size:=by
 induction d with
 | pair a b iha ihb=>simp only[Ds.size];omega
 | _=>simp[Ds.size]
def Rd (w:World) (B:Nat):(d:Ds)→List Value→El d→Prop
  | .int,cs,n=>cs=[.int .i64 n] ∧ -9223372036854775808≤n∧n≤9223372036854775807
  | .str,cs,s=>cs=[.string s]∧s.size≤maxLen
  | .bool,cs,b=>cs=[.bool b]
  | .pair a b,cs,p => ∃ c1 c2,cs=c1++c2∧Rd w B a c1 p.1∧Rd w B b c2 p.2
  | .slice a, cs, l => ∃ A c, cs = [.slice A l.length c] ∧ l.length ≤ c ∧ c ≤ maxLen ∧ (A = none → c = 0) ∧
      (0<l.length → ∃ b off,A=some ⟨b,off,none⟩∧b<B ∧ ∀ k (h:k<l.length),∃ r,(∀ j v,r[j]?=some v→w.cell? ⟨b,off+k*a.size+j,none⟩=some v)∧Rd w B a r l[k])
theorem Rd.length {w:World}{B:Nat} : ∀ {d:Ds}{cs:List Value}{x:El d},Rd w B d cs x→cs.length=d.size
 | .int,cs,x,h=>by rw[h.1];rfl
 | .str,cs,x,h=>by rw[h.1];rfl
 | .bool,cs,x,h=>by rw[show cs=_ from h];rfl
 | .pair a b,cs,x,⟨c1,c2,e,h1,h2⟩=>by rw[e,List.length_append,Rd.length h1,Rd.length h2];rfl
 | .slice a,cs,x,⟨A,c,e,_⟩=>by rw[e];rfl
theorem Rd.keep {w w':World}{B B':Nat}(hk : ∀ p:Addr,p.block<B→w'.cell? p=w.cell? p) (hB:B≤B') : ∀ {d:Ds}{cs:List Value}{x:El d},Rd w B d cs x→Rd w' B' d cs x
  | .int,cs,x,h=>h
  | .str,cs,x,h=>h
  | .bool,cs,x,h=>h
  | .pair a b,cs,x,⟨c1,c2,e,h1,h2⟩=>⟨c1,c2,e,Rd.keep hk hB h1,Rd.keep hk hB h2⟩
  | .slice a, cs, x, ⟨A, c, e, hl, hm, hA0, h⟩ => ⟨A, c, e, hl, hm, hA0, fun h0 => by
      obtain⟨b,off,hA,hb,hi⟩:=h h0
      refine⟨b,off,hA,by omega,fun k hk'=>?_⟩
      obtain⟨r,hc,hr⟩:=hi k hk'
      exact⟨r,fun j v hv=>(hk _ hb).trans (hc j v hv),Rd.keep hk hB hr⟩⟩
theorem Rd.below {w w':World}{B:Nat}{d:Ds}{cs:List Value}{x:El d}(h:Rd w B d cs x) (hb:Below B w w'):Rd w' B d cs x:=h.keep (fun p hp=>hb.cell hp) (Nat.le_refl _)
theorem Rd.more {w:World}{B B':Nat}{d:Ds}{cs:List Value}{x:El d}(h:Rd w B d cs x) (hB:B≤B'):Rd w B' d cs x:=h.keep (fun p hp=>rfl) hB
def ZnV (P:Program) (f:TypeId→Ds→Bool):List Field→Nat→Ds→Bool
 | [],_,_=>false
 | fd::fs,off,d=>match fs with
  | []=>fd.offset==off&&P.cellsOf fd.type==d.size&&f fd.type d
  | _::_=>match d with
   | .pair a b=>fd.offset==off&&P.cellsOf fd.type==a.size&&f fd.type a&&ZnV P f fs (off+a.size) b
   | _=>false
def fits (P:Program):Nat→TypeId→Ds→Bool
 | 0,_,_=>false
 | n+1,t,d =>
  match P.underlying t with
  | some (.int .i64)=>match d with
   | .int=>true
   | _=>false
  | some .string=>match d with
   | .str=>true
   | _=>false
  | some .bool=>match d with
   | .bool=>true
   | _=>false
  | some (.slice e)=>match d with
   | .slice a=>P.cellsOf e==a.size&&fits P n e a
   | _=>false
  | some (.struct fs)=>P.cellsOf t==d.size&&ZnV P (fits P n) fs.toList 0 d
  | _=>false
section
variable {H : Type} {enc : TypeId × Value → H} {P : Program} {w : World} {base : Nat} {spare : Nat → Bool} {held : Bool}
theorem ZlI {w:World}{a:Addr}{v:Value}(h:w.cell? a=some v):a.spot=none:=by
 unfold World.cell? at h
 split at h
 ·split at h
  ·cases h
  ·rename_i hs;simpa using hs
 ·cases h
theorem Zup {α β:Type}{Q:Nat→β→α→Prop} : ∀ (n:Nat),(∀ i,i<n → ∃ r y,Q i r y) → ∃ l:List α,l.length=n ∧ ∀ i (h:i<l.length),∃ r,Q i r l[i]
 | 0,_=>⟨[],rfl,fun i h=>absurd h (by simp)⟩
 | n+1,h=>by
  obtain⟨l,hl,hq⟩:=Zup n (fun i hi=>h i om)
  obtain⟨r,y,hy⟩:=h n om
  refine⟨l++[y],by simp[hl],fun i hi=>?_⟩
  by_cases hin:i<l.length
  ·obtain⟨r',h'⟩:=hq i hin
   exact⟨r',by rw[List.getElem_append_left hin];exact h'⟩
  ·obtain rfl:i=n:=by simp at hi;omega
   exact⟨r,by rw[List.getElem_append_right om];simpa [hl] using hy⟩
theorem Ze7 : ∀ (n:Nat) (t:TypeId) (d:Ds) (fuel:Nat) (cs:List Value) (x:DataW H×List MemPlace),fits P n t d=true→DataW.trod enc P w base spare held fuel t cs=some x → ∃ e:El d,Rd w w.heap.size d cs e
  | 0,t,d,fuel,cs,x,hf,h=>by simp[fits] at hf
  | n+1,t,d,fuel,cs,x,hf,h=>by
    unfold fits at hf
    split at hf
    · rename_i hu
      split at hf <;> try (cases hf;done)
      obtain⟨m,rfl,_,hw⟩:=DataW.trod_int hu h
      exact⟨m,rfl,by simpa [Lit.wf,IntKind.min,IntKind.max,IntKind.signed,IntKind.bits] using hw⟩
    · rename_i hu
      split at hf <;> try (cases hf;done)
      obtain⟨s,rfl,_,hw⟩:=DataW.trod_string hu h
      exact⟨s,rfl,hw⟩
    · rename_i hu
      split at hf <;> try (cases hf;done)
      obtain⟨b,rfl,_⟩:=DataW.trod_bool hu h
      exact⟨b,rfl⟩
    · rename_i e hu
      split at hf <;> try (cases hf;done)
      rename_i a
      simp only[Bool.and_eq_true,beq_iff_eq] at hf
      rcases open_slice hu h with ⟨rfl,_⟩ | ⟨ad,len,cap,m,k,D,Pl,rfl,hb,hl,hm,hmm,_,hi⟩
      · exact⟨([]:List (El a)),none,0,rfl,Nat.le_refl _,by unfold maxLen;omega,fun _=>rfl,fun h0=>absurd h0 (by simp)⟩
      · have hlm:len≤m:=by rw[hmm];split <;> omega
        have hex : ∀ i,i<len → ∃ (r:List Value) (y:El a),(∀ j v,r[j]?=some v→w.cell? ((ad.add (i*a.size)).add j)=some v)∧r.length=a.size∧Rd w w.heap.size a r y:=by
          intro i hil
          obtain⟨cs',hc,ht⟩:=hi i om
          rw[hf.1] at hc
          obtain⟨_,hcl,hat⟩:=World.cells?_some hc
          obtain⟨y,hy⟩:=Ze7 n e a k cs' _ hf.2 ht
          exact⟨cs',y,fun j v hv=>by rw[hat j (by have:=(List.getElem?_eq_some_iff.1 hv).1;omega)];exact hv,hcl,hy⟩
        obtain⟨l,hll,hl2⟩:=Zup len hex
        refine⟨l,some ad,cap,by rw[hll],by omega,hm,fun h=>(by cases h),fun h0=>?_⟩
        obtain⟨r0,hr0,hl0,_⟩:=hl2 0 h0
        have hp:=a.size_pos
        have hc0:=hr0 0 r0[0] (List.getElem?_eq_getElem om)
        have hsp:ad.spot=none:=by
          have:=ZlI hc0
          simpa [Addr.add] using this
        obtain⟨b,off,sp⟩:=ad
        simp only at hsp
        subst hsp
        refine⟨b,off,rfl,?_,fun k' hk'=>?_⟩
        · have:=block_lt_of_cell hc0
          simpa [Addr.add] using this
        · obtain⟨r,hr1,_,hr2⟩:=hl2 k' hk'
          exact⟨r,fun j v hv=>by have:=hr1 j v hv;simpa [Addr.add_lit] using this,hr2⟩
    · rename_i fs hu
      simp only[Bool.and_eq_true,beq_iff_eq] at hf
      obtain⟨xs,m,_,_,hcl,hxl,hat⟩:=DataW.trod_struct hu h
      have key : ∀ (l : List Field) (off i : Nat) (d : Ds) (cs' : List Value), ZnV P (fits P n) l off d = true → cs'.length = d.size → cs.drop off = cs' → (∀ (j : Nat) (f : Field), l[j]? = some f → fs.toList[i + j]? = some f) →
          ∃ e:El d,Rd w w.heap.size d cs' e:=by
        intro l
        induction l with
        | nil=>intro off i d cs' hg;simp[ZnV] at hg
        | cons f l ih =>
          intro off i d cs' hg hcl' hd hj
          have hfi:fs[i]?=some f:=by have:=hj 0 f rfl;simpa using this
          have hlt:i<xs.length:=by rw[hxl];exact (Array.getElem?_eq_some_iff.1 hfi).1
          have ht:=hat i f hfi
          rw[List.getElem?_eq_getElem hlt] at ht
          cases l with
          | nil =>
            simp only[ZnV,Bool.and_eq_true,beq_iff_eq] at hg
            rw[hg.1.1,hg.1.2,hd,List.take_of_length_le om] at ht
            exact Ze7 n f.type d m cs' _ hg.2 ht
          | cons g l =>
            cases d with
            | pair a b =>
              simp only[ZnV,Bool.and_eq_true,beq_iff_eq] at hg
              obtain⟨⟨⟨g1,g2⟩,g3⟩,g4⟩:=hg
              rw[g1,g2,hd] at ht
              obtain⟨e1,he1⟩:=Ze7 n f.type a m _ _ g3 ht
              obtain⟨e2,he2⟩:=ih (off+a.size) (i+1) b (cs'.drop a.size) g4 (by rw[List.length_drop,hcl'];simp[Ds.size]) (by rw[←hd,List.drop_drop]) (fun j f' hf'=>by have:=hj (j+1) f' (by simpa using hf');rw[←this];congr 1;omega)
              exact⟨(e1,e2),cs'.take a.size,cs'.drop a.size,(List.take_append_drop _ _).symm,he1,he2⟩
            | _=>simp[ZnV] at hg
      exact key fs.toList 0 0 _ cs hf.2 (by rw[hcl,hf.1]) (by simp) (fun j f' hf'=>by simpa using hf')
    · cases hf
theorem rd_arg {d:Ds}{t:TypeId}{v:Value}{x:DataW H}{p:List MemPlace}(hf:fits P 20 t d=true) (h:DataW.Trod enc P w base spare held t v x p) : ∃ e:El d,Rd w w.heap.size d v.cells.toList e:=by
 obtain⟨fuel,hf'⟩:=h
 exact Ze7 20 t d fuel _ _ hf hf'
end
def avs:(d:Ds)→El d→List AV
 | .int,n=>[iv n]
 | .str,s=>[sv s]
 | .bool,b=>[bv b]
 | .pair a b,p=>avs a p.1++avs b p.2
 | .slice a,l=>[.sl (List.length l) a.size false (rows (avs a) l)]
theorem Zlg : ∀ (d:Ds) (x:El d),(avs d x).length=d.size
 | .int,_=>rfl
 | .str,_=>rfl
 | .bool,_=>rfl
 | .pair a b,p=>by simp only[avs,List.length_append,Zlg a,Zlg b,Ds.size]
 | .slice a,l=>rfl
def okD:(d:Ds)→El d→Prop
 | .int,n => -9223372036854775808≤n∧n≤9223372036854775807
 | .str,s=>ByteArray.size s≤maxLen
 | .bool,_=>True
 | .pair a b,p=>okD a p.1∧okD b p.2
 | .slice a,l => ∀ (k:Nat) (h:k<List.length l),okD a (l[k])
theorem Rd.ok {w:World}{B:Nat} : ∀ {d:Ds}{cs:List Value}{x:El d},Rd w B d cs x→okD d x
 | .int,cs,x,h=>h.2
 | .str,cs,x,h=>h.2
 | .bool,cs,x,h=>trivial
 | .pair a b,cs,x,⟨c1,c2,e,h1,h2⟩=>⟨Rd.ok h1,Rd.ok h2⟩
 | .slice a,cs,x,⟨A,c,e,hl,hm,h0,h⟩=>fun k hk=>by
  obtain⟨b,off,_,_,hi⟩:=h om
  obtain⟨r,_,hr⟩:=hi k hk
  exact Rd.ok hr
theorem RepC.append {w:World}{g:Gh} : ∀ {cs ds:List AV}{b off:Nat},RepC w g cs b off→RepC w g ds b (off+cs.length)→RepC w g (cs++ds) b off
 | [],ds,b,off,_,h=>by simpa using h
 | c::cs,ds,b,off,h,k=>by
  simp only[RepC,List.cons_append] at h ⊢
  refine⟨h.1,RepC.append h.2 ?_⟩
  rw[show off+1+cs.length=off+(c::cs).length by simp;omega]
  exact k
theorem RepC.of_list {w:World}{g:Gh}{b:Nat} : ∀ {cs:List AV}{us:List Value}{off:Nat},RepL w g cs us→(∀ j v,us[j]?=some v→w.cell? ⟨b,off+j,none⟩=some v)→RepC w g cs b off
 | [],us,off,_,_=>by simp only[RepC]
 | c::cs,us,off,h,k=>by
  simp only[RepL] at h
  obtain⟨u,us',rfl,h1,h2⟩:=h
  simp only[RepC]
  refine⟨⟨u,k 0 u rfl,h1⟩,RepC.of_list h2 fun j v hv=>?_⟩
  have:=k (j+1) v (by simpa using hv)
  rw[show off+1+j=off+(j+1) by omega]
  exact this
theorem Zpl {w:World}{B:Nat}{g:Gh}(hg : ∀ k,k<B→g.D k) : ∀ (d:Ds) (cs:List Value) (x:El d),Rd w B d cs x→RepL w g (avs d x) cs
 | .int,cs,x,h=>by rw[h.1];simp only[avs,RepL];exact⟨_,[],rfl,by simp only[Rep],rfl⟩
 | .str,cs,x,h=>by rw[h.1];simp only[avs,RepL];exact⟨_,[],rfl,by simp only[Rep],rfl⟩
 | .bool,cs,x,h=>by rw[show cs=_ from h];simp only[avs,RepL];exact⟨_,[],rfl,by simp only[Rep],rfl⟩
 | .pair a b,cs,x,⟨c1,c2,e,h1,h2⟩=>by rw[e];simp only[avs];exact (Zpl hg a c1 x.1 h1).append (Zpl hg b c2 x.2 h2)
 | .slice a,cs,l,⟨A,c,e,hl,hm,h0,h⟩=>by
  rw[e]
  simp only[avs,RepL]
  refine⟨_,[],rfl,?_,rfl⟩
  simp only[Rep]
  refine⟨Zbk (Zlg a) l,A,c,rfl,hl,hm,fun h=>(by cases h),h0,fun hne=>?_⟩
  have hpos:0<List.length l:=by
   rcases Nat.eq_zero_or_pos (List.length l) with h' | h'
   ·have:l=[]:=List.eq_nil_of_length_eq_zero h'
    subst this;exact absurd rfl hne
   ·exact h'
  obtain⟨b,off,eA,hb,hi⟩:=h hpos
  refine⟨b,off,eA,hg b hb,?_⟩
  have key : ∀ (m:List (El a)) (o:Nat),(∀ k (hk:k<m.length),∃ r,(∀ j v,r[j]?=some v→w.cell? ⟨b,o+k*a.size+j,none⟩=some v)∧RepL w g (avs a m[k]) r)→RepC w g (rows (avs a) m) b o:=by
   intro m
   induction m with
   | nil=>intro o _;simp only[rows,List.flatMap_nil,RepC]
   | cons x m ih =>
    intro o hm'
    simp only[rows,List.flatMap_cons]
    obtain⟨r,hr1,hr2⟩:=hm' 0 (by simp)
    refine RepC.append (RepC.of_list hr2 fun j v hv=>by have:=hr1 j v hv;simpa using this) ?_
    rw[Zlg]
    refine ih (o+a.size) fun k hk=>?_
    obtain⟨r,hr1,hr2⟩:=hm' (k+1) (by simpa using hk)
    refine⟨r,fun j v hv=>?_,by simpa using hr2⟩
    have:=hr1 j v hv
    rw[show o+a.size+k*a.size+j=o+(k+1)*a.size+j by rw[Nat.add_mul];omega]
    exact this
  exact key l off fun k hk=>by
   obtain⟨r,hr1,hr2⟩:=hi k hk
   exact⟨r,hr1,Zpl hg a r _ hr2⟩
def g0 (w:World):Gh:=⟨fun k=>k<w.heap.size,fun _ _=>none,[],fun _=>False⟩
theorem sim0 (w:World) (hG:GlobW w):SimH w (g0 w) [] :=
 ⟨fun id ver ty s c h=>(by simp at h),fun i j k hi _=>by obtain⟨_,_,_,_,_,_,h,_⟩:=hi;simp at h,fun k hk=>hk,fun id ver l h=>(by simp[g0] at h),fun id ver l h=>(by simp[g0] at h),⟨hG,hG.lt⟩,fun i k o T vs h=>(by simp at h),fun i j k hi _=>by obtain⟨_,_,_,h⟩:=hi;simp at h,fun _ h=>h.elim⟩
theorem Zus {P:Program}{f:FuncId}{args:List AV}(hc:ACalls P f args [] fun x h'=>h'=[]∧x=.ret (bv true)) {w:World}(hG:GlobW w) {vs:Array Value}(hr:RepL w (g0 w) args vs.toList) :
  Calls P f vs w fun e w'=>e=.returned (.bool true)∧Below w.heap.size w w':=by
 refine (hc.2 w (g0 w) vs (sim0 w hG) hr).mono ?_
 rintro e w' ⟨x,h',g',h1,h2,h3,h4,h5,rfl,rfl⟩
 cases e <;> simp only[EndR] at h1
 simp only[Rep] at h1
 refine⟨by rw[h1],h4.os,h4.tape,h4.output,h4.size,fun k hk=>h4.block k hk ?_⟩
 rintro (⟨i,_,_,_,_,_,_,h,_⟩ | ⟨i,_,_,_,h⟩) <;> simp at h
section
variable {H : Type} {enc : TypeId × Value → H} {P : Program} {w : World} {base : Nat} {spare : Nat → Bool} {held : Bool}
theorem ZjX (d:Ds) {t:TypeId}{v:Value}{x:DataW H}{p:List MemPlace}{fs:Array Field}{r:Reach}{b:Nat}(ht:P.underlying t=some (.struct fs)) (hf:fits P 20 t d=true) (hv:Value.okWide P w r b t v) (h:DataW.Trod enc P w base spare held t v x p) :
  ∃ e:El d,okD d e∧Rep w (g0 w) (.agg (avs d e)) v:=by
 obtain⟨e,he⟩:=rd_arg hf h
 obtain⟨cs,rfl,_⟩:=okWide_struct ht hv
 refine⟨e,he.ok,?_⟩
 simp only[Rep]
 exact⟨cs,rfl,Zpl (fun k hk=>hk) d _ e he⟩
end
theorem repL1 {w:World}{g:Gh}{c:AV}{v:Value}{cs:List AV}{vs:List Value}(h:Rep w g c v) (hs:RepL w g cs vs):RepL w g (c::cs) (v::vs):=by simp only[RepL];exact⟨v,vs,rfl,h,hs⟩
theorem repL0 {w:World}{g:Gh}:RepL w g [] []:=by simp only[RepL]
end
section
open Go.Ab Civ
theorem Zu3 : ∀ (l m:List Chg),l.take (com l m)=m.take (com l m)
 | a::l,b::m=>by
  unfold com
  split
  ·rename_i h
   rw[List.take_succ_cons,List.take_succ_cons,Zu3 l m,h]
  ·rfl
 | [],m=>by simp[com]
 | _::_,[]=>by simp[com]
theorem diffE_0 {t u:Tab}(h:Zra t u=0):Zbd t=0∧Zbd u=0:=by
 unfold Zra at h
 split at h
 ·rename_i h1;exact absurd h h1
 ·rename_i h1;exact⟨Decidable.of_not_not h1,h⟩
theorem diffE_of {t u:Tab}(h:Zbd t=0) (k:Zbd u=0):Zra t u=0:=by rw[Zra,if_neg (by simpa using h)];exact k
theorem leads {t u:Tab}(h:Zra t u=0):appE t (Zmt t u)=0∧appV t (Zmt t u)=u:=by
 obtain⟨h1,h2⟩:=diffE_0 h
 have hd:=hd_le t u
 have tl:=tl_le t u
 have hl2:=ZcO h2
 rw[Zmt,if_pos h]
 have e1:t.2.take (hdOf t u)=u.2.take (hdOf t u):=Zu3 _ _
 have e2:t.2.drop (t.2.length-tlOf t u)=u.2.drop (u.2.length-tlOf t u):=by
  have:=Zu3 (t.2.drop (hdOf t u)).reverse (u.2.drop (hdOf t u)).reverse
  have h3:(t.2.drop (hdOf t u)).reverse.take (tlOf t u)=(u.2.drop (hdOf t u)).reverse.take (tlOf t u):=this
  rw[List.take_reverse,List.take_reverse,List.reverse_inj,List.drop_drop,List.drop_drop,List.length_drop,List.length_drop] at h3
  rw[show hdOf t u+(t.2.length-hdOf t u-tlOf t u)=t.2.length-tlOf t u by omega,show hdOf t u+(u.2.length-hdOf t u-tlOf t u)=u.2.length-tlOf t u by omega] at h3
  exact h3
 have hoff:¬offP t (ZcI t u):=by simp only[offP,ZcI];omega
 have hout:outT t (ZcI t u)=u:=by
  refine Prod.ext rfl ?_
  simp only[outT,ZcI,List.flatten_cons,List.flatten_nil,List.append_nil,Int.toNat_natCast]
  rw[show ((t.2.length:Int)-(tlOf t u:Int)).toNat=t.2.length-tlOf t u by omega,e1,e2]
  have e3:(u.2.take (u.2.length-tlOf t u))=u.2.take (hdOf t u)++(u.2.take (u.2.length-tlOf t u)).drop (hdOf t u):=by
   conv=>lhs;rw[←List.take_append_drop (hdOf t u) (u.2.take (u.2.length-tlOf t u))]
   rw[List.take_take,Nat.min_eq_left om]
  rw[←List.append_assoc,←e3,List.take_append_drop]
 have hput:¬1000<(ZcI t u).2.2.2.length:=by simp only[ZcI,List.length_drop,List.length_take];omega
 have hE:patE t (ZcI t u)=0:=by rw[patE,if_neg hoff,if_neg hput,hout];exact h2
 exact⟨by rw[appE,if_neg (by simpa using h1)];exact hE,by rw[appV,if_neg (by simpa using h1),patV,if_pos hE,hout]⟩
abbrev LocD:Ds:=.pair .int (.pair .int .str)
abbrev ChgD:Ds:=.pair .int LocD
abbrev TabD:Ds:=.pair LocD (.slice ChgD)
theorem okT_of {t:El TabD}(h:okD TabD t):okT t:=⟨h.1.2.2,fun x hx=>by
 obtain⟨i,hi,rfl⟩:=List.getElem_of_mem hx
 exact (h.2 i hi).2.2.2⟩
end
section
open Go.Ab
abbrev TS:=List ByteArray×Bool
def bind2 {α β:Type}(f:TS→α×TS) (k:α→TS→β×TS) (t:TS):β×TS:=k (f t).1 (f t).2
def ret2 {α:Type}(a:α) (t:TS):α×TS:=(a,t)
abbrev RM (α:Type):=List ByteArray→Option (α×List ByteArray)
def bindR {α β:Type}(f:RM α) (k:α→RM β):RM β:=fun l=>match f l with
 | none=>none
 | some p=>k p.1 p.2
def retR {α:Type}(a:α):RM α:=fun l=>some (a,l)
def Agr {α:Type}(f:TS→α×TS) (g:RM α):Prop := ∀ l,(f (l,true)).2.2=true∧match g l with
 | none=>(f (l,false)).2.2=true
 | some p=>f (l,false)=(p.1,p.2,false)
theorem Agr.bind {α β:Type}{f:TS→α×TS}{g:RM α}{k:α→TS→β×TS}{m:α→RM β}(h:Agr f g) (hk : ∀ a,Agr (k a) (m a)):Agr (bind2 f k) (bindR g m):=by
 have stay : ∀ (a:α) (t:TS),t.2=true→(k a t).2.2=true:=by
  rintro a ⟨l,b⟩ rfl;exact (hk a l).1
 intro l
 refine⟨stay _ _ (h l).1,?_⟩
 have h2:=(h l).2
 unfold bindR bind2
 revert h2
 cases hg:g l with
 | none=>exact fun h2=>stay _ _ h2
 | some p=>intro h2;simp only at h2;rw[h2];exact (hk p.1 p.2).2
theorem Agr.ret {α:Type}(a:α):Agr (ret2 a) (retR a):=fun l=>⟨rfl,rfl⟩
end
section
open Go.Ab Go.RowKit Civ
def c130:AC:=(Sr [Mb 2 false] (Sr [Mv 3 0,Oo 4 (.cvi .i64 (t 3)),Cl 5 132 [(t 4),(Ci 97),(Ci 122)],Mv 6 5,Of 7 6 (mt 0),Of 8 6 (.cvi .i64 (t 7)),Of 9 6 (.call (.func 132) [(t 8),(Ci 65),(Ci 90)]),Oo 10 (.pick (t 6) (.const (.bool true)) (t 9)),Mv 2 10] .ret))
theorem k130:Zaw Tryz.prog 130=some ⟨c130,[(.tmp 2)],11⟩:=by kernel_rfl
def c131:AC:=(Sr [Mb 2 false] (Sr [Mv 3 0,Oo 4 (.cvi .i64 (t 3)),Cl 5 132 [(t 4),(Ci 48),(Ci 57)],Mv 2 5] .ret))
theorem k131:Zaw Tryz.prog 131=some ⟨c131,[(.tmp 2)],6⟩:=by kernel_rfl
def c206:AC:=(Sr [Mb 2 false] (.seq (Sr [Mc 3 0] (.block 0 (.loop (.seq (Sr [Mv 4 3,Mv 5 0,Oo 6 (.len true (t 5)),Bn 7 .lss 4 6] (Cd 7 .skip (.exit 0))) (.seq (.block 1 (Sr [Mv 10 0,Mv 11 3,Oo 12 (.ix (t 10) (t 11)),Cl 13 130 [(t 12)],Oo 14 (.un .not (t 13)),Mv 15 14,Ot 16 15 (mt 0),Ot 17 15 (mt 3),Ot 18 15 (.ix (t 16) (t 17)),Ot 19 15 (.call (.func 131) [(t 18)]),Ot 20 15 (.un .not (t 19)),Oo 21 (.pick (t 15) (t 20) (.const (.bool false))),Mv 22 21,Ot 23 22 (mt 0),Ot 24 22 (mt 3),Ot 25 22 (.ix (t 23) (t 24)),Ot 26 22 (.bin .neq (t 25) (.const (.int .u8 43))),Oo 27 (.pick (t 22) (t 26) (.const (.bool false))),Mv 28 27,Ot 29 28 (mt 0),Ot 30 28 (mt 3),Ot 31 28 (.ix (t 29) (t 30)),Ot 32 28 (.bin .neq (t 31) (.const (.int .u8 45))),Oo 33 (.pick (t 28) (t 32) (.const (.bool false)))] (Cd 33 (Sr [Mb 2 false] .ret) .skip))) (.reg [Mv 8 3,Bc 9 .add 8 1,Mv 3 9])))))) (Sr [Mb 2 true] .ret)))
theorem k206:Zaw Tryz.prog 206=some ⟨c206,[(.tmp 2)],34⟩:=by kernel_rfl
theorem Znt {n:Int}{h:AH}(h0:0≤n) (h1:n≤255):Ac 130 [uv n] h (bv (letB n)):=by
 refine tI' k130 fun N hn _ _ hbd=>?_
 simp only[tb'] at hbd ⊢
 refine wk'<|wm<|?_
 refine V' (Zm8 lk om om) pt ?_
 refine Zad mp (Zek) pt<|mw<|?_
 refine Za6 (t:=6) gt pt pt (fun hg6=>?_) (fun hg6=>?_)
 ·refine so<|so<|so<|Vw (Zal lk lkb)<|mr<|Zae rz<|rT'<|?_
  refine bvx ?_;unfold wi at *;unfold letB;rw[Bool.eq_iff_iff];simp at *;omega
 refine sd<|mw<|sd<|?_
 refine V' (Zm8 lk om om) pt ?_
 refine sd<|Zad mp (Zek) pt<|Vw (Zaj lk lk)<|mr<|Zae rz<|rT'<|?_
 refine bvx ?_;unfold wi at *;unfold letB;rw[Bool.eq_iff_iff];simp at *;omega
theorem ZqM {n:Int}{h:AH}(h0:0≤n) (h1:n≤255):Ac 131 [uv n] h (bv (digB n)):=by
 refine tI' k131 fun N hn _ _ hbd=>?_
 simp only[tb'] at hbd ⊢
 refine wk'<|wm<|?_
 refine V' (Zm8 lk om om) pt ?_
 refine Zad mp (Zek) pt<|mr<|Zae rz<|rT'<|?_
 refine bvx ?_;unfold wi digB;rw[Bool.eq_iff_iff];simp
theorem byte_bd (s:ByteArray) (k:Nat):(0:Int)≤((ZbU s k).toNat:Int)∧((ZbU s k).toNat:Int)≤255:=by
 have:=(ZbU s k).toNat_lt
 omega
theorem Zns {s:ByteArray}{h:AH}(hs:s.size≤maxLen):Ac 206 [sv s] h (bv (allB ZbP s)):=by
 have hm:s.size≤9223372036854775807:=by simpa [maxLen] using hs
 refine tI' k206 fun N hn _ _ hbd=>?_
 simp only[tb'] at hbd ⊢
 refine wk'<|Zac<|wk'<|Zaf<|?_
 refine w_lp (ι:=Nat) (fun (k:Nat)=>[(3,iv (k:Int)),(2,.any)]++rn' 4 30) (fun (k:Nat)=>[]) (fun (k:Nat)=>k≤s.size ∧ ∀ j (hj:j<s.size),j<k→ZbP s[j].toNat=true) (fun (k:Nat)=>s.size-k) (0) (by exact⟨by omega,fun j hj h0=>absurd h0 om⟩) ?_
 rintro k hi1
 try simp only[sm',Nat.reduceAdd]
 obtain⟨hk1,hk2⟩:=hi1
 refine Zac<|wm<|mw<|Vw (ZcJ lk)<|Vw (ZaO lk lk)<|sn'<|?_
 refine cd' lk (fun hc1=>?_) (fun hc1=>?_)
 ·have hk:k<s.size:=by omega
  have hb:=byte_bd s k
  have hbk:ZbU s k=s[k]:=Zd5 hk
  refine za<|Zac<|Zaf<|wm<|mw<|?_
  refine V' (v_ix lk lk om om) pt ?_
  refine Zad mp (Znt hb.1 hb.2) pt<|Vw (ZaE lk)<|mw<|?_
  refine Za6 (t:=15) gt pt pt (fun hg15=>?_) (fun hg15=>?_)
  ·refine sd<|mw<|sd<|mw<|sd<|?_
   refine V' (v_ix lk lk om om) pt ?_
   refine sd<|Zad mp (ZqM hb.1 hb.2) pt<|sd<|Vw (ZaE lk)<|Vw (Zal lk lk)<|mw<|?_
   refine Za6 (t:=22) gt pt pt (fun hg22=>?_) (fun hg22=>?_)
   ·refine sd<|mw<|sd<|mw<|sd<|?_
    refine V' (v_ix lk lk om om) pt ?_
    refine sd<|Vw (Zba lk lki)<|Vw (Zal lk lk)<|mw<|?_
    refine sp' (t:=28) gt pt pt (fun hg28=>?_) (fun hg28=>?_)
    ·refine sd<|mw<|sd<|mw<|sd<|?_
     refine V' (v_ix lk lk om om) pt ?_
     refine sd<|Vw (Zba lk lki)<|Vw (Zal lk lk)<|sn'<|?_
     refine cd' lk (fun hc2=>?_) (fun hc2=>?_)
     ·refine wo<|Zaq<|Zah<|Zah<|Zaq<|Zah<|Zae rz<|rT'<|?_
      refine bvx ?_;rw[ZvD (k:=k) hk (by rw[←hbk];unfold ZbP;simp at *;simp_all)]
     refine ZaB<|Zau<|Zan<|Zap<|mw<|?_
     refine ad<|mw<|Zam<|Zaz<|?_
     refine lT' (k+1) (by (try dsimp only);refine⟨by omega,fun j hj h0=>?_⟩;rcases Nat.lt_or_ge j k with e | e;exact hk2 j hj e;obtain rfl:j=k:=om;rw[←hbk];unfold ZbP;simp_all)
    refine so<|so<|so<|so<|Vw (Zaj lk lkb)<|sn'<|Za8 lk<|ZaB<|Zau<|Zan<|Zap<|mw<|?_
    refine ad<|mw<|Zam<|Zaz<|?_
    refine lT' (k+1) (by (try dsimp only);refine⟨by omega,fun j hj h0=>?_⟩;rcases Nat.lt_or_ge j k with e | e;exact hk2 j hj e;obtain rfl:j=k:=om;rw[←hbk];unfold ZbP;simp_all)
   refine so<|so<|so<|so<|Vw (Zaj lk lkb)<|mw<|so<|so<|so<|so<|Vw (Zaj lk lkb)<|sn'<|Za8 lk<|?_
   refine ZaB<|Zau<|Zan<|Zap<|mw<|?_
   refine ad<|mw<|Zam<|Zaz<|?_
   refine lT' (k+1) (by (try dsimp only);refine⟨by omega,fun j hj h0=>?_⟩;rcases Nat.lt_or_ge j k with e | e;exact hk2 j hj e;obtain rfl:j=k:=om;rw[←hbk];unfold ZbP;simp_all)
  refine so<|so<|so<|so<|so<|Vw (Zaj lk lkb)<|mw<|so<|so<|so<|so<|Vw (Zaj lk lkb)<|mw<|so<|?_
  refine so<|so<|so<|Vw (Zaj lk lkb)<|sn'<|Za8 lk<|ZaB<|Zau<|Zan<|Zap<|mw<|?_
  refine ad<|mw<|Zam<|Zaz<|?_
  refine lT' (k+1) (by (try dsimp only);refine⟨by omega,fun j hj h0=>?_⟩;rcases Nat.lt_or_ge j k with e | e;exact hk2 j hj e;obtain rfl:j=k:=om;rw[←hbk];unfold ZbP;simp_all)
 refine Zay<|Zar<|Zar<|ZaN<|Zan<|wo<|Zae rz<|rT'<|?_
 refine bvx ?_;rw[Zqv fun j hj=>hk2 j hj om]
end
section
open Go.Ab Civ
attribute [local simp] Zbi
section
theorem Zkc {a0 a1 a2:AV}{l:List AV}:((a0::a1::a2::l).drop 0).take 3=[a0,a1,a2]:=rfl
theorem ZmF {a0 a1 a2 a3:AV}{l:List AV}:(a0::a1::a2::a3::l).take 4=[a0,a1,a2,a3]:=rfl
theorem ZoA {a0 b0:Int}{a1 b1:Int}{a2 b2:ByteArray}:Za4 [.int,.int,.str] [iv a0,iv a1,sv a2] [iv b0,iv b1,sv b2]=some (decide (a0=b0∧a1=b1∧a2=b2)):=by
 simp only[Za4,Zc3,if_true,Zb3,Option.some.injEq]
 simp only[Bool.decide_and,Bool.and_true]
 try (congr 1 <;> simp)
 try rfl
theorem ZmG {a0 b0:Int}{a1 b1:Int}{a2 b2:Int}{a3 b3:ByteArray}:Za4 [.int,.int,.int,.str] [iv a0,iv a1,iv a2,sv a3] [iv b0,iv b1,iv b2,sv b3]=some (decide (a0=b0∧a1=b1∧a2=b2∧a3=b3)):=by
 simp only[Za4,Zc3,if_true,Zb3,Option.some.injEq]
 simp only[Bool.decide_and,Bool.and_true]
 try (congr 1 <;> simp)
 try rfl
end
def c113:AC:=(Sr [Mc 0 0] (Sr [Cl 1 205 [],Bc 2 .mul 1 86400,Mv 0 2] .ret))
theorem k113:Zaw Tryz.prog 113=some ⟨c113,[(.tmp 0)],3⟩:=by kernel_rfl
def c115:AC:=(Sr [Mc 0 0] (Sr [Cl 1 207 [],Bc 2 .mul 1 86400,Bc 3 .add 2 86399,Mv 0 3] .ret))
theorem k115:Zaw Tryz.prog 115=some ⟨c115,[(.tmp 0)],4⟩:=by kernel_rfl
def c114:AC:=(Sr [Oo 1 (.box 35 3 (t 0)),Mc 2 0] (.seq (Sr [Fa 3 0 1,Ld 4 3,Cl 5 132 [(t 4),(.const (.int .i64 (-75600))),(Ci 75600)],Oo 6 (.un .not (t 5)),Mv 7 6,Of 8 7 (.fa 1 (t 1)),Of 9 7 (.load false 1 (t 8)),Of 10 7 (.call (.func 132) [(t 9),(Ci 0),(Ci 10800)]),Of 11 7 (.un .not (t 10)),Oo 12 (.pick (t 7) (.const (.bool true)) (t 11))] (Cd 12 (Sr [Mc 2 3] .ret) .skip)) (.seq (Sr [Fa 13 2 1,Ld 14 13,Oo 15 (.bin .eql (t 14) (.const (.string ⟨#[]⟩))),Mv 16 15,Of 17 16 (.fa 2 (t 1)),Of 18 16 (.load false 1 (t 17)),Of 19 16 (.len true (t 18)),Of 20 16 (.bin .gtr (t 19) (Ci 24)),Oo 21 (.pick (t 16) (.const (.bool true)) (t 20)),Mv 22 21,Of 23 22 (.fa 2 (t 1)),Of 24 22 (.load false 1 (t 23)),Of 25 22 (.call (.func 206) [(t 24)]),Of 26 22 (.un .not (t 25)),Oo 27 (.pick (t 22) (.const (.bool true)) (t 26))] (Cd 27 (Sr [Mc 2 1] .ret) .skip)) (Sr [Mc 2 0] .ret))))
theorem k114:Zaw Tryz.prog 114=some ⟨c114,[(.tmp 2)],28⟩:=by kernel_rfl
def c13:AC:=(Sr [Oo 2 (.box 38 4 (t 0)),Oo 3 (.box 38 4 (t 1)),Mb 4 false] (.seq (Sr [Fa 6 0 2,Oo 7 (.load true 3 (t 6)),Fa 8 0 3,Oo 9 (.load true 3 (t 8)),Oo 10 (.eqs true [.int,.int,.str] (t 7) (t 9)),Mv 11 10,Of 12 11 (.fa 3 (t 2)),Of 13 11 (.load false 1 (t 12)),Of 14 11 (.len false (t 13)),Of 15 11 (.fa 3 (t 3)),Of 16 11 (.load false 1 (t 15)),Of 17 11 (.len false (t 16)),Of 18 11 (.bin .neq (t 14) (t 17)),Oo 19 (.pick (t 11) (.const (.bool true)) (t 18))] (Cd 19 (Sr [Mb 4 false] .ret) .skip)) (.seq (Sr [Mc 5 0] (.block 0 (.loop (.seq (Sr [Mv 20 5,Fa 21 3 2,Ld 22 21,Oo 23 (.len false (t 22)),Bn 24 .lss 20 23] (Cd 24 .skip (.exit 0))) (.seq (.block 1 (Sd [Fa 27 3 2,Ld 28 27,Mv 29 5,Oo 30 (.ia 4 (t 28) (t 29)),Oo 31 (.load true 4 (t 30)),Fa 32 3 3,Ld 33 32,Mv 34 5,Oo 35 (.ia 4 (t 33) (t 34)),Oo 36 (.load true 4 (t 35)),Oo 37 (.eqs true [.int,.int,.int,.str] (t 31) (t 36))] (Cd 37 (Sr [Mb 4 false] .ret) .skip))) (.reg [Mv 25 5,Bc 26 .add 25 1,Mv 5 26])))))) (Sr [Mb 4 true] .ret))))
theorem k13:Zaw Tryz.prog 13=some ⟨c13,[(.tmp 4)],38⟩:=by kernel_rfl
theorem Zut {s:ByteArray}{h:AH}(hs:s.size≤maxLen:=by first | assumption | omega):Ac 206 [sv s] h (bv (allB ZbP s)):=Zns hs
theorem ZjB {h:AH}:Ac 113 [] h (iv (-62135596800)):=by
 refine tI' k113 fun N hn _ _ hbd=>?_
 simp only[tb'] at hbd ⊢
 refine wk'<|wr'<|Zad mp0 (Zpk) pt<|?_
 refine V' (ZfB lk lki om om) pt ?_
 exact mr<|Zae rz<|rT' rfl
theorem Ztv {h:AH}:Ac 115 [] h (iv 253402300799):=by
 refine tI' k115 fun N hn _ _ hbd=>?_
 simp only[tb'] at hbd ⊢
 refine wk'<|wr'<|Zad mp0 (Ztw) pt<|?_
 refine V' (ZfB lk lki om om) pt ?_
 refine V' (ZbM lk lki om om) pt ?_
 exact mr<|Zae rz<|rT' rfl
theorem Zga {a b:Int}{s:ByteArray}{h:AH}(hs:s.size≤maxLen:=by first | assumption | omega):Ac 114 [.agg [iv a,iv b,sv s]] h (iv (locE (a,b,s))):=by
 refine tI' k114 fun N hn _ _ hbd=>?_
 simp only[tb'] at hbd ⊢
 refine wr'<|E' (ZaR cv rfl hl0 ha0) pt<|ms<|Zac<|wr'<|fq<|Vw (Zaa lk gx gt0)<|Zad mp (ZbO) pt<|Vw (ZaE lk)<|mw<|?_
 refine Za6 (t:=7) gt pt pt (fun hg7=>?_) (fun hg7=>?_)
 ·refine so<|so<|so<|so<|Vw (Zal lk lkb)<|sn'<|Zbb lk<|wo<|?_
  refine Zah<|Zae rz<|rT'<|?_
  refine ivx ?_;unfold locE;simp_all [wi];try omega
 refine sd<|fq<|sd<|Vw (Zaa lk gx gt1)<|sd<|Zad mp (ZbO) pt<|sd<|Vw (ZaE lk)<|Vw (Zaj lk lk)<|sn'<|?_
 refine Zav lk (fun hc1=>?_) (fun hc1=>?_)
 ·refine wo<|Zah<|Zae rz<|rT'<|?_
  refine ivx ?_;unfold locE;simp_all [wi];try omega
 refine za<|Zac<|wr'<|fq<|Vw (Zaa lk gx gt2)<|Vw (v_eqlE lk)<|mw<|?_
 refine sp' (t:=16) gt pt pt (fun hg16=>?_) (fun hg16=>?_)
 ·refine so<|so<|so<|so<|Vw (Zal lk lkb)<|mw<|so<|so<|so<|so<|Vw (Zal lk lkb)<|sn'<|Zbb lk<|?_
  refine wo<|Zah<|Zae rz<|rT'<|?_
  refine ivx ?_;unfold locE;simp_all [wi];try omega
 refine sd<|fq<|sd<|Vw (Zaa lk gx gt2)<|sd<|Vw (ZcJ lk)<|sd<|Vw (ZbE lk lki)<|Vw (Zaj lk lk)<|mw<|?_
 refine sp' (t:=22) gt pt pt (fun hg22=>?_) (fun hg22=>?_)
 ·refine so<|so<|so<|so<|Vw (Zal lk lkb)<|sn'<|Zbb lk<|wo<|?_
  refine Zah<|Zae rz<|rT'<|?_
  refine ivx ?_;unfold locE;simp_all [wi];try omega
 refine sd<|fq<|sd<|Vw (Zaa lk gx gt2)<|sd<|Zad mp (Zut) pt<|sd<|Vw (ZaE lk)<|Vw (Zaj lk lk)<|sn'<|?_
 refine Zav lk (fun hc2=>?_) (fun hc2=>?_)
 ·refine wo<|Zah<|Zae rz<|rT'<|?_
  refine ivx ?_;unfold locE;simp_all [wi];try omega
 refine za<|wo<|Zae rz<|rT'<|?_
 refine ivx ?_;unfold locE;simp_all [wi];try omega
theorem ZlC {l m:List Chg}{k:Nat}(h1:k<l.length) (h2:k<m.length) (h:l.take k=m.take k) (he:l[k]=m[k]):l.take (k+1)=m.take (k+1):=by
 rw[List.take_succ_eq_append_getElem h1,List.take_succ_eq_append_getElem h2,h,he]
theorem Ztl {t u:Tab}{f1 f2:Bool}{h:AH} :
  Ac 13 [.agg [iv t.1.1,iv t.1.2.1,sv t.1.2.2,.sl t.2.length 4 f1 (rows chgC t.2)],.agg [iv u.1.1,iv u.1.2.1,sv u.1.2.2,.sl u.2.length 4 f2 (rows chgC u.2)]] h (bv (decide (t=u))):=by
 refine tI' k13 fun N hn _ _ hbd=>?_
 simp only[tb'] at hbd ⊢
 refine wr'<|E' (ZaR cv rfl hl0 ha0) pt<|E' (ZaR cv rfl hl1 ha1) pt<|ms<|Zac<|wr'<|fq<|Vw (Zag lk gx Zkc rfl)<|fq<|Vw (Zag lk gx Zkc rfl)<|?_
 refine Vw (ZfW lk lk ZoA)<|mw<|?_
 refine sp' (t:=11) gt pt pt (fun hg11=>?_) (fun hg11=>?_)
 ·refine so<|so<|so<|so<|so<|so<|so<|Vw (Zal lk lkb)<|sn'<|Zbb lk<|wm<|?_
  refine sr<|Zah<|Zae rz<|rT'<|?_
  refine bvx (decide_eq_false (fun e=>hg11 (by rw[e];simp))).symm
 refine sd<|fq<|sd<|Vw (Zaa lk gx gt3)<|sd<|Vw (ZaA lk)<|sd<|fq<|sd<|Vw (Zaa lk gx gt3)<|sd<|Vw (ZaA lk)<|sd<|Vw (Zba lk lk)<|?_
 refine Vw (Zaj lk lk)<|sn'<|?_
 refine cd' lk (fun hc1=>?_) (fun hc1=>?_)
 ·refine wo<|Zah<|Zae rz<|rT'<|?_
  refine bvx (decide_eq_false (fun e=>hc1 (by rw[e]))).symm
 refine za<|Zac<|wk'<|Zaf<|?_
 refine w_lp (ι:=Nat) (fun (k:Nat)=>[(5,iv (k:Int)),(4,.any)]++rn' 20 18) (fun (k:Nat)=>[]) (fun (k:Nat)=>k≤t.2.length∧t.2.length=u.2.length∧t.1=u.1∧t.2.take k=u.2.take k) (fun (k:Nat)=>t.2.length-k) (0) (by exact⟨by omega,by omega,(by obtain⟨x1,x2,x3⟩:=Decidable.of_not_not hg11;exact Prod.ext x1 (Prod.ext x2 x3)),by simp⟩) ?_
 rintro k hi1
 try simp only[sm',Nat.reduceAdd]
 obtain⟨hk1,hk2,hk3,hk4⟩:=hi1
 refine Zac<|wm<|fq<|Vw (Zaa lk gx gt3)<|Vw (ZaA lk)<|Vw (ZaO lk lk)<|sn'<|?_
 refine cd' lk (fun hc2=>?_) (fun hc2=>?_)
 ·refine za<|Zac<|Zaf<|Zac<|ZaH<|dg<|Dw (Zaa lk gx gt3)<|Dw vm<|?_
  refine D' (ZaJ lk lk Za1 nb ro om ro rfl) pt ?_
  refine Dw (Zas lk ZmF rfl)<|dg<|Dw (Zaa lk gx gt3)<|Dw vm<|?_
  refine D' (ZaJ lk lk Za1 nb ro om ro rfl) pt ?_
  refine Dw (Zas lk ZmF rfl)<|Dw (ZfW lk lk ZmG)<|ZaM<|?_
  refine Za5 ?_
  refine sn' ?_
  refine cd' lk (fun hc3=>?_) (fun hc3=>?_)
  ·refine wo<|Zaq<|Zah<|Zah<|Zaq<|Zah<|Zae rz<|rT'<|?_
   refine bvx (decide_eq_false (fun e=>hc3 (by subst e;simp))).symm
  refine ZaB<|Zau<|Zan<|Zap<|mw<|?_
  refine ad<|mw<|Zam<|Zaz<|?_
  refine lT' (k+1) (by (try dsimp only);exact⟨by omega,hk2,hk3,ZlC om om hk4 (Zoc (Decidable.of_not_not hc3))⟩)
 refine Zay<|Zar<|Zar<|ZaN<|Zan<|wo<|Zae rz<|rT'<|?_
 refine bvx (decide_eq_true ?_).symm
 rw[List.take_of_length_le om,List.take_of_length_le om] at hk4
 exact Prod.ext hk3 hk4
end
section
open Go.Ab
attribute [local simp] ZbL Zce ZbZ Zbv Zbi
section
theorem Zv4 {a0 a1 a2 a3 a4 a5 a6 a7 a8 a9 a10:AV}{l:List AV}:(a0::a1::a2::a3::a4::a5::a6::a7::a8::a9::a10::l).take 11=[a0,a1,a2,a3,a4,a5,a6,a7,a8,a9,a10]:=rfl
theorem Zlp {a0 a1:AV}{l:List AV}:(a0::a1::l).take 2=[a0,a1]:=rfl
theorem IxA_tk_4 {a0 a1 a2 a3:AV}{l:List AV}:(a0::a1::a2::a3::l).take 4=[a0,a1,a2,a3]:=rfl
end
def c239:AC:=(Sr [Mc 4 0] (.seq (Sr [Mv 6 0,Oo 7 (.len false (t 6)),Mc 8 0] (.block 0 (.loop (Sr [Bn 9 .lss 8 7] (.seq (Cd 9 .skip (.exit 0)) (.seq (.block 1 (Sr [Mv 10 8,Mv 5 10] (Sr [Mv 11 1,Mv 12 0,Mv 13 5,Oo 14 (.ia 11 (t 12) (t 13)),Oo 15 (.load true 11 (t 14)),Oo 16 (.call (t 11) [(t 15)])] (Cd 16 (Sr [Mv 17 5,Mv 4 17] .ret) .skip)))) (.reg [Bc 18 .add 8 1,Mv 8 18]))))))) (Sr [Oo 4 (.mv (.const (.int .i64 (-1))))] .ret)))
theorem k239:Zaw Tryz.prog 239=some ⟨c239,[(.tmp 4)],19⟩:=by kernel_rfl
def c165:AC:=(Sr [Mb 4 false] (Sr [Mv 5 0,Mv 6 1,Cl 7 239 [(t 5),(t 6)],Bc 8 .geq 7 0,Mv 4 8] .ret))
theorem k165:Zaw Tryz.prog 165=some ⟨c165,[(.tmp 4)],9⟩:=by kernel_rfl
def c174:AC:=(Sr [Mc 4 0] (.seq (Sr [Mv 6 0,Oo 7 (.len false (t 6)),Mc 8 0] (.block 0 (.loop (Sr [Bn 9 .lss 8 7] (.seq (Cd 9 .skip (.exit 0)) (.seq (.block 1 (Sr [Mv 10 8,Mv 5 10] (Sr [Mv 11 1,Mv 12 0,Mv 13 5,Oo 14 (.ia 2 (t 12) (t 13)),Oo 15 (.load true 2 (t 14)),Oo 16 (.call (t 11) [(t 15)])] (Cd 16 (Sr [Mv 17 5,Mv 4 17] .ret) .skip)))) (.reg [Bc 18 .add 8 1,Mv 8 18]))))))) (Sr [Oo 4 (.mv (.const (.int .i64 (-1))))] .ret)))
theorem k174:Zaw Tryz.prog 174=some ⟨c174,[(.tmp 4)],19⟩:=by kernel_rfl
def c95:AC:=(Sr [Mb 4 false] (Sr [Mv 5 0,Mv 6 1,Cl 7 174 [(t 5),(t 6)],Bc 8 .geq 7 0,Mv 4 8] .ret))
theorem k95:Zaw Tryz.prog 95=some ⟨c95,[(.tmp 4)],9⟩:=by kernel_rfl
def c87:AC:=(Sr [Mc 4 0] (.seq (Sr [Mv 6 0,Oo 7 (.len false (t 6)),Mc 8 0] (.block 0 (.loop (Sr [Bn 9 .lss 8 7] (.seq (Cd 9 .skip (.exit 0)) (.seq (.block 1 (Sr [Mv 10 8,Mv 5 10] (Sr [Mv 11 1,Mv 12 0,Mv 13 5,Oo 14 (.ia 2 (t 12) (t 13)),Oo 15 (.load true 2 (t 14)),Oo 16 (.call (t 11) [(t 15)])] (Cd 16 (Sr [Mv 17 5,Mv 4 17] .ret) .skip)))) (.reg [Bc 18 .add 8 1,Mv 8 18]))))))) (Sr [Oo 4 (.mv (.const (.int .i64 (-1))))] .ret)))
theorem k87:Zaw Tryz.prog 87=some ⟨c87,[(.tmp 4)],19⟩:=by kernel_rfl
def c162:AC:=(Sr [Mb 4 false] (Sr [Mv 5 0,Mv 6 1,Cl 7 87 [(t 5),(t 6)],Bc 8 .geq 7 0,Mv 4 8] .ret))
theorem k162:Zaw Tryz.prog 162=some ⟨c162,[(.tmp 4)],9⟩:=by kernel_rfl
def c253:AC:=(Sr [Mc 4 0] (.seq (Sr [Mv 6 0,Oo 7 (.len false (t 6)),Mc 8 0] (.block 0 (.loop (Sr [Bn 9 .lss 8 7] (.seq (Cd 9 .skip (.exit 0)) (.seq (.block 1 (Sr [Mv 10 8,Mv 5 10] (Sr [Mv 11 1,Mv 12 0,Mv 13 5,Oo 14 (.ia 4 (t 12) (t 13)),Oo 15 (.load true 4 (t 14)),Oo 16 (.call (t 11) [(t 15)])] (Cd 16 (Sr [Mv 17 5,Mv 4 17] .ret) .skip)))) (.reg [Bc 18 .add 8 1,Mv 8 18]))))))) (Sr [Oo 4 (.mv (.const (.int .i64 (-1))))] .ret)))
theorem k253:Zaw Tryz.prog 253=some ⟨c253,[(.tmp 4)],19⟩:=by kernel_rfl
theorem Zfd {α:Type}{p:α→Bool}{l:List α}{k:Nat}(hk:k<l.length) (h1:p l[k]=true) (h2 : ∀ j (hj:j<k),p (l[j]'(by omega))=false):l.findIdx p=k:=by
 have hlt:l.findIdx p<l.length:=List.findIdx_lt_length.2 ⟨_,List.getElem_mem hk,h1⟩
 rcases Nat.lt_trichotomy (l.findIdx p) k with e | e | e
 ·have a:=h2 _ e
  have b:=List.findIdx_getElem (w:=hlt)
  rw[a] at b;cases b
 ·exact e
 have:=List.not_of_lt_findIdx e
 rw[h1] at this;cases this
def idxV {α:Type}(p:α→Bool) (l:List α):Int:=if l.findIdx p<l.length then (l.findIdx p:Int) else -1
theorem Zeq {α:Type}(p:α→Bool) (l:List α):decide (0≤idxV p l)=l.any p:=by
 unfold idxV
 rw[Bool.eq_iff_iff,decide_eq_true_iff,List.any_eq_true]
 split
 ·rename_i h
  exact⟨fun _=>⟨_,List.getElem_mem h,List.findIdx_getElem (w:=h)⟩,fun _=>by omega⟩
 rename_i h
 constructor
 ·intro h2;omega
 rintro⟨x,hx,hp⟩;exact absurd (List.findIdx_lt_length.2 ⟨x,hx,hp⟩) h
theorem Zux {α:Type}{p:α→Bool}{l:List α}:idxV p l<0↔l.any p=false:=by
 rw[←Zeq];simp
theorem ixRulC_a {p:Rul→Bool}{f:FuncId}{caps:List AV}{l:List Rul}{full:Bool}{h:AH}(hp : ∀ c∈l,∀ E:AH,ACalls Tryz.prog f ([.agg (rulC c)]++caps) (h++E) fun x h'=>h'=h++E∧x=.ret (bv (p c))) (hl:l.length≤9223372036854775807) :
  Ac 239 [.sl l.length 11 full (rows rulC l),.clo (.func f) caps] h (iv (idxV p l)):=by
 refine tI' k239 fun N hn _ _ hbd=>?_
 simp only[tb'] at hbd ⊢
 refine wk'<|Zac<|wm<|Vw (ZaA lk)<|ms<|Zaf<|?_
 refine w_lp (ι:=Nat) (fun (k:Nat)=>[(8,iv (k:Int)),(4,.any),(5,.any)]++rn' 9 10) (fun (k:Nat)=>[]) (fun (k:Nat)=>k≤l.length ∧ ∀ j (hj:j<l.length),j<k→p l[j]=false) (fun (k:Nat)=>l.length-k) (0) (by exact⟨by omega,fun j hj h0=>absurd h0 om⟩) ?_
 rintro k hi1
 try simp only[sm',Nat.reduceAdd]
 obtain⟨hk1,hk2⟩:=hi1
 refine wr'<|Vw (ZaO lk lk)<|sn'<|Zac<|?_
 refine cd' lk (fun hc1=>?_) (fun hc1=>?_)
 ·have hk:k<l.length:=by omega
  refine za<|Zac<|Zaf<|wm<|ms<|wm<|mw<|?_
  refine mv' lk pt ?_
  refine V' (ZaJ lk lk Zcq nb ro om ro rfl) pt ?_
  refine Vw (Zas lk Zv4 rfl)<|ZkI lk mp (hp l[k] (List.getElem_mem hk) _) pt<|sn'<|?_
  refine Zav lk (fun hc2=>?_) (fun hc2=>?_)
  ·refine wm<|mr<|Zaq<|Zah<|Zah<|Zaq<|Zah<|Zae rz<|rT'<|?_
   refine ivx ?_
   have hf:l.findIdx p=k:=Zfd hk (by simpa using hc2) (fun j hj=>hk2 j om hj)
   rw[idxV,hf,if_pos hk]
  refine ZaB<|Zau<|Zan<|Zap<|?_
  refine ad<|mw<|Zam<|Zaz<|?_
  refine lT' (k+1) (by (try dsimp only);refine⟨by omega,fun j hj h0=>?_⟩;by_cases e:j=k;subst e;simpa using hc2;exact hk2 j hj om)
 refine Zay<|Zar<|Zar<|ZaN<|Zan<|wo<|Zae rz<|rT'<|?_
 refine ivx ?_
 have hf:l.findIdx p=l.length:=List.findIdx_eq_length.2 (fun x hx=>by obtain⟨i,hi,rfl⟩:=List.getElem_of_mem hx;exact hk2 i hi om)
 rw[idxV,hf,if_neg om]
theorem Zmi {p:Rul→Bool}{f:FuncId}{caps:List AV}{l:List Rul}{full:Bool}{h:AH}(hp : ∀ c∈l,∀ E:AH,ACalls Tryz.prog f ([.agg (rulC c)]++caps) (h++E) fun x h'=>h'=h++E∧x=.ret (bv (p c))) (hl:l.length≤9223372036854775807) :
  Ac 165 [.sl l.length 11 full (rows rulC l),.clo (.func f) caps] h (bv (l.any p)):=by
 refine tI' k165 fun N hn _ _ hbd=>?_
 simp only[tb'] at hbd ⊢
 refine wk'<|wm<|mw<|?_
 refine Zad mp (ixRulC_a (fun c hc E=>by have:=hp c hc E;rwa [List.append_nil]) hl) pt ?_
 refine Vw (ZfC lk lki)<|mr<|Zae rz<|rT'<|?_
 exact bvx (by first | exact Zeq p l | (rw[←Zeq];simp))
theorem ixZonC_a {p:Zon→Bool}{f:FuncId}{caps:List AV}{l:List Zon}{full:Bool}{h:AH}(hp : ∀ c∈l,∀ E:AH,ACalls Tryz.prog f ([.agg (zonC c)]++caps) (h++E) fun x h'=>h'=h++E∧x=.ret (bv (p c))) (hl:l.length≤9223372036854775807) :
  Ac 174 [.sl l.length 2 full (rows zonC l),.clo (.func f) caps] h (iv (idxV p l)):=by
 refine tI' k174 fun N hn _ _ hbd=>?_
 simp only[tb'] at hbd ⊢
 refine wk'<|Zac<|wm<|Vw (ZaA lk)<|ms<|Zaf<|?_
 refine w_lp (ι:=Nat) (fun (k:Nat)=>[(8,iv (k:Int)),(4,.any),(5,.any)]++rn' 9 10) (fun (k:Nat)=>[]) (fun (k:Nat)=>k≤l.length ∧ ∀ j (hj:j<l.length),j<k→p l[j]=false) (fun (k:Nat)=>l.length-k) (0) (by exact⟨by omega,fun j hj h0=>absurd h0 om⟩) ?_
 rintro k hi1
 try simp only[sm',Nat.reduceAdd]
 obtain⟨hk1,hk2⟩:=hi1
 refine wr'<|Vw (ZaO lk lk)<|sn'<|Zac<|?_
 refine cd' lk (fun hc1=>?_) (fun hc1=>?_)
 ·have hk:k<l.length:=by omega
  refine za<|Zac<|Zaf<|wm<|ms<|wm<|mw<|?_
  refine mv' lk pt ?_
  refine V' (ZaJ lk lk Zcp nb ro om ro rfl) pt ?_
  refine Vw (Zas lk Zlp rfl)<|ZkI lk mp (hp l[k] (List.getElem_mem hk) _) pt<|sn'<|?_
  refine Zav lk (fun hc2=>?_) (fun hc2=>?_)
  ·refine wm<|mr<|Zaq<|Zah<|Zah<|Zaq<|Zah<|Zae rz<|rT'<|?_
   refine ivx ?_
   have hf:l.findIdx p=k:=Zfd hk (by simpa using hc2) (fun j hj=>hk2 j om hj)
   rw[idxV,hf,if_pos hk]
  refine ZaB<|Zau<|Zan<|Zap<|?_
  refine ad<|mw<|Zam<|Zaz<|?_
  refine lT' (k+1) (by (try dsimp only);refine⟨by omega,fun j hj h0=>?_⟩;by_cases e:j=k;subst e;simpa using hc2;exact hk2 j hj om)
 refine Zay<|Zar<|Zar<|ZaN<|Zan<|wo<|Zae rz<|rT'<|?_
 refine ivx ?_
 have hf:l.findIdx p=l.length:=List.findIdx_eq_length.2 (fun x hx=>by obtain⟨i,hi,rfl⟩:=List.getElem_of_mem hx;exact hk2 i hi om)
 rw[idxV,hf,if_neg om]
theorem ixZonT_a {p:Zon→Bool}{f:FuncId}{l:List Zon}{full:Bool}{h:AH}(hp : ∀ c∈l,∀ E:AH,ACalls Tryz.prog f [.agg (zonC c)] (h++E) fun x h'=>h'=h++E∧x=.ret (bv (p c))) (hl:l.length≤9223372036854775807) :
  Ac 174 [.sl l.length 2 full (rows zonC l),.v (.func (.func f) #[] #[])] h (iv (idxV p l)):=by
 refine tI' k174 fun N hn _ _ hbd=>?_
 simp only[tb'] at hbd ⊢
 refine wk'<|Zac<|wm<|Vw (ZaA lk)<|ms<|Zaf<|?_
 refine w_lp (ι:=Nat) (fun (k:Nat)=>[(8,iv (k:Int)),(4,.any),(5,.any)]++rn' 9 10) (fun (k:Nat)=>[]) (fun (k:Nat)=>k≤l.length ∧ ∀ j (hj:j<l.length),j<k→p l[j]=false) (fun (k:Nat)=>l.length-k) (0) (by exact⟨by omega,fun j hj h0=>absurd h0 om⟩) ?_
 rintro k hi1
 try simp only[sm',Nat.reduceAdd]
 obtain⟨hk1,hk2⟩:=hi1
 refine wr'<|Vw (ZaO lk lk)<|sn'<|Zac<|?_
 refine cd' lk (fun hc1=>?_) (fun hc1=>?_)
 ·have hk:k<l.length:=by omega
  refine za<|Zac<|Zaf<|wm<|ms<|wm<|mw<|?_
  refine mv' lk pt ?_
  refine V' (ZaJ lk lk Zcp nb ro om ro rfl) pt ?_
  refine Vw (Zas lk Zlp rfl)<|ZfE lk mp (hp l[k] (List.getElem_mem hk) _) pt<|sn'<|?_
  refine Zav lk (fun hc2=>?_) (fun hc2=>?_)
  ·refine wm<|mr<|Zaq<|Zah<|Zah<|Zaq<|Zah<|Zae rz<|rT'<|?_
   refine ivx ?_
   have hf:l.findIdx p=k:=Zfd hk (by simpa using hc2) (fun j hj=>hk2 j om hj)
   rw[idxV,hf,if_pos hk]
  refine ZaB<|Zau<|Zan<|Zap<|?_
  refine ad<|mw<|Zam<|Zaz<|?_
  refine lT' (k+1) (by (try dsimp only);refine⟨by omega,fun j hj h0=>?_⟩;by_cases e:j=k;subst e;simpa using hc2;exact hk2 j hj om)
 refine Zay<|Zar<|Zar<|ZaN<|Zan<|wo<|Zae rz<|rT'<|?_
 refine ivx ?_
 have hf:l.findIdx p=l.length:=List.findIdx_eq_length.2 (fun x hx=>by obtain⟨i,hi,rfl⟩:=List.getElem_of_mem hx;exact hk2 i hi om)
 rw[idxV,hf,if_neg om]
theorem Zuy {p:Zon→Bool}{f:FuncId}{l:List Zon}{full:Bool}{h:AH}(hp : ∀ c∈l,∀ E:AH,ACalls Tryz.prog f [.agg (zonC c)] (h++E) fun x h'=>h'=h++E∧x=.ret (bv (p c))) (hl:l.length≤9223372036854775807) :
  Ac 95 [.sl l.length 2 full (rows zonC l),.v (.func (.func f) #[] #[])] h (bv (l.any p)):=by
 refine tI' k95 fun N hn _ _ hbd=>?_
 simp only[tb'] at hbd ⊢
 refine wk'<|wm<|mw<|?_
 refine Zad mp (ixZonT_a (fun c hc E=>by have:=hp c hc E;rwa [List.append_nil]) hl) pt ?_
 refine Vw (ZfC lk lki)<|mr<|Zae rz<|rT'<|?_
 exact bvx (by first | exact Zeq p l | (rw[←Zeq];simp))
theorem ZpX {p:Lnk→Bool}{f:FuncId}{caps:List AV}{l:List Lnk}{full:Bool}{h:AH}(hp : ∀ c∈l,∀ E:AH,ACalls Tryz.prog f ([.agg (lnkC c)]++caps) (h++E) fun x h'=>h'=h++E∧x=.ret (bv (p c))) (hl:l.length≤9223372036854775807) :
  Ac 87 [.sl l.length 2 full (rows lnkC l),.clo (.func f) caps] h (iv (idxV p l)):=by
 refine tI' k87 fun N hn _ _ hbd=>?_
 simp only[tb'] at hbd ⊢
 refine wk'<|Zac<|wm<|Vw (ZaA lk)<|ms<|Zaf<|?_
 refine w_lp (ι:=Nat) (fun (k:Nat)=>[(8,iv (k:Int)),(4,.any),(5,.any)]++rn' 9 10) (fun (k:Nat)=>[]) (fun (k:Nat)=>k≤l.length ∧ ∀ j (hj:j<l.length),j<k→p l[j]=false) (fun (k:Nat)=>l.length-k) (0) (by exact⟨by omega,fun j hj h0=>absurd h0 om⟩) ?_
 rintro k hi1
 try simp only[sm',Nat.reduceAdd]
 obtain⟨hk1,hk2⟩:=hi1
 refine wr'<|Vw (ZaO lk lk)<|sn'<|Zac<|?_
 refine cd' lk (fun hc1=>?_) (fun hc1=>?_)
 ·have hk:k<l.length:=by omega
  refine za<|Zac<|Zaf<|wm<|ms<|wm<|mw<|?_
  refine mv' lk pt ?_
  refine V' (ZaJ lk lk Zbf nb ro om ro rfl) pt ?_
  refine Vw (Zas lk Zlp rfl)<|ZkI lk mp (hp l[k] (List.getElem_mem hk) _) pt<|sn'<|?_
  refine Zav lk (fun hc2=>?_) (fun hc2=>?_)
  ·refine wm<|mr<|Zaq<|Zah<|Zah<|Zaq<|Zah<|Zae rz<|rT'<|?_
   refine ivx ?_
   have hf:l.findIdx p=k:=Zfd hk (by simpa using hc2) (fun j hj=>hk2 j om hj)
   rw[idxV,hf,if_pos hk]
  refine ZaB<|Zau<|Zan<|Zap<|?_
  refine ad<|mw<|Zam<|Zaz<|?_
  refine lT' (k+1) (by (try dsimp only);refine⟨by omega,fun j hj h0=>?_⟩;by_cases e:j=k;subst e;simpa using hc2;exact hk2 j hj om)
 refine Zay<|Zar<|Zar<|ZaN<|Zan<|wo<|Zae rz<|rT'<|?_
 refine ivx ?_
 have hf:l.findIdx p=l.length:=List.findIdx_eq_length.2 (fun x hx=>by obtain⟨i,hi,rfl⟩:=List.getElem_of_mem hx;exact hk2 i hi om)
 rw[idxV,hf,if_neg om]
theorem Zuz {p:Lnk→Bool}{f:FuncId}{caps:List AV}{l:List Lnk}{full:Bool}{h:AH}(hp : ∀ c∈l,∀ E:AH,ACalls Tryz.prog f ([.agg (lnkC c)]++caps) (h++E) fun x h'=>h'=h++E∧x=.ret (bv (p c))) (hl:l.length≤9223372036854775807) :
  Ac 162 [.sl l.length 2 full (rows lnkC l),.clo (.func f) caps] h (bv (l.any p)):=by
 refine tI' k162 fun N hn _ _ hbd=>?_
 simp only[tb'] at hbd ⊢
 refine wk'<|wm<|mw<|?_
 refine Zad mp (ZpX (fun c hc E=>by have:=hp c hc E;rwa [List.append_nil]) hl) pt ?_
 refine Vw (ZfC lk lki)<|mr<|Zae rz<|rT'<|?_
 exact bvx (by first | exact Zeq p l | (rw[←Zeq];simp))
theorem ixPrtC_a {p:Chg→Bool}{f:FuncId}{caps:List AV}{l:List Chg}{full:Bool}{h:AH}(hp : ∀ c∈l,∀ E:AH,ACalls Tryz.prog f ([.agg (chgC c)]++caps) (h++E) fun x h'=>h'=h++E∧x=.ret (bv (p c))) (hl:l.length≤9223372036854775807) :
  Ac 253 [.sl l.length 4 full (rows chgC l),.clo (.func f) caps] h (iv (idxV p l)):=by
 refine tI' k253 fun N hn _ _ hbd=>?_
 simp only[tb'] at hbd ⊢
 refine wk'<|Zac<|wm<|Vw (ZaA lk)<|ms<|Zaf<|?_
 refine w_lp (ι:=Nat) (fun (k:Nat)=>[(8,iv (k:Int)),(4,.any),(5,.any)]++rn' 9 10) (fun (k:Nat)=>[]) (fun (k:Nat)=>k≤l.length ∧ ∀ j (hj:j<l.length),j<k→p l[j]=false) (fun (k:Nat)=>l.length-k) (0) (by exact⟨by omega,fun j hj h0=>absurd h0 om⟩) ?_
 rintro k hi1
 try simp only[sm',Nat.reduceAdd]
 obtain⟨hk1,hk2⟩:=hi1
 refine wr'<|Vw (ZaO lk lk)<|sn'<|Zac<|?_
 refine cd' lk (fun hc1=>?_) (fun hc1=>?_)
 ·have hk:k<l.length:=by omega
  refine za<|Zac<|Zaf<|wm<|ms<|wm<|mw<|?_
  refine mv' lk pt ?_
  refine V' (ZaJ lk lk Za1 nb ro om ro rfl) pt ?_
  refine Vw (Zas lk IxA_tk_4 rfl)<|ZkI lk mp (hp l[k] (List.getElem_mem hk) _) pt<|sn'<|?_
  refine Zav lk (fun hc2=>?_) (fun hc2=>?_)
  ·refine wm<|mr<|Zaq<|Zah<|Zah<|Zaq<|Zah<|Zae rz<|rT'<|?_
   refine ivx ?_
   have hf:l.findIdx p=k:=Zfd hk (by simpa using hc2) (fun j hj=>hk2 j om hj)
   rw[idxV,hf,if_pos hk]
  refine ZaB<|Zau<|Zan<|Zap<|?_
  refine ad<|mw<|Zam<|Zaz<|?_
  refine lT' (k+1) (by (try dsimp only);refine⟨by omega,fun j hj h0=>?_⟩;by_cases e:j=k;subst e;simpa using hc2;exact hk2 j hj om)
 refine Zay<|Zar<|Zar<|ZaN<|Zan<|wo<|Zae rz<|rT'<|?_
 refine ivx ?_
 have hf:l.findIdx p=l.length:=List.findIdx_eq_length.2 (fun x hx=>by obtain⟨i,hi,rfl⟩:=List.getElem_of_mem hx;exact hk2 i hi om)
 rw[idxV,hf,if_neg om]
end
section
open Go.Ab Civ
attribute [local simp] Zbi
def c107:AC:=(Sr [Oo 2 (.new 35 3 [(iv 0),(iv 0),Ss])] (.seq (Sr [Mv 4 0,Nk 5 4,Fa 6 0 5,Fa 7 3 6,Ld 8 7,Oo 9 (.len false (t 8)),Mv 3 9] (Sr [Mv 10 3,Bc 11 .gtr 10 0] (Cd 11 (Sr [Mv 12 0,Nk 13 12,Fa 14 0 13,Fa 15 3 14,Ld 16 15,Mv 17 3,Bc 18 .sub 17 1,Oo 19 (.ia 4 (t 16) (t 18)),Fa 20 1 19,Oo 21 (.load true 3 (t 20)),⟨none,none,(.store 3 (t 2) (t 21))⟩] .ret) .skip))) (Sr [Mv 22 0,Nk 23 22,Fa 24 0 23,Fa 25 0 24,Oo 26 (.load true 3 (t 25)),⟨none,none,(.store 3 (t 2) (t 26))⟩] .ret)))
theorem k107:Zaw Tryz.prog 107=some ⟨c107,[(.cell 2 true 3)],27⟩:=by kernel_rfl
def lastL (a:Loc):List Chg→Loc
 | []=>a
 | c::l=>lastL c.2 l
theorem Zik : ∀ {a:Loc}{l:List Chg}(h:0<l.length),lastL a l=(l[l.length-1]'(by omega)).2
 | a,[c],_=>rfl
 | a,c::d::l,_=>by
  rw[lastL,Zik (l:=d::l) (by simp)]
  rfl
end
section
open Go.Ab Civ
attribute [local simp] ZbL Zlz ZdH
section
theorem Zkh {a0 a1 a2 a3 a4 a5 a6 a7 a8 a9 a10:AV}{l:List AV}:(a0::a1::a2::a3::a4::a5::a6::a7::a8::a9::a10::l).take 11=[a0,a1,a2,a3,a4,a5,a6,a7,a8,a9,a10]:=rfl
theorem ZiU {a0 a1 a2 a3 a4 a5 a6 a7 a8 a9 a10 c0 c1 c2 c3 c4 c5 c6 c7 c8 c9 c10:AV}{l:List AV}:setCells (a0::a1::a2::a3::a4::a5::a6::a7::a8::a9::a10::l) 0 [c0,c1,c2,c3,c4,c5,c6,c7,c8,c9,c10]=c0::c1::c2::c3::c4::c5::c6::c7::c8::c9::c10::l:=rfl
theorem ZiT {a0 a1 a2 a3 a4 a5 a6 a7 a8 a9 a10:AV}{l:List AV}:((a0::a1::a2::a3::a4::a5::a6::a7::a8::a9::a10::l).drop 0).take 11=[a0,a1,a2,a3,a4,a5,a6,a7,a8,a9,a10]:=rfl
theorem ZrW {a0 a1 a2 a3 a4 a5 a6:AV}{l:List AV}:((a0::a1::a2::a3::a4::a5::a6::l).drop 4).take 3=[a4,a5,a6]:=rfl
theorem ZrY {a0 a1 a2 c0 c1 c2:AV}{l:List AV}:setCells (a0::a1::a2::l) 0 [c0,c1,c2]=c0::c1::c2::l:=rfl
end
end
end Go.Proofs.YtfoipaclphdodaaGreatDoor
