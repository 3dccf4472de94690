/-
  Part 2 of the proof: own lemmas and contracts on plain data. No condition beyond those that each lemma states.
-/
import Derived.Test.YthmgnolcfjiicaaGreatDoorRy1
import Derived.Tactics
import Derived.Tactics2
import Derived.Lib.SplitLaws
import Derived.Lib.Join
import Derived.Lib.IndexAny
import Derived.Shelf.Strings.Builder1
import Derived.Shelf.Strings.Builder2
import Derived.Shelf.Small.Bits
import Derived.Shelf.Small.Strs
import Derived.Shelf.Small.Wraps
import Derived.Shelf.Strings.BuilderF
import Derived.Shelf.Strings.BuilderK
import Derived.Shelf.Strings.Builder2Cap
import Derived.Shelf.Strconv.Itoa0
import Derived.Shelf.Strings.Search1
import Derived.Shelf.Strings.Search2
import Derived.Shelf.Strings.Search3
import Derived.Shelf.Strings.Cut
import Derived.Shelf.Strings.Count
import Derived.Shelf.LaysM
import Derived.Shelf.Strings.Shaped
import Derived.Shelf.Sort.Plain
import Derived.Shelf.Strings.Split
import Derived.Shelf.Strings.Replace
import Derived.Shelf.Strings.SplitShaped
import Derived.Shelf.Unicode.Decode
import Derived.Shelf.Strings.RuneCount
import Derived.Shelf.Unicode.DecodeSlow
import Derived.Shelf.Unicode.DecodeAny
import Derived.Shelf.Strings.BuilderCap
import Derived.Shelf.Slices.CompactS
import Derived.Shelf.Slices.In.SortNone
import Derived.Lib.AtoiErrMem
import Derived.WalkKit
import Derived.ProofKit
import Derived.Carry
import Derived.Lib.SmallJoins
import Derived.Deep.Slices
import Derived.Lib.IndexBytes
set_option linter.all false
set_option maxRecDepth 1000000
set_option maxHeartbeats 4000000
namespace Go.Proofs.YthmgnolcfjiicaaGreatDoor
open Go.Ab
variable {h:AH}{a0 a1 a2 a3:AV}{n:Int}{l:List AV}
section
open Go.Ab Civ
def ZiV :Ac 94 [uv n] h (bv (letB n)):=by
 refine tI' k94 λN hn _ _ hbd=>?_
 simp only[tb'] at hbd ⊢
 refine wk'<|wm<|Vw (Zeo lk lki)<|mw<|?_
 refine sp' (t:=5) gt pt pt (λhg5=>?_) (λhg5=>?_)
 .refine sd<|mw<|sd<|Vw (ZdO lk lki)<|Vw (Zaj lk lk)<|mw<|?_
  refine sp' (t:=9) gt pt pt (λhg9=>?_) (λhg9=>?_)
  .refine so<|so<|so<|s_nu gt pt<|s_nu gt pt<|so<|Vw (Zaj lk lkb)<|mr<|Zae rz<|rT'<|?_
   refine bvx ?_;unfold letB;rw[Bool.eq_iff_iff];simp;omega
  refine sd<|mw<|sd<|Vw (Zeo lk lki)<|sd<|mw<|?_
  refine sp' (t:=12) gt pt pt (λhg12=>?_) (λhg12=>?_)
  .refine sd<|mw<|sd<|Vw (ZdO lk lki)<|sd<|Vw (Zaj lk lk)<|Vw (Zak lk lk)<|mr<|Zae rz<|rT'<|?_
   refine bvx ?_;unfold letB;rw[Bool.eq_iff_iff];simp;omega
  refine so<|so<|sd<|Vw (Zak lk lkb)<|Vw (Zak lk lk)<|mr<|Zae rz<|rT'<|?_
  refine bvx ?_;unfold letB;rw[Bool.eq_iff_iff];simp;omega
 refine so<|so<|Vw (Zak lk lkb)<|mw<|sd<|mw<|sd<|Vw (Zeo lk lki)<|sd<|mw<|?_
 refine sp' (t:=12) gt pt pt (λhg12=>?_) (λhg12=>?_)
 .refine sd<|mw<|sd<|Vw (ZdO lk lki)<|sd<|Vw (Zaj lk lk)<|Vw (Zak lk lk)<|mr<|Zae rz<|rT'<|?_
  refine bvx ?_;unfold letB;rw[Bool.eq_iff_iff];simp;omega
 refine so<|so<|sd<|Vw (Zak lk lkb)<|Vw (Zak lk lk)<|mr<|Zae rz<|rT'<|?_
 refine bvx ?_;unfold letB;rw[Bool.eq_iff_iff];simp;omega
def Zwt :Ac 97 [uv n] h (bv (digB n)):=by
 refine tI' k97 λN hn _ _ hbd=>?_
 simp only[tb'] at hbd ⊢
 refine wk'<|wm<|Vw (Zeo lk lki)<|mw<|?_
 refine sp' (t:=5) gt pt pt (λhg5=>?_) (λhg5=>?_)
 .refine sd<|mw<|sd<|Vw (ZdO lk lki)<|Vw (Zaj lk lk)<|mr<|Zae rz<|rT'<|?_
  refine bvx ?_;unfold digB;rw[Bool.eq_iff_iff];simp;omega
 refine so<|so<|Vw (Zak lk lkb)<|mr<|Zae rz<|rT'<|?_
 refine bvx ?_;unfold digB;rw[Bool.eq_iff_iff];simp;omega
def plain1_a :Ac 227 [uv n] h (bv (ZbV n)):=by
 refine tI' k227 λN hn _ _ hbd=>?_
 simp only[tb'] at hbd ⊢
 refine wk'<|wm<|Zac mp (ZiV) pt<|mw<|?_
 refine Zbd (t:=5) gt pt pt (λhg5=>?_) (λhg5=>?_)
 .refine so<|so<|Vw (Zaj lk lkb)<|mw<|so<|so<|Vw (Zaj lk lkb)<|mw<|so<|so<|Vw (Zaj lk lkb)<|ms<|?_
  refine Zbh<|Zae rz<|rT'<|?_
  refine bvx ?_;unfold ZbV;rw[Bool.eq_iff_iff];simp_all
 refine sd<|mw<|sd<|Zac mp (Zwt) pt<|Vw (Zak lk lk)<|mw<|?_
 refine Zbd (t:=9) gt pt pt (λhg9=>?_) (λhg9=>?_)
 .refine so<|so<|Vw (Zaj lk lkb)<|mw<|so<|so<|Vw (Zaj lk lkb)<|mr<|Zae rz<|rT'<|?_
  refine bvx ?_;unfold ZbV;rw[Bool.eq_iff_iff];simp_all
 refine sd<|mw<|sd<|Vw (Za0 lk lki)<|Vw (Zak lk lk)<|mw<|?_
 refine sp' (t:=13) gt pt pt (λhg13=>?_) (λhg13=>?_)
 .refine so<|so<|Vw (Zaj lk lkb)<|mr<|Zae rz<|rT'<|?_
  refine bvx ?_;unfold ZbV;rw[Bool.eq_iff_iff];simp_all
 refine sd<|mw<|sd<|Vw (Za0 lk lki)<|Vw (Zak lk lk)<|mr<|Zae rz<|rT'<|?_
 refine bvx ?_;unfold ZbV;rw[Bool.eq_iff_iff];simp_all
def all_a {p:Int->Bool}{f:FuncId}(hp : ∀ (n:Int) (h:AH),ACalls Tryz.prog f [uv n] h λx h'=>h'=h/\x=.ret (bv (p n))) {s:ByteArray}(hs:s.size<=maxLen)  :
  Ac 95 [sv s,.v (.func (.func f) #[] #[])] h (bv (allB p s)):=by
 have hm:s.size<=9223372036854775807:=by simpa [maxLen] using hs
 refine tI' k95 λN hn _ _ hbd=>?_
 simp only[tb'] at hbd ⊢
 refine wk'<|Zab<|wm<|Vw (ZcK lk)<|ms<|Zag<|?_
 refine w_lp (ι:=Nat) (λ(k:Nat)=>[(8,iv (k:Int)),(4,.any),(5,.any)]++rn' 9 9) (λ(k:Nat)=>[]) (λ(k:Nat)=>k<=s.size /\ ∀ j (hj:j<s.size),j<k->p s[j].toNat=true) (λ(k:Nat)=>s.size-k) (0) (by exact⟨by omega,λj hj h0=>absurd h0 om⟩) ?_
 rintro k hi1
 try simp only[sm',Nat.reduceAdd]
 obtain⟨hk1,hk2⟩:=hi1
 refine wr'<|Vw (ZaJ lk lk)<|sn'<|Zab<|?_
 refine cd' lk (λhc1=>?_) (λhc1=>?_)
 .refine za<|Zab<|Zag<|wm<|ms<|wm<|mw<|?_
  refine mv' lk pt ?_
  refine V' (v_ix lk lk om om) pt ?_
  refine Zgk lk mp (hp _ _) pt<|Vw (ZaF lk)<|sn'<|?_
  rw[ZdH om] at *
  refine ZaA lk (λhc2=>?_) (λhc2=>?_)
  .refine wo<|Zap<|Zah<|Zah<|Zap<|Zah<|Zae rz<|rT'<|?_
   refine bvx ?_;rw[ZpR (k:=k) om (by simpa [ZdH (show k<s.size by omega)] using hc2)]
  refine Zay<|Zau<|Zan<|Zao<|?_
  refine ad<|mw<|Zam<|Zaw<|?_
  refine lT' (k+1) (by (try dsimp only);refine⟨by omega,λj hj h0=>?_⟩;by_cases e:j=k;subst e;simpa [ZdH hj] using hc2;exact hk2 j hj om)
 refine Zax<|Zas<|Zas<|ZaK<|Zan<|wo<|Zae rz<|rT'<|?_
 refine bvx ?_;rw[ZmG λj hj=>hk2 j hj om]
def Zjd {s:ByteArray}(hs:s.size<=maxLen:=by first | assumption | omega):Ac 149 [sv s] h (bv (allB ZbV s)):=by
 refine tI' k149 λN hn _ _ hbd=>?_
 simp only[tb'] at hbd ⊢
 refine wk'<|wm<|?_
 refine Zac mp (all_a (λ_ _=>plain1_a) hs) pt ?_
 exact mr<|Zae rz<|rT' rfl
def ZlQ {a b:Int}:Ac 148 [iv n,iv a,iv b] h (bv (wi n a b)):=by
 refine tI' k148 λN hn _ _ hbd=>?_
 simp only[tb'] at hbd ⊢
 refine wk'<|wm<|mw<|Vw (Zeo lk lk)<|mw<|?_
 refine sp' (t:=10) gt pt pt (λhg10=>?_) (λhg10=>?_)
 .refine sd<|mw<|sd<|mw<|sd<|Vw (ZdO lk lk)<|Vw (Zaj lk lk)<|mr<|Zae rz<|rT'<|?_
  refine bvx ?_;unfold wi;rw[Bool.eq_iff_iff];simp;omega
 refine so<|so<|so<|Vw (Zak lk lkb)<|mr<|Zae rz<|rT'<|?_
 refine bvx ?_;unfold wi;rw[Bool.eq_iff_iff];simp;omega
def Zg0 {y:Int}(h0:1<=y) (h1:y<=20000):Ac 161 [iv y] h (iv (bef y)):=by
 refine tI' k161 λN hn _ _ hbd=>?_
 simp only[tb'] at hbd ⊢
 refine wk'<|wm<|?_
 refine V' (Za2 lk lki om om) pt ?_
 refine ms<|wm<|?_
 refine V' (Zgg lki lk om om) pt ?_
 refine mv' lk pt ?_
 refine V' (Zhh lk lki om om om) pt ?_
 refine V' (Zb0 lk lk om om) pt ?_
 refine mv' lk pt ?_
 refine V' (Zhh lk lki om om om) pt ?_
 refine V' (Za2 lk lk om om) pt ?_
 refine mv' lk pt ?_
 refine V' (Zhh lk lki om om om) pt ?_
 refine V' (Zb0 lk lk om om) pt ?_
 refine mr<|Zae rz<|rT'<|?_
 unfold bef;rfl
def Zmt :Ac 162 [] h (iv 719162):=by
 refine tI' k162 λN hn _ _ hbd=>?_
 simp only[tb'] at hbd ⊢
 refine wk'<|wr'<|?_
 refine Zac mp (Zg0 (by first | assumption | omega) (by first | assumption | omega)) pt ?_
 refine mr<|Zae rz<|rT'<|?_
 rw[bef_1970]
def Zwf :Ac 150 [] h (iv (-719162)):=by
 refine tI' k150 λN hn _ _ hbd=>?_
 simp only[tb'] at hbd ⊢
 refine wk'<|wr'<|Zac mp0 (Zmt) pt<|?_
 refine V' (v_neg lk om om) pt ?_
 exact mr<|Zae rz<|rT' rfl
def last_a :Ac 210 [] h (iv 2932896):=by
 refine tI' k210 λN hn _ _ hbd=>?_
 simp only[tb'] at hbd ⊢
 refine wk'<|wr'<|?_
 refine Zac mp (Zg0 om om) pt ?_
 refine Zac mp0 (Zmt) pt ?_
 refine V' (Za2 lk lk (by rw[Zdl];omega) (by rw[Zdl];omega)) pt ?_
 refine V' (Za2 lk lki (by rw[Zdl];omega) (by rw[Zdl];omega)) pt ?_
 refine mr<|Zae rz<|rT'<|?_
 rw[Zdl];rfl
def Zpg :Ac 100 [] h (iv (-62135596800)):=by
 refine tI' k100 λN hn _ _ hbd=>?_
 simp only[tb'] at hbd ⊢
 refine wk'<|wr'<|Zac mp0 (Zwf) pt<|?_
 refine V' (Zgg lk lki om om) pt ?_
 exact mr<|Zae rz<|rT' rfl
def most_a :Ac 136 [] h (iv 253402300799):=by
 refine tI' k136 λN hn _ _ hbd=>?_
 simp only[tb'] at hbd ⊢
 refine wk'<|wr'<|Zac mp0 (last_a) pt<|?_
 refine ad<|V' (Zgg lk lki om om) pt ?_
 refine V' (Za2 lk lki om om) pt ?_
 exact mr<|Zae rz<|rT' rfl
def time_a :Ac 101 [iv n] h (bv (Zgh n)):=by
 refine tI' k101 λN hn _ _ hbd=>?_
 simp only[tb'] at hbd ⊢
 refine wk'<|wm<|Zac mp0 (Zpg) pt<|Zac mp0 (most_a) pt<|Zac mp (ZlQ) pt<|ms<|?_
 exact Zbh<|Zae rz<|rT' rfl
def Zpe {a b:Int}{s:ByteArray}(hs:s.size<=maxLen:=by first | assumption | omega):Ac 99 [.agg [iv a,iv b,sv s]] h (iv (locE (a,b,s))):=by
 refine tI' k99 λN hn _ _ hbd=>?_
 simp only[tb'] at hbd ⊢
 refine wr'<|E' (ZaM cv rfl hl0 ha0) pt<|ms<|Zab<|Zag<|wr'<|fq<|Vw (Zaa lk gx gt0)<|Zac mp (ZlQ) pt<|Vw (ZaF lk)<|?_
 refine mv' lk pt ?_
 refine Zbd (t:=8) gt pt pt (λhg8=>?_) (λhg8=>?_)
 .refine so<|so<|so<|so<|Vw (Zaj lk lkb)<|ms<|Za6 lk<|wk'<|?_
  refine Zbh<|Zap<|Zah<|Zae rz<|rT'<|?_
  refine ivx ?_;unfold locE;simp_all [wi];try omega
 refine sd<|fq<|sd<|Vw (Zaa lk gx gt1)<|sd<|Zac mp (ZlQ) pt<|sd<|Vw (ZaF lk)<|Vw (Zak lk lk)<|ms<|?_
 refine ZaA lk (λhc1=>?_) (λhc1=>?_)
 .refine wo<|Zap<|Zah<|Zae rz<|rT'<|?_
  refine ivx ?_;unfold locE;simp_all [wi];try omega
 refine wr'<|fq<|Vw (Zaa lk gx gt2)<|Vw (v_eqlE lk)<|mw<|?_
 refine sp' (t:=18) gt pt pt (λhg18=>?_) (λhg18=>?_)
 .refine so<|so<|so<|so<|Vw (Zaj lk lkb)<|mw<|so<|so<|so<|so<|Vw (Zaj lk lkb)<|ms<|?_
  refine Za6 lk<|wo<|Zap<|Zah<|Zae rz<|rT'<|?_
  refine ivx ?_;unfold locE;simp_all [wi];try omega
 refine sd<|fq<|sd<|Vw (Zaa lk gx gt2)<|sd<|Vw (ZcK lk)<|sd<|Vw (Zbr lk lki)<|Vw (Zak lk lk)<|mw<|?_
 refine sp' (t:=24) gt pt pt (λhg24=>?_) (λhg24=>?_)
 .refine so<|so<|so<|so<|Vw (Zaj lk lkb)<|ms<|Za6 lk<|wk'<|?_
  refine Zbh<|Zap<|Zah<|Zae rz<|rT'<|?_
  refine ivx ?_;unfold locE;simp_all [wi];try omega
 refine sd<|fq<|sd<|Vw (Zaa lk gx gt2)<|sd<|Zac mp (Zjd) pt<|sd<|Vw (ZaF lk)<|Vw (Zak lk lk)<|ms<|?_
 refine ZaA lk (λhc2=>?_) (λhc2=>?_)
 .refine wo<|Zap<|Zah<|Zae rz<|rT'<|?_
  refine ivx ?_;unfold locE;simp_all [wi];try omega
 refine Zay<|Zau<|Zan<|wo<|Zae rz<|rT'<|?_
 refine ivx ?_;unfold locE;simp_all [wi];try omega
end
section
open Go.Ab Civ
attribute [local simp] Zbl
section
def Zkm :((a0::a1::a2::l).drop 0).take 3=[a0,a1,a2]:=rfl
def ZkI {τ:Operand->AV}{y0 y1:Operand}{x0_0 x1_0 x1_1 x1_2:AV}(h0:Zaq (τ y0)=some [x0_0]) (l0:[x0_0].all leaf=true) (h1:Zaq (τ y1)=some [x1_0,x1_1,x1_2]) (l1:[x1_0,x1_1,x1_2].all leaf=true):Zal τ [(0,1,y0),(1,3,y1)] [(iv 0),(iv 0),(iv 0),(.v (.string ⟨#[]⟩))]=some [x0_0,x1_0,x1_1,x1_2]:=by
 simp only[Zal,h0,l0,h1,l1]
 rfl
def Zt7 { e:Ent}:([]:AH)++[e]=[e]:=rfl
def Zqo {e0 d0:Ent}:([e0]:AH)++[d0]=[e0,d0]:=rfl
def Zgy {c0 c1 c2 c3:AV}:setCells (a0::a1::a2::a3::l) 0 [c0,c1,c2,c3]=c0::c1::c2::c3::l:=rfl
def Zt6 :(a0::a1::a2::a3::l).take 4=[a0,a1,a2,a3]:=rfl
def Zgx :((a0::a1::a2::a3::l).drop 1).take 3=[a1,a2,a3]:=rfl
def ZoA {a0 b0:Int}{a1 b1:Int}{a2 b2:ByteArray}:Za7 [.int,.int,.str] [iv a0,iv a1,sv a2] [iv b0,iv b1,sv b2]=some (decide (a0=b0/\a1=b1/\a2=b2)):=by
 simp only[Za7,ZcY,if_true,ZbP,Option.some.injEq]
 simp only[Bool.decide_and,Bool.and_true]
 try (congr 1 <;> simp)
 try rfl
def Zqn :((a0::a1::a2::a3::l).drop 0).take 4=[a0,a1,a2,a3]:=rfl
end
def c47:AC:=(Sr [Oo 1 (.box 34 4 (t 0)),Mc 2 0] (.seq (Sr [Fa 8 3 1,Ld 9 8,Oo 10 (.len false (t 9)),Bc 11 .gtr 10 1000] (Cd 11 (Sr [Mc 2 2] .ret) .skip)) (.seq (Sr [Fa 12 0 1,Oo 13 (.load true 3 (t 12)),Cl 14 99 [(t 13)],Mv 3 14] (Sr [Mv 15 3,Bc 16 .neq 15 0] (Cd 16 (Sr [Mv 17 3,Mv 2 17] .ret) .skip))) (.seq (.drw [Cl 18 100 [],Bc 19 .sub 18 1,Fa 20 0 1,Oo 21 (.load true 3 (t 20)),Oo 22 (.build [(iv 0),(iv 0),(iv 0),Ss] [(0,(1,(t 19))),(1,(3,(t 21)))]),Oo 4 (.new 104 4 [(iv 0),(iv 0),(iv 0),Ss])] [false] [⟨none,none,(.store 4 (t 4) (t 22))⟩]) (.seq (Sr [Fa 23 3 1,Ld 24 23,Oo 25 (.len false (t 24)),Mc 26 0] (.block 0 (.loop (Sr [Bn 27 .lss 26 25] (.seq (Cd 27 .skip (.exit 0)) (.seq (.block 1 (Sr [Oo 28 (.ia 4 (t 24) (t 26)),Oo 29 (.load true 4 (t 28)),Oo 6 (.new 104 4 [(iv 0),(iv 0),(iv 0),Ss]),⟨none,none,(.store 4 (t 6) (t 29))⟩] (.seq (.block 2 (Sr [Fa 31 0 6,Ld 32 31,Cl 33 101 [(t 32)],Oo 34 (.un .not (t 33)),Mv 30 34] (Cd 30 (Sr [Mc 2 3] .ret) (Sr [Fa 36 0 6,Ld 37 36,Fa 38 0 4,Ld 39 38,Bn 40 .leq 37 39,Mv 35 40] (Cd 35 (Sr [Mc 2 4] .ret) .skip))))) (.seq (Sr [Fa 41 1 6,Oo 42 (.load true 3 (t 41)),Cl 43 99 [(t 42)],Mv 7 43] (Sr [Mv 44 7,Bc 45 .neq 44 0] (Cd 45 (Sr [Mv 46 7,Mv 2 46] .ret) .skip))) (.seq (Sr [Fa 47 1 6,Oo 48 (.load true 3 (t 47)),Fa 49 1 4,Oo 50 (.load true 3 (t 49)),Oo 51 (.eqs false [.int,.int,.str] (t 48) (t 50))] (Cd 51 (Sr [Mc 2 4] .ret) .skip)) (.reg [Oo 52 (.load true 4 (t 6)),⟨none,none,(.store 4 (t 4) (t 52))⟩])))))) (.reg [Bc 53 .add 26 1,Mv 26 53]))))))) (Sr [Mc 2 0] .ret))))))
def k47:ZbT Tryz.prog 47=some ⟨c47,[(.tmp 2)],54⟩:=by kernel_rfl
def ZwX {a b:Int}{c:ByteArray}{l:List Chg}{full:Bool}(hs:c.size<=maxLen) (hl : ∀ x∈l,x.2.2.2.size<=maxLen) :
  Ac 47 [.agg [iv a,iv b,sv c,.sl l.length 4 full (rows chgC l)]] h (iv (Za3 ((a,b,c),l))):=by
 refine tI' k47 λN hn hlt _ hbd=>?_
 simp only[tb'] at hbd ⊢
 refine wr'<|E' (ZaM cv rfl hl0 ha0) pt<|ms<|Zab<|wr'<|fq<|Vw (Zaa lk gx gt3)<|Vw (Zaz lk)<|Vw (Zbr lk lki)<|Zam<|?_
 refine Zan ?_
 refine cd' lk (λhc1=>?_) (λhc1=>?_)
 .refine wo<|Zah<|Zae rz<|rT'<|?_
  refine ivx ?_;rw[Za3,if_pos (by simp only;omega)]
 refine za<|Zab<|wr'<|fq<|Vw (Zad lk gx Zkm rfl)<|Zac mp (Zpe) pt<|ms<|wm<|?_
 refine Vw (ZaY lk lki)<|sn'<|?_
 refine cd' lk (λhc2=>?_) (λhc2=>?_)
 .refine wm<|mr<|Zah<|Zae rz<|rT'<|?_
  refine ivx ?_;rw[Za3,if_neg (by simp only;omega),if_pos hc2]
 refine za<|?_
 have hE:Za3 ((a,b,c),l)=chk (-62135596801) (a,b,c) l:=by rw[Za3,if_neg (by simp only;omega),if_neg (by simpa using hc2)]
 refine Zab<|ZaD<|?_
 refine ZaB mp0 (λhE hX=>Zpg) pt ?_
 refine D' (Za2 lk lki om om) pt ?_
 refine dg<|Dw (Zad lk gx Zkm rfl)<|Dw (Zat (ZkI cv rfl cv rfl))<|ZcI rfl rfl (hlk hn rfl) (Zix) pt Zt7<|ZaH<|?_
 refine ZcH Zqo ?_
 refine E' (Zai lk cv gx rfl nb rfl Zgy hs1) ptn<|sn'<|Zab<|wr'<|fq<|Vw (Zaa lk gx gt3)<|Vw (Zaz lk)<|ms<|Zag<|?_
 refine w_lp (ι:=Nat×Int×Int×Int×ByteArray) (λ⟨k,wa,ws,wv,wn⟩=>[(26,iv (k:Int)),(2,.any),(6,.any),(7,.any)]++rn' 27 27) (λ⟨k,wa,ws,wv,wn⟩=>[(1,.mk 0 104 4 [iv wa,iv ws,iv wv,sv wn])]) (λ⟨k,wa,ws,wv,wn⟩=>k<=l.length/\Za3 ((a,b,c),l)=chk wa (ws,wv,wn) (l.drop k)) (λ⟨k,wa,ws,wv,wn⟩=>l.length-k) (⟨0,-62135596801,a,b,c⟩) (by exact⟨by omega,by rw[hE];simp⟩) ?_
 rintro⟨k,wa,ws,wv,wn⟩ hi1
 try simp only[sm',Nat.reduceAdd]
 obtain⟨hk1,hk2⟩:=hi1
 refine wr'<|Vw (ZaJ lk lk)<|sn'<|Zab<|?_
 refine cd' lk (λhc3=>?_) (λhc3=>?_)
 .have hk:k<l.length:=by omega
  have hsz:l[k].2.2.2.size<=maxLen:=hl _ (List.getElem_mem hk)
  rw[List.drop_eq_getElem_cons hk] at hk2
  refine za<|Zab<|Zag<|wr'<|?_
  refine V' (ZaE lk lk (λ_=>rfl) nb ro om ro rfl) pt ?_
  refine Vw (Zar lk Zt6 rfl)<|E' (ZaR hl2 ha2) pt<|E' (Zai lk cv gx rfl nb rfl Zgy hs2) ptn<|sn'<|Zab<|Zag<|wr'<|fq<|Vw (Zaa lk gx gt0)<|Zac mp (time_a) pt<|Vw (ZaF lk)<|mw<|?_
  refine sn' ?_
  refine ZaA lk (λhc4=>?_) (λhc4=>?_)
  .refine wo<|Zap<|Zah<|Zap<|Zah<|Zah<|Zap<|Zah<|Zae rz<|?_
   refine rT' ?_
   refine ivx ?_;rw[hk2,Zlc (by simpa using hc4)]
  refine wr'<|fq<|Vw (Zaa lk gx gt0)<|fq<|Vw (Zaa lk gx gt0)<|Vw (ZdO lk lk)<|ms<|?_
  refine cd' lk (λhc5=>?_) (λhc5=>?_)
  .refine wo<|Zap<|Zah<|Zap<|Zah<|Zah<|Zap<|Zah<|Zae rz<|?_
   refine rT' ?_
   refine ivx ?_;rw[hk2,Zlb (by simpa using hc4) om]
  refine Zay<|Zau<|Zan<|Zab<|wr'<|fq<|Vw (Zad lk gx Zgx rfl)<|Zac mp (Zpe) pt<|ms<|wr'<|?_
  refine mw<|Vw (ZaY lk lki)<|sn'<|?_
  refine cd' lk (λhc6=>?_) (λhc6=>?_)
  .refine wm<|mr<|Zah<|Zap<|Zah<|Zah<|Zap<|Zah<|Zae rz<|?_
   refine rT' ?_
   refine ivx ?_;rw[hk2,ZhI (by simpa using hc4) om hc6]
  refine za<|Zab<|wr'<|fq<|Vw (Zad lk gx Zgx rfl)<|fq<|Vw (Zad lk gx Zgx rfl)<|Vw (Zic lk lk ZoA)<|sn'<|?_
  refine cd' lk (λhc7=>?_) (λhc7=>?_)
  .refine wo<|Zah<|Zap<|Zah<|Zah<|Zap<|Zah<|Zae rz<|rT'<|?_
   refine ivx ?_;rw[hk2,ZhH (by simpa using hc4) om (by simpa using hc6) (ZgP.2 (by obtain⟨x1,x2,x3⟩:=hc7;exact Prod.ext x1 (Prod.ext x2 x3)))]
  refine za<|Zao<|Vw (Zad lk gx Zqn rfl)<|E' (Zai lk cv gx rfl nb rfl Zgy hs1) ptn<|Zam<|Zau<|Zan<|Zao<|?_
  refine ad<|mw<|Zam<|Zaw<|?_
  refine lU' (⟨k+1,l[k].1,l[k].2.1,l[k].2.2.1,l[k].2.2.2⟩) (by (try dsimp only);exact⟨by omega,by rw[hk2,Ze0 (by simpa using hc4) om (by simpa using hc6) (ZiU (λe=>hc7 (by rw[e];simp)))]⟩) (by refine zz ?_;exact bk' 2 hn hlt)
 refine Zax<|Zas<|Zas<|ZaK<|Zan<|wo<|Zae rz<|rT'<|?_
 refine ivx ?_;rw[hk2,List.drop_eq_nil_of_le om,ZwN]
end
section
open Go.Ab
abbrev Bs:=List UInt8
def bA (l:Bs):ByteArray:=⟨l.toArray⟩
def aB (s:ByteArray):Bs:=s.data.toList
def aB_len (s:ByteArray):(aB s).length=s.size:=rfl
def ZhK (l:Bs):(bA l).size=l.length:=rfl
def ZrU (s:ByteArray) (a b:Nat):s.extract a b=bA (((aB s).drop a).take (b-a)):=by
 apply ByteArray.ext
 rw[ByteArray.data_extract]
 apply Array.ext'
 rw[Array.toList_extract,List.extract_eq_take_drop]
 rfl
def Zmv {f:ByteArray}:f=⟨#[]⟩↔f.size=0:=by
 constructor
 .rintro rfl;rfl
 .intro h
  exact ByteArray.ext (Array.eq_empty_of_size_eq_zero h)
end
section
open Go.Ab
abbrev strC (s:ByteArray):List AV:=[sv s]
def ZcM {n:Nat}(l:List ByteArray):AV.ltL n (rows strC l)=true:=ZcV (λ_ _=>rfl) l
attribute [local simp] ZcM
def ZgF : ∀ x,(strC x).length=1:=λ_=>rfl
def Zdp (l:List ByteArray):(rows strC l).length=l.length*1:=Zbp ZgF l
end
section
open Go.Ab
def cutC (x:UInt8):Bs->List Bs
 | []=>[[]]
 | c::l=>if c=x then []::cutC x l else match cutC x l with
  | []=>[[c]]
  | y::ys=>(c::y)::ys
def ZgQ {x:UInt8} : ∀ {l:Bs}{i:Nat},Lib.index l [x]=i->cutC x l=l.take i::cutC x (l.drop (i+1))/\i<l.length/\l[i]?=some x
 | [],i,h=>by simp[Lib.index] at h
 | c::l,i,h=>by
  unfold Lib.index at h
  by_cases hc:x=c
  .subst hc
   simp at h
   obtain rfl:i=0:=by omega
   simp[cutC]
  .have h0:[x].isPrefixOf (c::l)=false:=by simp[List.isPrefixOf,hc]
   rw[h0] at h
   simp only[Bool.false_eq_true,if_false] at h
   have hge:=Lib.index_ge l [x]
   by_cases e:Lib.index l [x] = -1
   .rw[if_pos (by simpa using e)] at h;omega
   .rw[if_neg (by simpa using e)] at h
    obtain⟨j,rfl⟩ : ∃ j,i=j+1:=⟨i-1,by omega⟩
    have hj:Lib.index l [x]=(j:Int):=by
     omega
    obtain⟨h1,h2,h3⟩:=ZgQ hj
    refine⟨?_,by simp;omega,by simpa using h3⟩
    rw[cutC,if_neg (Ne.symm hc),h1]
    rfl
end
end Go.Proofs.YthmgnolcfjiicaaGreatDoor
namespace Go.Ab
section
open Go.RowKit
section
variable {P : Program}
def ACalls.of_below {f:FuncId}{args:List AV}{h:AH}{c:AV}(he:enters P f=true)
  (hc : ∀ w g (vs:Array Value),SimH w g h->RepL w g args vs.toList->Calls P f vs w λe w' => ∃ v,e=.returned v/\Below w.heap.size w w'/\Rep w' g c v):ACalls P f args h λx h'=>h'=h/\x=.ret c:=by
 refine⟨he,λw g vs hs ha=>(hc w g vs hs ha).mono ?_⟩
 rintro e w' ⟨v,rfl,hb,hr⟩
 have hold : ∀ k,k<w.heap.size->w'.heap[k]?=w.heap[k]?:=λk hk=>hb.block k hk
 have hs':SimH w' g h:=hs.world (λk hk=>hold k (hk.elim (hs.lt k) (λho=>(hs.own_not_D ho).2))) hb.size
 exact⟨.ret c,h,g,hr,hs',Gh.le.refl g,⟨hb.os,hb.tape,hb.output,hb.size,λk hk _=>hold k hk⟩,λk hk=>.inl hk,rfl,rfl⟩
end
end
end Go.Ab
namespace Go.Proofs
section
open Go.Shelf
def Tryz.lays137_ren:Go.Shelf.Ren:=⟨fun | 137=>98 | 217=>147 | 266=>226 | n=>n,fun | 9=>9 | 5=>5 | 3=>3 | n=>n,fun | n=>n⟩
def Tryz.lays137:Go.Proofs.Lays.n137 Tryz.prog Tryz.lays137_ren:={
 mixed:=by kernel_rfl
 f137:=Tryz.func98.trans (congrArg some (by kernel_rfl))
 f217:=Tryz.func147.trans (congrArg some (by kernel_rfl))
 f266:=Tryz.func226.trans (congrArg some (by kernel_rfl))
 t3:=Tryz.underlying3
 a3:=Tryz.isAgg3
 z3:=Tryz.sizeOf3
 v3:=Tryz.zeroValue3
 t5:=Tryz.underlying5
 a5:=Tryz.isAgg5
 z5:=Tryz.sizeOf5
 v5:=Tryz.zeroValue5
 t9:=Tryz.underlying9
 a9:=Tryz.isAgg9
 z9:=Tryz.sizeOf9
 v9:=Tryz.zeroValue9 }
open Go.RowKit in
def Tryz.strings_IndexByte (s:ByteArray) (c:Int) (w:World) :
  Calls Tryz.prog 98 #[.string s,.int .u8 c] w λe w'=>e=.returned (.int .i64 (Lib.indexByte s.data.toList c.toNat.toUInt8))/\w'=w:=Any.strings_IndexByte Tryz.lays137 s c w
def Tryz.lays145_ren:Go.Shelf.Ren:=⟨fun | 145=>307 | 220=>316 | 219=>325 | 217=>147 | 225=>331 | 224=>332 | 267=>333 | 266=>226 | 314=>336 | n=>n,fun | 9=>9 | 4=>4 | 59=>332 | 3=>3 | 5=>5 | 46=>164 | 146=>359 | 51=>257 | n=>n,fun | 1=>0 | n=>n⟩
def Tryz.lays145:Go.Proofs.Lays.n145 Tryz.prog Tryz.lays145_ren:={
 mixed:=by kernel_rfl
 f145:=Tryz.func307.trans (congrArg some (by kernel_rfl))
 f217:=Tryz.func147.trans (congrArg some (by kernel_rfl))
 f219:=Tryz.func325.trans (congrArg some (by kernel_rfl))
 f220:=Tryz.func316.trans (congrArg some (by kernel_rfl))
 f224:=Tryz.func332.trans (congrArg some (by kernel_rfl))
 f225:=Tryz.func331.trans (congrArg some (by kernel_rfl))
 f266:=Tryz.func226.trans (congrArg some (by kernel_rfl))
 f267:=Tryz.func333.trans (congrArg some (by kernel_rfl))
 f314:=Tryz.func336.trans (congrArg some (by kernel_rfl))
 t3:=Tryz.underlying3
 a3:=Tryz.isAgg3
 z3:=Tryz.sizeOf3
 v3:=Tryz.zeroValue3
 t4:=Tryz.underlying4
 a4:=Tryz.isAgg4
 z4:=Tryz.sizeOf4
 v4:=Tryz.zeroValue4
 t5:=Tryz.underlying5
 a5:=Tryz.isAgg5
 z5:=Tryz.sizeOf5
 v5:=Tryz.zeroValue5
 t9:=Tryz.underlying9
 a9:=Tryz.isAgg9
 z9:=Tryz.sizeOf9
 v9:=Tryz.zeroValue9
 t46:=Tryz.underlying164
 a46:=Tryz.isAgg164
 z46:=Tryz.sizeOf164
 v46:=Tryz.zeroValue164
 t51:=Tryz.underlying257
 a51:=Tryz.isAgg257
 z51:=Tryz.sizeOf257
 v51:=Tryz.zeroValue257
 t59:=Tryz.underlying332
 a59:=Tryz.isAgg332
 z59:=Tryz.sizeOf332
 v59:=Tryz.zeroValue332
 t146:=Tryz.underlying359
 a146:=Tryz.isAgg359
 z146:=Tryz.sizeOf359
 v146:=Tryz.zeroValue359
 g1:=by kernel_rfl }
open Go.RowKit Go.Lib in
def Tryz.strings_Cut (s sep:ByteArray) (m:Int) (w:World) (hs:s.size<4294967281) (hm:w.cell? ⟨0,0,none⟩=some (.int .i64 m)) :
  Calls Tryz.prog 307 #[.string s,.string sep] w λe w'=>e=.returned (.tuple #[.string ⟨(Lib.cut s.data.toList sep.data.toList).1.toArray⟩,.string ⟨(Lib.cut s.data.toList sep.data.toList).2.1.toArray⟩,.bool (Lib.cut s.data.toList sep.data.toList).2.2]) /\ ∃ n,w'=w.drewN n:=Any.strings_Cut Tryz.lays145 s sep m w hs hm
def Tryz.lays190_ren:Go.Shelf.Ren:=⟨fun | 190=>175 | 125=>132 | 258=>247 | 128=>198 | 129=>199 | 302=>282 | 303=>283 | 304=>284 | 305=>285 | 306=>286 | 307=>287 | 308=>288 | 309=>289 | 310=>290 | 333=>308 | 329=>255 | 330=>256 | 334=>309 | 335=>310 | 336=>133 | 344=>317 | n=>n,fun | 31=>26 | 9=>9 | 3=>3 | 46=>164 | 0=>0 | 51=>257 | 53=>259 | 4=>4 | 183=>251 | 182=>250 | 131=>92 | 5=>5 | 218=>295 | 222=>299 | 228=>328 | 229=>272 | n=>n,fun | n=>n⟩
def Tryz.lays190:Go.Proofs.Lays.n190 Tryz.prog Tryz.lays190_ren:={
 mixed:=by kernel_rfl
 f125:=Tryz.func132.trans (congrArg some (by kernel_rfl))
 f128:=Tryz.func198.trans (congrArg some (by kernel_rfl))
 f129:=Tryz.func199.trans (congrArg some (by kernel_rfl))
 f190:=Tryz.func175.trans (congrArg some (by kernel_rfl))
 f258:=Tryz.func247.trans (congrArg some (by kernel_rfl))
 f302:=Tryz.func282.trans (congrArg some (by kernel_rfl))
 f303:=Tryz.func283.trans (congrArg some (by kernel_rfl))
 f304:=Tryz.func284.trans (congrArg some (by kernel_rfl))
 f305:=Tryz.func285.trans (congrArg some (by kernel_rfl))
 f306:=Tryz.func286.trans (congrArg some (by kernel_rfl))
 f307:=Tryz.func287.trans (congrArg some (by kernel_rfl))
 f308:=Tryz.func288.trans (congrArg some (by kernel_rfl))
 f309:=Tryz.func289.trans (congrArg some (by kernel_rfl))
 f310:=Tryz.func290.trans (congrArg some (by kernel_rfl))
 f329:=Tryz.func255.trans (congrArg some (by kernel_rfl))
 f330:=Tryz.func256.trans (congrArg some (by kernel_rfl))
 f333:=Tryz.func308.trans (congrArg some (by kernel_rfl))
 f334:=Tryz.func309.trans (congrArg some (by kernel_rfl))
 f335:=Tryz.func310.trans (congrArg some (by kernel_rfl))
 f336:=Tryz.func133.trans (congrArg some (by kernel_rfl))
 f344:=Tryz.func317.trans (congrArg some (by kernel_rfl))
 t0:=Tryz.underlying0
 a0:=Tryz.isAgg0
 z0:=Tryz.sizeOf0
 v0:=Tryz.zeroValue0
 t3:=Tryz.underlying3
 a3:=Tryz.isAgg3
 z3:=Tryz.sizeOf3
 v3:=Tryz.zeroValue3
 t4:=Tryz.underlying4
 a4:=Tryz.isAgg4
 z4:=Tryz.sizeOf4
 v4:=Tryz.zeroValue4
 t5:=Tryz.underlying5
 a5:=Tryz.isAgg5
 z5:=Tryz.sizeOf5
 v5:=Tryz.zeroValue5
 t9:=Tryz.underlying9
 a9:=Tryz.isAgg9
 z9:=Tryz.sizeOf9
 v9:=Tryz.zeroValue9
 t31:=Tryz.underlying26
 a31:=Tryz.isAgg26
 z31:=Tryz.sizeOf26
 v31:=Tryz.zeroValue26
 t46:=Tryz.underlying164
 a46:=Tryz.isAgg164
 z46:=Tryz.sizeOf164
 v46:=Tryz.zeroValue164
 t51:=Tryz.underlying257
 a51:=Tryz.isAgg257
 z51:=Tryz.sizeOf257
 v51:=Tryz.zeroValue257
 t53:=Tryz.underlying259
 a53:=Tryz.isAgg259
 z53:=Tryz.sizeOf259
 v53:=Tryz.zeroValue259
 t131:=Tryz.underlying92
 a131:=Tryz.isAgg92
 z131:=Tryz.sizeOf92
 v131:=Tryz.zeroValue92
 t182:=Tryz.underlying250
 a182:=Tryz.isAgg250
 z182:=Tryz.sizeOf250
 v182:=Tryz.zeroValue250
 t183:=Tryz.underlying251
 a183:=Tryz.isAgg251
 z183:=Tryz.sizeOf251
 v183:=Tryz.zeroValue251
 t218:=Tryz.underlying295
 a218:=Tryz.isAgg295
 z218:=Tryz.sizeOf295
 v218:=Tryz.zeroValue295
 t222:=Tryz.underlying299
 a222:=Tryz.isAgg299
 z222:=Tryz.sizeOf299
 v222:=Tryz.zeroValue299
 t228:=Tryz.underlying328
 a228:=Tryz.isAgg328
 z228:=Tryz.sizeOf328
 v228:=Tryz.zeroValue328
 t229:=Tryz.underlying272
 a229:=Tryz.isAgg272
 z229:=Tryz.sizeOf272
 v229:=Tryz.zeroValue272 }
open Go.Sort Go.RowKit in
def Tryz.slices_Sort_string (blk off cap:Nat) (ss:List (List UInt8)) (w:World) (hH:Holds encStr w blk off ss.toArray) (hblk:blk<w.heap.size) (hsz:ss.length<4611686018427387904) :
  Calls Tryz.prog 175 #[.slice (some ⟨blk,off,none⟩) ss.length cap] w λe w' =>
   e=.returned (.tuple #[]) /\ ∃ n os,w'=grow (putRow encStr (Sort.ahead w n) blk off (ss.mergeSort λx y=>decide (x<=y)).toArray) os:=Any.slices_Sort_string Tryz.lays190 blk off cap ss w hH hblk hsz
def Tryz.lays154_ren:Go.Shelf.Ren:=⟨fun | 154=>314 | 138=>319 | 165=>320 | 143=>321 | 166=>322 | 197=>323 | 169=>324 | 195=>326 | 218=>327 | 240=>328 | 241=>329 | 219=>325 | 260=>330 | 276=>334 | 277=>335 | 217=>147 | 225=>331 | 224=>332 | 267=>333 | 266=>226 | 314=>336 | n=>n,fun | 9=>9 | 3=>3 | 4=>4 | 72=>343 | 0=>0 | 76=>347 | 105=>349 | 21=>21 | 5=>5 | 70=>341 | 20=>20 | 37=>159 | 75=>346 | 127=>351 | 164=>352 | 46=>164 | 119=>355 | 139=>358 | 138=>357 | 146=>359 | 51=>257 | 80=>203 | n=>n,fun | 1=>0 | 3=>1 | 4=>2 | n=>n⟩
def Tryz.lays154:Go.Proofs.Lays.n154 Tryz.prog Tryz.lays154_ren:={
 mixed:=by kernel_rfl
 f138:=Tryz.func319.trans (congrArg some (by kernel_rfl))
 f143:=Tryz.func321.trans (congrArg some (by kernel_rfl))
 f154:=Tryz.func314.trans (congrArg some (by kernel_rfl))
 f165:=Tryz.func320.trans (congrArg some (by kernel_rfl))
 f166:=Tryz.func322.trans (congrArg some (by kernel_rfl))
 f169:=Tryz.func324.trans (congrArg some (by kernel_rfl))
 f195:=Tryz.func326.trans (congrArg some (by kernel_rfl))
 f197:=Tryz.func323.trans (congrArg some (by kernel_rfl))
 f217:=Tryz.func147.trans (congrArg some (by kernel_rfl))
 f218:=Tryz.func327.trans (congrArg some (by kernel_rfl))
 f219:=Tryz.func325.trans (congrArg some (by kernel_rfl))
 f224:=Tryz.func332.trans (congrArg some (by kernel_rfl))
 f225:=Tryz.func331.trans (congrArg some (by kernel_rfl))
 f240:=Tryz.func328.trans (congrArg some (by kernel_rfl))
 f241:=Tryz.func329.trans (congrArg some (by kernel_rfl))
 f260:=Tryz.func330.trans (congrArg some (by kernel_rfl))
 f266:=Tryz.func226.trans (congrArg some (by kernel_rfl))
 f267:=Tryz.func333.trans (congrArg some (by kernel_rfl))
 f276:=Tryz.func334.trans (congrArg some (by kernel_rfl))
 f277:=Tryz.func335.trans (congrArg some (by kernel_rfl))
 f314:=Tryz.func336.trans (congrArg some (by kernel_rfl))
 t0:=Tryz.underlying0
 a0:=Tryz.isAgg0
 z0:=Tryz.sizeOf0
 v0:=Tryz.zeroValue0
 t3:=Tryz.underlying3
 a3:=Tryz.isAgg3
 z3:=Tryz.sizeOf3
 v3:=Tryz.zeroValue3
 t4:=Tryz.underlying4
 a4:=Tryz.isAgg4
 z4:=Tryz.sizeOf4
 v4:=Tryz.zeroValue4
 t5:=Tryz.underlying5
 a5:=Tryz.isAgg5
 z5:=Tryz.sizeOf5
 v5:=Tryz.zeroValue5
 t9:=Tryz.underlying9
 a9:=Tryz.isAgg9
 z9:=Tryz.sizeOf9
 v9:=Tryz.zeroValue9
 t20:=Tryz.underlying20
 a20:=Tryz.isAgg20
 z20:=Tryz.sizeOf20
 v20:=Tryz.zeroValue20
 t21:=Tryz.underlying21
 a21:=Tryz.isAgg21
 z21:=Tryz.sizeOf21
 v21:=Tryz.zeroValue21
 t37:=Tryz.underlying159
 a37:=Tryz.isAgg159
 z37:=Tryz.sizeOf159
 v37:=Tryz.zeroValue159
 t46:=Tryz.underlying164
 a46:=Tryz.isAgg164
 z46:=Tryz.sizeOf164
 v46:=Tryz.zeroValue164
 t51:=Tryz.underlying257
 a51:=Tryz.isAgg257
 z51:=Tryz.sizeOf257
 v51:=Tryz.zeroValue257
 t70:=Tryz.underlying341
 a70:=Tryz.isAgg341
 z70:=Tryz.sizeOf341
 v70:=Tryz.zeroValue341
 t72:=Tryz.underlying343
 a72:=Tryz.isAgg343
 z72:=Tryz.sizeOf343
 v72:=Tryz.zeroValue343
 t75:=Tryz.underlying346
 a75:=Tryz.isAgg346
 z75:=Tryz.sizeOf346
 v75:=Tryz.zeroValue346
 t76:=Tryz.underlying347
 a76:=Tryz.isAgg347
 z76:=Tryz.sizeOf347
 v76:=Tryz.zeroValue347
 t105:=Tryz.underlying349
 a105:=Tryz.isAgg349
 z105:=Tryz.sizeOf349
 v105:=Tryz.zeroValue349
 t119:=Tryz.underlying355
 a119:=Tryz.isAgg355
 z119:=Tryz.sizeOf355
 t127:=Tryz.underlying351
 a127:=Tryz.isAgg351
 z127:=Tryz.sizeOf351
 v127:=Tryz.zeroValue351
 t138:=Tryz.underlying357
 a138:=Tryz.isAgg357
 z138:=Tryz.sizeOf357
 v138:=Tryz.zeroValue357
 t139:=Tryz.underlying358
 a139:=Tryz.isAgg358
 z139:=Tryz.sizeOf358
 v139:=Tryz.zeroValue358
 t146:=Tryz.underlying359
 a146:=Tryz.isAgg359
 z146:=Tryz.sizeOf359
 v146:=Tryz.zeroValue359
 t164:=Tryz.underlying352
 a164:=Tryz.isAgg352
 z164:=Tryz.sizeOf352
 v164:=Tryz.zeroValue352
 g1:=by kernel_rfl
 g3:=by kernel_rfl
 g4:=by kernel_rfl }
def Tryz.Builder_Extra_154:Builder.Extra Tryz.prog Tryz.lays154_ren:={
 sizeBuilder:=by kernel_rfl
 liesBuilder:=by kernel_rfl
 t5:=Tryz.underlying5
 a5:=Tryz.isAgg5
 z5:=Tryz.sizeOf5
 v5:=Tryz.zeroValue5
 infoByte:=by kernel_rfl
 cellsByte:=by kernel_rfl
 sizeByte:=by kernel_rfl
 neB5:=by decide }
open Go.RowKit Go.Lib in
def Tryz.strings_Replace (s old new:ByteArray) (n:Int) (m:Int) (w:World) (hs:s.size<4294967281) (hm:w.cell? ⟨0,0,none⟩=some (.int .i64 m)) (h1:1<=old.size) (hlen:s.size+Lib.countB s old*new.size<=140737488355328) :
  Calls Tryz.prog 314 #[.string s,.string old,.string new,.int .i64 n] w λe w' =>
   e=.returned (.string ⟨(Lib.replace s.data.toList old.data.toList new.data.toList n).toArray⟩)/\Below w.heap.size w w':=Any.strings_Replace Tryz.lays154 Tryz.Builder_Extra_154 s old new n m w hs hm h1 hlen
def Tryz.lays194_ren:Go.Shelf.Ren:=⟨fun | 194=>176 | n=>n,fun | 31=>26 | 9=>9 | 3=>3 | 4=>4 | 0=>0 | n=>n,fun | n=>n⟩
def Tryz.lays194:Go.Proofs.Lays.n194 Tryz.prog Tryz.lays194_ren:={
 mixed:=by kernel_rfl
 f194:=Tryz.func176.trans (congrArg some (by kernel_rfl))
 t0:=Tryz.underlying0
 a0:=Tryz.isAgg0
 z0:=Tryz.sizeOf0
 v0:=Tryz.zeroValue0
 t3:=Tryz.underlying3
 a3:=Tryz.isAgg3
 z3:=Tryz.sizeOf3
 v3:=Tryz.zeroValue3
 t4:=Tryz.underlying4
 a4:=Tryz.isAgg4
 z4:=Tryz.sizeOf4
 v4:=Tryz.zeroValue4
 t9:=Tryz.underlying9
 a9:=Tryz.isAgg9
 z9:=Tryz.sizeOf9
 v9:=Tryz.zeroValue9
 t31:=Tryz.underlying26
 a31:=Tryz.isAgg26
 z31:=Tryz.sizeOf26
 v31:=Tryz.zeroValue26 }
open Go.RowKit Go.Lib Go.Sort in
def Tryz.slices_Compact_string (blk off cap:Nat) (zs:List (List UInt8)) (w:World) (hH:Holds encStr w blk off zs.toArray) (hsz:zs.length<=9223372036854775807) (hcap:zs.length<=cap) :
  Calls Tryz.prog 176 #[.slice (some ⟨blk,off,none⟩) zs.length cap] w λe w'=>e=.returned (.slice (some ⟨blk,off,none⟩) (Lib.compact zs).length cap) /\ ∃ q,w'=putRow encStr (Sort.ahead w q) blk off (Lib.compact zs++List.replicate (zs.length-(Lib.compact zs).length) []).toArray:=Any.slices_Compact_string Tryz.lays194 blk off cap zs w hH hsz hcap
open Go.RowKit Go.Lib Go.Sort in
def Tryz.slices_Compact_string_empty (a:Option Addr) (cap:Nat) (w:World) :
  Calls Tryz.prog 176 #[.slice a 0 cap] w λe w'=>e=.returned (.slice a 0 cap)/\w'=w:=Any.slices_Compact_string_empty Tryz.lays194 a cap w
open Go.RowKit Go.Sort in
def Tryz.slices_Sort_string_none (p:Option Addr) (cap:Nat) (w:World) :
  Calls Tryz.prog 175 #[.slice p 0 cap] w λe w'=>e=.returned (.tuple #[])/\w'=w:=Any.slices_Sort_string_none Tryz.lays190 p cap w
end
end Go.Proofs
namespace Go.Proofs.YthmgnolcfjiicaaGreatDoor
open Go.Ab
variable {h:AH}{m n y:Int}
section
open Go.Ab
attribute [local simp] ZcM
def k81:=Kx 81 []
def ZeL {a b:Int}:Ac 81 [iv n,iv a,iv b] h (bv (wi n a b)):=by
 refine tI' k81 λN hn _ _ hbd=>?_
 simp only[tb'] at hbd ⊢
 refine wk'<|wm<|mw<|Vw (Zeo lk lk)<|mw<|?_
 refine sp' (t:=10) gt pt pt (λhg10=>?_) (λhg10=>?_)
 .refine sd<|mw<|sd<|mw<|sd<|Vw (ZdO lk lk)<|Vw (Zaj lk lk)<|mr<|Zae rz<|rT'<|?_
  refine bvx ?_;unfold wi;rw[Bool.eq_iff_iff];simp;omega
 refine so<|so<|so<|Vw (Zak lk lkb)<|mr<|Zae rz<|rT'<|?_
 refine bvx ?_;unfold wi;rw[Bool.eq_iff_iff];simp;omega
end
section
open Go.Ab
abbrev Dat:=Int×Int×Int
abbrev Frm:=Int×Int×Int
abbrev Rul:=ByteArray×Int×Int×Int×Frm×Int×Int×Int×ByteArray
abbrev Unt:=Dat×Int×Int
abbrev Era:=Int×ByteArray×Int×ByteArray×Bool×Unt
abbrev Zon:=ByteArray×List Era
abbrev Lnk:=ByteArray×ByteArray
abbrev Src:=List Rul×List Zon×List Lnk
set_option synthInstance.maxSize 4096 in
instance decEra:DecidableEq Era:=inferInstance
set_option synthInstance.maxSize 4096 in
instance decRul:DecidableEq Rul:=inferInstance
instance decZon:DecidableEq Zon:=inferInstance
instance decLnk:DecidableEq Lnk:=inferInstance
instance decSrc:DecidableEq Src:=inferInstance
abbrev rulC (r:Rul):List AV:=[sv r.1,iv r.2.1,iv r.2.2.1,iv r.2.2.2.1,iv r.2.2.2.2.1.1,iv r.2.2.2.2.1.2.1,iv r.2.2.2.2.1.2.2,iv r.2.2.2.2.2.1,iv r.2.2.2.2.2.2.1,iv r.2.2.2.2.2.2.2.1,sv r.2.2.2.2.2.2.2.2]
abbrev eraC (x:Era):List AV:=[iv x.1,sv x.2.1,iv x.2.2.1,sv x.2.2.2.1,bv x.2.2.2.2.1,iv x.2.2.2.2.2.1.1,iv x.2.2.2.2.2.1.2.1,iv x.2.2.2.2.2.1.2.2,iv x.2.2.2.2.2.2.1,iv x.2.2.2.2.2.2.2]
abbrev zonC (z:Zon):List AV:=[sv z.1,.sl z.2.length 10 false (rows eraC z.2)]
abbrev lnkC (l:Lnk):List AV:=[sv l.1,sv l.2]
abbrev srcC (s:Src):List AV:=[.sl s.1.length 11 false (rows rulC s.1),.sl s.2.1.length 2 false (rows zonC s.2.1),.sl s.2.2.length 2 false (rows lnkC s.2.2)]
def ZbR {n:Nat}(l:List Rul):AV.ltL n (rows rulC l)=true:=ZcV (λn x=>by simp[AV.ltL,AV.lt]) l
def Zcn {n:Nat}(l:List Era):AV.ltL n (rows eraC l)=true:=ZcV (λn x=>by simp[AV.ltL,AV.lt]) l
def Zb6 {n:Nat}(l:List Zon):AV.ltL n (rows zonC l)=true:=ZcV (λn x=>by simp[AV.ltL,AV.lt,Zcn]) l
def Zbq {n:Nat}(l:List Lnk):AV.ltL n (rows lnkC l)=true:=ZcV (λn x=>by simp[AV.ltL,AV.lt]) l
def ZcE : ∀ x,(rulC x).length=11:=λ_=>rfl
def Zdd : ∀ x,(eraC x).length=10:=λ_=>rfl
def ZcD : ∀ x,(zonC x).length=2:=λ_=>rfl
def Zbe : ∀ x,(lnkC x).length=2:=λ_=>rfl
def ZoD (l:List Zon):(rows zonC l).length=l.length*2:=Zbp ZcD l
def ZeP (l:List Lnk):(rows lnkC l).length=l.length*2:=Zbp Zbe l
def Zrh (l:List Lnk):(rows lnkC l).all leaf=true:=ZdU (λ_=>rfl) l
end
section
open Go.Ab Go.RowKit
def ZpL {w w':World}(h:Below w.heap.size w w') : ∀ n:Nat,Below w.heap.size w (w'.drewN n)
 | n=>⟨h.os,h.tape,h.output,h.size,h.block⟩
def Zpm {s:ByteArray}:Ac 98 [sv s,uv n] h (iv (Lib.indexByte (aB s) n.toNat.toUInt8)):=by
 refine ACalls.of_below (by kernel_rfl) λw g vs hs ha=>?_
 simp only[RepL,Rep] at ha
 obtain⟨u1,us1,e1,rfl,u2,us2,rfl,rfl,rfl⟩:=ha
 obtain rfl:vs = #[.string s,.int .u8 n]:=by cases vs;simp_all
 refine (Tryz.strings_IndexByte s n w).mono ?_
 rintro e w' ⟨rfl,rfl⟩
 refine⟨_,rfl,Below.refl _ _,?_⟩
 simp only[Rep];rfl
def cut_a {s p:ByteArray}(hz:s.size<4294967281):Ac 307 [sv s,sv p] h (.tup [sv (bA (Lib.cut (aB s) (aB p)).1),sv (bA (Lib.cut (aB s) (aB p)).2.1),bv (Lib.cut (aB s) (aB p)).2.2]):=by
 refine ACalls.of_below (by kernel_rfl) λw g vs hs ha=>?_
 simp only[RepL,Rep] at ha
 obtain⟨u1,us1,e1,rfl,u2,us2,rfl,rfl,rfl⟩:=ha
 obtain rfl:vs = #[.string s,.string p]:=by cases vs;simp_all
 obtain⟨m,hm⟩:=hs.glob.w.maxLen
 refine (Tryz.strings_Cut s p m w hz hm).mono ?_
 rintro e w' ⟨rfl,n,rfl⟩
 refine⟨_,rfl,ZpL (Below.refl _ _) n,?_⟩
 simp only[Rep,RepL]
 exact⟨_,rfl,_,_,rfl,rfl,_,_,rfl,rfl,_,_,rfl,rfl,rfl⟩
end
section
open Go.Ab Civ
section
def ZkK {τ:Operand->AV}{y0 y1 y2 y3 y4 y5 y6 y7 y8 y9 y10 y11:Operand}{x0_0 x1_0 x2_0 x3_0 x4_0 x5_0 x6_0 x7_0 x8_0 x9_0 x10_0 x11_0:AV}(h0:Zaq (τ y0)=some [x0_0]) (l0:[x0_0].all leaf=true) (h1:Zaq (τ y1)=some [x1_0]) (l1:[x1_0].all leaf=true) (h2:Zaq (τ y2)=some [x2_0]) (l2:[x2_0].all leaf=true) (h3:Zaq (τ y3)=some [x3_0]) (l3:[x3_0].all leaf=true) (h4:Zaq (τ y4)=some [x4_0]) (l4:[x4_0].all leaf=true) (h5:Zaq (τ y5)=some [x5_0]) (l5:[x5_0].all leaf=true) (h6:Zaq (τ y6)=some [x6_0]) (l6:[x6_0].all leaf=true) (h7:Zaq (τ y7)=some [x7_0]) (l7:[x7_0].all leaf=true) (h8:Zaq (τ y8)=some [x8_0]) (l8:[x8_0].all leaf=true) (h9:Zaq (τ y9)=some [x9_0]) (l9:[x9_0].all leaf=true) (h10:Zaq (τ y10)=some [x10_0]) (l10:[x10_0].all leaf=true) (h11:Zaq (τ y11)=some [x11_0]) (l11:[x11_0].all leaf=true):Zal τ [(0,1,y0),(1,1,y1),(2,1,y2),(3,1,y3),(4,1,y4),(5,1,y5),(6,1,y6),(7,1,y7),(8,1,y8),(9,1,y9),(10,1,y10),(11,1,y11)] [(iv 0),(iv 0),(iv 0),(iv 0),(iv 0),(iv 0),(iv 0),(iv 0),(iv 0),(iv 0),(iv 0),(iv 0)]=some [x0_0,x1_0,x2_0,x3_0,x4_0,x5_0,x6_0,x7_0,x8_0,x9_0,x10_0,x11_0]:=by
 simp only[Zal,h0,l0,h1,l1,h2,l2,h3,l3,h4,l4,h5,l5,h6,l6,h7,l7,h8,l8,h9,l9,h10,l10,h11,l11]
 rfl
def ZeE {a0 a1 a2:AV}{l:List AV}:((a0::a1::a2::l).drop 0).take 3=[a0,a1,a2]:=rfl
def ZoC {τ:Operand->AV}{y0 y1 y2:Operand}{x0_0 x1_0 x2_0:AV}(h0:Zaq (τ y0)=some [x0_0]) (l0:[x0_0].all leaf=true) (h1:Zaq (τ y1)=some [x1_0]) (l1:[x1_0].all leaf=true) (h2:Zaq (τ y2)=some [x2_0]) (l2:[x2_0].all leaf=true):Zal τ [(0,1,y0),(1,1,y1),(2,1,y2)] [(iv 0),(iv 0),(iv 0)]=some [x0_0,x1_0,x2_0]:=by
 simp only[Zal,h0,l0,h1,l1,h2,l2]
 rfl
def Zh8 {a0 a1 a2 c0 c1 c2:AV}{l:List AV}:setCells (a0::a1::a2::l) 0 [c0,c1,c2]=c0::c1::c2::l:=rfl
def ZxS {τ:Operand->AV}:Zal τ [] [(iv 0),(iv 0),(iv 0)]=some [(iv 0),(iv 0),(iv 0)]:=rfl
end
def k159:=Kx 159 []
def k231:=Kx 231 []
def k230:=Kx 230 []
def k160:=Kx 160 []
def k113:=Kx 113 [.e [] 10 []]
def k112:=Kx 112 [.e [] 19 []]
def k65:=Kx 65 []
def c228:AC:=(Sr [Oo 2 (.new 66 3 [(iv 0),(iv 0),(iv 0)])] (Sr [Mv 6 0,Cl 7 162 [],Bn 8 .add 6 7,Mv 3 8] (Sr [Mv 9 3,Bc 10 .quo 9 366,Bc 11 .add 10 1,Mv 4 11] (.seq (.block 0 (.loop (.seq (Sr [Mv 12 4,Bc 13 .add 12 1,Cl 14 161 [(t 13)],Mv 15 3,Bn 16 .leq 14 15] (Cd 16 .skip (.exit 0))) (.block 1 (.reg [Mv 17 4,Bc 18 .add 17 1,Mv 4 18]))))) (Sr [Mv 19 3,Mv 20 4,Cl 21 161 [(t 20)],Bn 22 .sub 19 21,Mv 3 22] (Sr [Mc 5 1] (.seq (.block 2 (.loop (.seq (Sr [Mv 23 3,Mv 24 4,Mv 25 5,Cl 26 160 [(t 24),(t 25)],Bn 27 .geq 23 26] (Cd 27 .skip (.exit 2))) (.block 3 (Sr [Mv 28 3,Mv 29 4,Mv 30 5,Cl 31 160 [(t 29),(t 30)],Bn 32 .sub 28 31,Mv 3 32] (.reg [Mv 33 5,Bc 34 .add 33 1,Mv 5 34])))))) (Sr [Mv 35 4,Mv 36 5,Mv 37 3,Bc 38 .add 37 1,Oo 39 (.build [(iv 0),(iv 0),(iv 0)] [(0,(1,(t 35))),(1,(1,(t 36))),(2,(1,(t 38)))]),⟨none,none,(.store 3 (t 2) (t 39))⟩] .ret))))))))
def k228:ZbT Tryz.prog 228=some ⟨c228,[(.cell 2 true 3)],40⟩:=by kernel_rfl
def k151:=Kx 151 []
abbrev nmC (n:Int):List AV:=[iv n]
def nm_len1 : ∀ x,(nmC x).length=1:=λ_=>rfl
abbrev dateA (p:Int×Int×Int):AV:=.agg [iv p.1,iv p.2.1,iv p.2.2]
def lens:List Int:=[31,28,31,30,31,30,31,31,30,31,30,31]
def Zb9 {a b:Int}:Ac 159 [iv n,iv a,iv b] h (bv (wi n a b)):=by
 refine tI' k159 λN hn _ _ hbd=>?_
 simp only[tb'] at hbd ⊢
 refine wk'<|wm<|mw<|Vw (Zeo lk lk)<|mw<|?_
 refine sp' (t:=10) gt pt pt (λhg10=>?_) (λhg10=>?_)
 .refine sd<|mw<|sd<|mw<|sd<|Vw (ZdO lk lk)<|Vw (Zaj lk lk)<|mr<|Zae rz<|rT'<|?_
  refine bvx ?_;unfold wi;rw[Bool.eq_iff_iff];simp;omega
 refine so<|so<|so<|Vw (Zak lk lkb)<|mr<|Zae rz<|rT'<|?_
 refine bvx ?_;unfold wi;rw[Bool.eq_iff_iff];simp;omega
def leap_a (h0:0<=y) (h1:y<=1000000):Ac 231 [iv y] h (bv (Zkr y)):=by
 refine tI' k231 λN hn _ _ hbd=>?_
 simp only[tb'] at hbd ⊢
 refine wk'<|wm<|?_
 refine V' (ZgA lk lki om om) pt ?_
 refine Vw (Za0 lk lki)<|mw<|?_
 refine sp' (t:=6) gt pt pt (λhg6=>?_) (λhg6=>?_)
 .refine sd<|mw<|sd<|?_
  refine V' (ZgA lk lki om om) pt ?_
  refine sd<|Vw (ZaY lk lki)<|sd<|mw<|?_
  refine sp' (t:=10) gt pt pt (λhg10=>?_) (λhg10=>?_)
  .refine so<|so<|so<|sd<|Vw (Zaj lk lkb)<|Vw (Zaj lk lk)<|mr<|Zae rz<|rT'<|?_
   refine bvx ?_;unfold Zkr;simp_all <;> rfl
  refine sd<|mw<|sd<|?_
  refine V' (ZgA lk lki om om) pt ?_
  refine sd<|Vw (Za0 lk lki)<|sd<|Vw (Zak lk lk)<|Vw (Zaj lk lk)<|mr<|Zae rz<|rT'<|?_
  refine bvx ?_;unfold Zkr;simp_all <;> rfl
 refine so<|so<|so<|so<|s_nu gt pt<|s_nu gt pt<|s_nu gt pt<|so<|Vw (Zak lk lkb)<|mr<|Zae rz<|?_
 refine rT' ?_
 refine bvx ?_;unfold Zkr;simp_all <;> rfl
def Zv5 :Ac 230 [] h (.sl 12 1 false (rows nmC lens)):=by
 refine tI' k230 λN hn _ _ hbd=>?_
 simp only[tb'] at hbd ⊢
 exact wr'<|mv' lkn pt0<|sn'<|wr'<|E' (ZcB (ZkK (cvl lki rfl) rfl (cvl lki rfl) rfl (cvl lki rfl) rfl (cvl lki rfl) rfl (cvl lki rfl) rfl (cvl lki rfl) rfl (cvl lki rfl) rfl (cvl lki rfl) rfl (cvl lki rfl) rfl (cvl lki rfl) rfl (cvl lki rfl) rfl (cvl lki rfl) rfl) hl0 ha0) pt1<|mv' lk1 pt0<|Zam<|ZaN (ALe.iceR gx gt0 rfl nb pt0 hs0)<|Zbh<|Zae (rs1 (rr_t gt0))<|rT' rfl
def ZvO (h1:1<=m) (h2:m<=12) (hk:(m-1).toNat<lens.length):mlen y m=lens[(m-1).toNat]+(if m=2 then lp y else 0):=by
 have hm:m=1\/m=2\/m=3\/m=4\/m=5\/m=6\/m=7\/m=8\/m=9\/m=10\/m=11\/m=12:=by omega
 rcases hm with rfl | rfl | rfl | rfl | rfl | rfl | rfl | rfl | rfl | rfl | rfl | rfl <;> rfl
def lens_bd {k:Nat}(hk:k<lens.length):28<=lens[k]/\lens[k]<=31:=by
 have : ∀ x∈lens,28<=x/\x<=31:=by decide
 exact this _ (List.getElem_mem hk)
def ZdC (h0:0<=y) (hy:y<=1000000) (h1:1<=m) (h2:m<=12):Ac 160 [iv y,iv m] h (iv (mlen y m)):=by
 have hk:(m-1).toNat<lens.length:=by show _<12;omega
 have he:=ZvO (y:=y) h1 h2 hk
 have hb:=lens_bd hk
 refine tI' k160 λN hn _ _ hbd=>?_
 simp only[tb'] at hbd ⊢
 refine wk'<|wr'<|Zac mp0 (Zv5) pt<|mw<|?_
 refine V' (Za2 lk lki om om) pt ?_
 refine V' (ZaE (l:=lens) (k:=(m-1).toNat) lk lk nm_len1 nb om hk rfl rfl) pt ?_
 refine Vw (Zav lk gt)<|ms<|Zab<|wm<|Vw (Za0 lk lki)<|mw<|?_
 refine sp' (t:=13) gt pt pt (λhg13=>?_) (λhg13=>?_)
 .refine sd<|mw<|sd<|Zac mp (leap_a h0 hy) pt<|Vw (Zaj lk lk)<|sn'<|?_
  refine cd' lk (λhc1=>?_) (λhc1=>?_)
  .refine Zao<|mw<|?_
   refine ad<|ms<|wm<|mr<|Zae rz<|rT'<|?_
   refine ivx ?_;rw[he];unfold lp;simp_all
  refine za<|wm<|mr<|Zae rz<|rT'<|?_
  refine ivx ?_;rw[he];unfold lp;simp_all
 refine so<|so<|Vw (Zak lk lkb)<|sn'<|ZaV lk<|za<|wm<|ms<|?_
 refine Zbh<|Zae rz<|rT'<|?_
 refine ivx ?_;rw[he];unfold lp;simp_all
def ZiR {d:Int}(y0:1<=y) (y1:y<=20000) (m0:1<=m) (m1:m<=12) (d0 : -1000<=d) (d1:d<=1000):Ac 113 [.agg [iv y,iv m,iv d]] h (iv (num y m d)):=by
 have hb:=bef_bd y0 y1
 refine tI' k113 λN hn _ _ hbd=>?_
 simp only[tb'] at hbd ⊢
 refine wr'<|E' (ZaM cv rfl hl0 ha0) pt<|ms<|Zab<|ZaD<|dg<|Dw (Zaa lk gx gt0)<|?_
 refine ZaB mp (λhE hX=>Zg0 (by first | assumption | omega) (by first | assumption | omega)) pt ?_
 refine ZaB mp0 (λhE hX=>Zmt) pt ?_
 refine D' (Za2 lk lk om om) pt ?_
 refine dg<|Dw (Zaa lk gx gt2)<|?_
 refine D' (Zb0 lk lk om om) pt ?_
 refine D' (Za2 lk lki om om) pt ?_
 refine Dw vm<|ZaH<|?_
 refine ZaU ?_
 refine sn'<|Zab<|wk'<|Zag<|?_
 refine Zd1 (ι:=Int) (λ(k:Int)=>[(3,iv (bef y-719162+d-1+cum y k)),(4,iv k)]++rn' 14 12) (λ(k:Int)=>[]) (λ(k:Int)=>1<=k/\k<=m) (λ(k:Int)=>(m-k).toNat) (1) om (by try simp only[sm',Nat.reduceAdd];exact ALe.same (by repeat (first | exact wk0 | refine wka ?_ | refine wk1 rfl ?_ | refine wk1 (by first | rfl | exact ivx (by rw[Zwz];omega)) ?_)) rfl) ?_
 rintro k hi1
 try simp only[sm',Nat.reduceAdd]
 obtain⟨hk1,hk2⟩:=hi1
 have hcb:=ZnY (y:=y) (m:=k) hk1 om
 refine Zab<|wm<|fq<|Vw (Zaa lk gx gt1)<|Vw (ZaJ lk lk)<|sn'<|?_
 refine cd' lk (λhc1=>?_) (λhc1=>?_)
 .have hcs:=ZgX (y:=y) (m:=k) hk1 om
  have hml:=Zds y k
  refine za<|Zab<|Zag<|Zao<|mw<|fq<|Vw (Zaa lk gx gt0)<|mw<|?_
  refine Zac mp (ZdC om om hk1 om) pt ?_
  refine V' (Zb0 lk lk om om) pt ?_
  refine mw<|Zam<|Zau<|Zan<|Zao<|mw<|?_
  refine ad<|mw<|Zam<|Zaw<|?_
  refine lU' (k+1) (by (try dsimp only);omega) (by refine zz ?_;exact ALe.same (by repeat (first | exact wk0 | refine wka ?_ | refine wk1 rfl ?_ | refine wk1 (by first | rfl | exact ivx om) ?_)) rfl)
 have hkm:k=m:=by omega
 refine Zax<|Zas<|Zas<|ZaK<|Zan<|wm<|mr<|Zae rz<|rT'<|?_
 refine ivx ?_;rw[hkm];unfold num;omega
def is_a {d:Int}:Ac 112 [.agg [iv y,iv m,iv d]] h (bv (Zbx y m d)):=by
 refine tI' k112 λN hn _ _ hbd=>?_
 simp only[tb'] at hbd ⊢
 refine wr'<|E' (ZaM cv rfl hl0 ha0) pt<|ms<|Zab<|ZaD<|dg<|Dw (Zaa lk gx gt0)<|?_
 refine ZaB mp (λhE hX=>Zb9) pt ?_
 refine D' vm pt ?_
 refine Zmx (t:=6) gt pt pt (λhg6=>?_) (λhg6=>?_)
 .have hy:1<=y/\y<=9999:=by unfold wi at hg6;simpa using hg6
  refine dO<|dg<|dO<|Dw (Zaa lk gx gt1)<|dO<|?_
  refine ZaB mp (λhE hX=>Zb9) pt ?_
  refine Dw (Zaj lk lk)<|Dw vm<|?_
  refine Zmx (t:=11) gt pt pt (λhg11=>?_) (λhg11=>?_)
  .have hm:1<=m/\m<=12:=by unfold wi at hg11;simpa using hg11
   refine dO<|dg<|dO<|Dw (Zaa lk gx gt2)<|dO<|dg<|dO<|Dw (Zaa lk gx gt0)<|dO<|dg<|dO<|Dw (Zaa lk gx gt1)<|dO<|?_
   refine ZaB mp (λhE hX=>ZdC om om hm.1 hm.2) pt ?_
   refine d_do gt ?_
   refine ZaB mp (λhE hX=>Zb9) pt ?_
   refine Dw (Zaj lk lk)<|Dw vm<|ZaH<|?_
   refine ZaU ?_
   refine sr<|Zae rz<|rT'<|?_
   refine bvx ?_;rw[show Zbx y m d=(wi y 1 9999&&(wi m 1 12&&wi d 1 (mlen y m))) from by unfold Zbx wi;simp[Bool.and_assoc]];simp_all
  refine dn<|dn<|dn<|dn<|dn<|dn<|dn<|dn<|Dw (Zak lk lkb)<|Dw vm<|ZaH<|?_
  refine ZaU ?_
  refine sr<|Zae rz<|rT'<|?_
  refine bvx ?_;rw[show Zbx y m d=(wi y 1 9999&&(wi m 1 12&&wi d 1 (mlen y m))) from by unfold Zbx wi;simp[Bool.and_assoc]];simp_all
 refine dn<|dn<|dn<|Dw (Zak lk lkb)<|Dw vm<|dn<|dn<|dn<|dn<|dn<|dn<|dn<|dn<|Dw (Zak lk lkb)<|?_
 refine Dw vm<|ZaH<|?_
 refine ZaU ?_
 refine sr<|Zae rz<|rT'<|?_
 refine bvx ?_;rw[show Zbx y m d=(wi y 1 9999&&(wi m 1 12&&wi d 1 (mlen y m))) from by unfold Zbx wi;simp[Bool.and_assoc]];simp_all
def days_a {d:Int}:Ac 65 [.agg [iv y,iv m,iv d]] h (.tup [iv (if Zbx y m d then num y m d else 0),iv (if Zbx y m d then 0 else 3)]):=by
 refine tI' k65 λN hn _ _ hbd=>?_
 simp only[tb'] at hbd ⊢
 refine wr'<|E' (ZaM cv rfl hl0 ha0) pt<|mw<|ms<|Zab<|wr'<|Vw (Zad lk gx ZeE rfl)<|Zac mp (is_a) pt<|Vw (ZaF lk)<|Zam<|?_
 refine Zan ?_
 refine ZaA lk (λhc1=>?_) (λhc1=>?_)
 .have hd:Zbx y m d=false:=by simpa using hc1
  refine wm<|mr<|Zah<|Zae ry<|rT'<|?_
  rw[hd];rfl
 have hd:Zbx y m d=true:=by simpa using hc1
 have hi:=ZbW.1 hd
 have hl:=Zds y m
 refine za<|wr'<|Vw (Zad lk gx ZeE rfl)<|?_
 refine Zac mp (ZiR om om om om om om) pt ?_
 refine mw<|mr<|Zae ry<|rT'<|?_
 rw[hd];rfl
def date_a {n:Int}{h:AH}(h0 : -719162<=n) (h1:n<=2932896):Ac 228 [iv n] h (dateA (Zbn n)):=by
 have hg:=Zrv (n:=n+719162) om
 have hn:=Zk6 (n:=n+719162) om om
 have hs:=ZmS h0 h1
 refine tI' k228 λN hn _ _ hbd=>?_
 simp only[tb'] at hbd ⊢
 refine wr'<|E' (ZaR hl0 ha0) pt<|sn'<|wm<|Zac mp0 (Zmt) pt<|?_
 refine V' (Zb0 lk lk om om) pt ?_
 refine ms<|wm<|?_
 refine V' (Zhh lk lki om om om) pt ?_
 refine ad<|ms<|Zab<|Zag<|?_
 refine w_lp (ι:=Nat×Int) (λ⟨k,y⟩=>[(4,iv y)]++rn' 12 7) (λ⟨k,y⟩=>[]) (λ⟨k,y⟩=>yrOf n=yrUp k (n+719162) y/\1<=y/\y+k<=10100/\bef y<=n+719162/\n+719162<bef y+365*(k:Int)+365) (λ⟨k,y⟩=>k) (⟨60,(n+719162)/366+1⟩) (by exact⟨rfl,by omega,by omega,hg,by omega⟩) ?_
 rintro⟨k,y⟩ hi1
 try simp only[sm',Nat.reduceAdd]
 obtain⟨hy1,hy2,hy3,hy4,hy5⟩:=hi1
 refine Zab<|wm<|?_
 refine ad<|Zac mp (Zg0 om om) pt ?_
 refine mw<|Vw (ZdO lk lk)<|sn'<|?_
 refine cd' lk (λhc1=>?_) (λhc1=>?_)
 .obtain⟨j,rfl⟩ : ∃ j,k=j+1:=by
   cases k with
   | zero=>exfalso;have:=ZmD (a:=y) (b:=y+1) om;have:=ZfP y;have:=Zpc y;unfold bef at *;omega
   | succ j=>exact⟨j,rfl⟩
  have hst:=ZmD (a:=y) (b:=y+1) om
  refine za<|Zag<|Zao<|mw<|?_
  refine ad<|mw<|Zam<|Zau<|Zaw<|?_
  refine lT' (⟨j,y+1⟩) (by (try dsimp only);exact⟨by rw[hy1,yrUp,if_pos hc1],by omega,by omega,hc1,by omega⟩)
 have hyy:yrOf n=y:=by rw[hy1];cases k with
  | zero=>rfl
  | succ j=>rw[yrUp,if_neg hc1]
 rw[hyy] at hs
 have hbs:=ZfP y
 have hl01:=Zpc y
 refine Zax<|Zas<|Zas<|ZaK<|Zan<|wm<|mw<|?_
 refine Zac mp (Zg0 om om) pt ?_
 refine V' (Za2 lk lk om om) pt ?_
 refine ms<|wk'<|Zab<|Zag<|?_
 refine w_lp (ι:=Nat×Int×Int) (λ⟨k,m,r⟩=>[(3,iv r),(5,iv m)]++rn' 23 12) (λ⟨k,m,r⟩=>[]) (λ⟨k,m,r⟩=>moUp 12 y 1 (n+719162-bef y)=moUp k y m r/\1<=m/\m+k=13/\0<=r/\cum y m+r<365+lp y) (λ⟨k,m,r⟩=>k) (⟨12,1,n+719162-bef y⟩) (by exact⟨rfl,by omega,by omega,by omega,by rw[Zwz];omega⟩) ?_
 rintro⟨k,m,r⟩ hi2
 try simp only[sm',Nat.reduceAdd]
 obtain⟨hm1,hm2,hm3,hm4,hm5⟩:=hi2
 have hm12:m<=12:=by
  rcases Int.lt_or_le 12 m with e | e
  .have:m=13:=by omega
   subst this;rw[Zwy] at hm5;omega
  exact e
 have hcs:=ZgX (y:=y) (m:=m) hm2 hm12
 have hcb:=ZnY (y:=y) (m:=m) hm2 om
 have hml:=Zds y m
 refine Zab<|wm<|mw<|mw<|?_
 refine Zac mp (ZdC om om hm2 hm12) pt ?_
 refine Vw (Zeo lk lk)<|sn'<|?_
 refine cd' lk (λhc2=>?_) (λhc2=>?_)
 .obtain⟨j,rfl⟩ : ∃ j,k=j+1:=⟨k-1,by omega⟩
  refine za<|Zag<|wm<|mw<|mw<|?_
  refine Zac mp (ZdC om om hm2 hm12) pt ?_
  refine V' (Za2 lk lk om om) pt ?_
  refine ms<|Zao<|mw<|?_
  refine ad<|mw<|Zam<|Zau<|Zaw<|?_
  refine lT' (⟨j,m+1,r-mlen y m⟩) (by (try dsimp only);exact⟨by rw[hm1,moUp,if_pos hc2],by omega,by omega,by omega,by omega⟩)
 have hmm:moUp 12 y 1 (n+719162-bef y)=(m,r):=by rw[hm1];cases k with
  | zero=>rfl
  | succ j=>rw[moUp,if_neg hc2]
 refine Zax<|Zas<|Zas<|ZaK<|Zan<|wm<|mw<|mw<|?_
 refine ad<|Vw (Zat (ZoC cv rfl cv rfl cv rfl))<|E' (Zai lk cv gx rfl nb rfl Zh8 hs0) ptn<|sr<|Zae (rs1 (rr_c gt gx (ld1 ZeE rfl)))<|rT'<|?_
 have hdo:Zbn n=(y,m,r+1):=by simp only[Zbn,hyy,hmm]
 rw[hdo]
def of_a :Ac 151 [iv n] h (.tup [dateA (if -719162<=n/\n<=2932896 then Zbn n else (0,0,0)),iv (if -719162<=n/\n<=2932896 then 0 else 3)]):=by
 refine tI' k151 λN hn _ _ hbd=>?_
 simp only[tb'] at hbd ⊢
 refine wr'<|E' (ZaR hl0 ha0) pt<|ms<|Zab<|wm<|Zac mp0 (Zwf) pt<|Zac mp0 (last_a) pt<|Zac mp (Zb9) pt<|Vw (ZaF lk)<|?_
 refine sn' ?_
 refine ZaA lk (λhc1=>?_) (λhc1=>?_)
 .have hno:¬(-719162<=n/\n<=2932896):=by unfold wi at hc1;simp at hc1;omega
  refine wr'<|Vw (Zat ZxS)<|E' (Zai lk cv gx rfl nb rfl Zh8 hs0) ptn<|mr<|Zah<|Zae (rsn (rm1 (rr_c gt gx (ld1 ZeE rfl)) (rm1 (rr_t gt) rm0)))<|rT'<|?_
  rw[if_neg hno,if_neg hno]
 have hyes : -719162<=n/\n<=2932896:=by unfold wi at hc1;simp at hc1;omega
 refine za<|wm<|Zac mp (date_a hyes.1 hyes.2) pt<|E' (Zai lk cv gx rfl nb rfl Zh8 hs0) ptn<|mr<|Zae (rsn (rm1 (rr_c gt gx (ld1 ZeE rfl)) (rm1 (rr_t gt) rm0)))<|rT'<|?_
 rw[if_pos hyes,if_pos hyes]
end
end Go.Proofs.YthmgnolcfjiicaaGreatDoor
section
namespace Go.Proofs.YthmgnolcfjiicaaGreatDoor
open Go.Ab Civ
section
def Zbo {a0 a1 a2:AV}{l:List AV}:((a0::a1::a2::l).drop 0).take 3=[a0,a1,a2]:=rfl
def Zt5 {τ:Operand->AV}:Zal τ [] [(iv 0),(iv 0),(iv 0)]=some [(iv 0),(iv 0),(iv 0)]:=rfl
def ZbD {a0 a1 a2 c0 c1 c2:AV}{l:List AV}:setCells (a0::a1::a2::l) 0 [c0,c1,c2]=c0::c1::c2::l:=rfl
def Zt4 {τ:Operand->AV}{y0 y1 y2:Operand}{x0_0 x1_0 x2_0:AV}(h0:Zaq (τ y0)=some [x0_0]) (l0:[x0_0].all leaf=true) (h1:Zaq (τ y1)=some [x1_0]) (l1:[x1_0].all leaf=true) (h2:Zaq (τ y2)=some [x2_0]) (l2:[x2_0].all leaf=true):Zal τ [(0,1,y0),(1,1,y1),(2,1,y2)] [(iv 0),(iv 0),(iv 0)]=some [x0_0,x1_0,x2_0]:=by
 simp only[Zal,h0,l0,h1,l1,h2,l2]
 rfl
def Zkj {τ:Operand->AV}{y0 y1 y2:Operand}{x0_0 x1_0 x2_0:AV}(h0:Zaq (τ y0)=some [x0_0]) (l0:[x0_0].all leaf=true) (h1:Zaq (τ y1)=some [x1_0]) (l1:[x1_0].all leaf=true) (h2:Zaq (τ y2)=some [x2_0]) (l2:[x2_0].all leaf=true):Zal τ [(0,1,y0),(1,1,y1),(2,1,y2)] [(iv 0),(iv 0),(iv 0)]=some [x0_0,x1_0,x2_0]:=by
 simp only[Zal,h0,l0,h1,l1,h2,l2]
 rfl
def ZkF {τ:Operand->AV}{y0 y1 y2:Operand}{x0_0 x1_0 x2_0:AV}(h0:Zaq (τ y0)=some [x0_0]) (l0:[x0_0].all leaf=true) (h1:Zaq (τ y1)=some [x1_0]) (l1:[x1_0].all leaf=true) (h2:Zaq (τ y2)=some [x2_0]) (l2:[x2_0].all leaf=true):Zal τ [(0,1,y0),(1,1,y1),(2,1,y2)] [(iv 0),(iv 0),(iv 0)]=some [x0_0,x1_0,x2_0]:=by
 simp only[Zal,h0,l0,h1,l1,h2,l2]
 rfl
def ZkH {τ:Operand->AV}{y0 y1 y2:Operand}{x0_0 x1_0 x2_0:AV}(h0:Zaq (τ y0)=some [x0_0]) (l0:[x0_0].all leaf=true) (h1:Zaq (τ y1)=some [x1_0]) (l1:[x1_0].all leaf=true) (h2:Zaq (τ y2)=some [x2_0]) (l2:[x2_0].all leaf=true):Zal τ [(0,1,y0),(1,1,y1),(2,1,y2)] [(iv 0),(iv 0),(iv 0)]=some [x0_0,x1_0,x2_0]:=by
 simp only[Zal,h0,l0,h1,l1,h2,l2]
 rfl
def ZkG {τ:Operand->AV}{y0 y1 y2:Operand}{x0_0 x1_0 x2_0:AV}(h0:Zaq (τ y0)=some [x0_0]) (l0:[x0_0].all leaf=true) (h1:Zaq (τ y1)=some [x1_0]) (l1:[x1_0].all leaf=true) (h2:Zaq (τ y2)=some [x2_0]) (l2:[x2_0].all leaf=true):Zal τ [(0,1,y0),(1,1,y1),(2,1,y2)] [(iv 0),(iv 0),(iv 0)]=some [x0_0,x1_0,x2_0]:=by
 simp only[Zal,h0,l0,h1,l1,h2,l2]
 rfl
def Zt3 {a0 a1 c0:AV}{l:List AV}:setCells (a0::a1::l) 1 [c0]=a0::c0::l:=rfl
def Zt2 {a0 a1 a2 c0:AV}{l:List AV}:setCells (a0::a1::a2::l) 2 [c0]=a0::a1::c0::l:=rfl
def Zoy {τ:Operand->AV}:Zal τ [] [(iv 0),(iv 0),(iv 0)]=some [(iv 0),(iv 0),(iv 0)]:=rfl
def Zox {τ:Operand->AV}:Zal τ [] [(iv 0),(iv 0),(iv 0)]=some [(iv 0),(iv 0),(iv 0)]:=rfl
def Zow {τ:Operand->AV}:Zal τ [] [(iv 0),(iv 0),(iv 0)]=some [(iv 0),(iv 0),(iv 0)]:=rfl
def Zov {τ:Operand->AV}:Zal τ [] [(iv 0),(iv 0),(iv 0)]=some [(iv 0),(iv 0),(iv 0)]:=rfl
def Zou {τ:Operand->AV}{y0 y1 y2:Operand}{x0_0 x1_0 x2_0:AV}(h0:Zaq (τ y0)=some [x0_0]) (l0:[x0_0].all leaf=true) (h1:Zaq (τ y1)=some [x1_0]) (l1:[x1_0].all leaf=true) (h2:Zaq (τ y2)=some [x2_0]) (l2:[x2_0].all leaf=true):Zal τ [(0,1,y0),(1,1,y1),(2,1,y2)] [(iv 0),(iv 0),(iv 0)]=some [x0_0,x1_0,x2_0]:=by
 simp only[Zal,h0,l0,h1,l1,h2,l2]
 rfl
def ZmP {τ:Operand->AV}:Zal τ [] [(iv 0),(iv 0),(iv 0)]=some [(iv 0),(iv 0),(iv 0)]:=rfl
end
def k306:=Kx 306 []
def k280:=Kx 280 []
def c279:AC:=(Sr [Oo 5 (.box 206 3 (t 2)),Mc 6 0] (.seq (.block 0 (Sr [Mv 8 0,Cl 9 159 [(t 8),(Ci 1),(Ci 9999)],Oo 10 (.un .not (t 9)),Mv 11 10,Of 12 11 (mt 1),Of 13 11 (.call (.func 159) [(t 12),(Ci 1),(Ci 12)]),Of 14 11 (.un .not (t 13)),Oo 15 (.pick (t 11) (.const (.bool true)) (t 14)),Mv 7 15] (Cd 7 (Sr [Mc 6 3] .ret) (Sr [Fa 17 0 5,Ld 18 17,Cl 19 159 [(t 18),(Ci 1),(Ci 4)],Oo 20 (.un .not (t 19)),Mv 16 20] (Cd 16 (Sr [Mc 6 7] .ret) (Sr [Fa 22 1 5,Ld 23 22,Cl 24 159 [(t 23),(Ci 0),(Ci 6)],Oo 25 (.un .not (t 24)),Mv 26 25,Of 27 26 (.fa 0 (t 5)),Of 28 26 (.load false 1 (t 27)),Of 29 26 (.bin .eql (t 28) (Ci 1)),Of 30 26 (mt 29),Ot 31 30 (.fa 1 (t 5)),Ot 32 30 (.load false 1 (t 31)),Ot 33 30 (.bin .neq (t 32) (Ci 0)),Of 34 26 (.pick (t 30) (t 33) (.const (.bool false))),Oo 35 (.pick (t 26) (.const (.bool true)) (t 34)),Mv 21 35] (Cd 21 (Sr [Mc 6 3] .ret) (Sd [Fa 37 0 5,Ld 38 37,Bc 39 .eql 38 2,Mv 40 39,Ot 41 40 (.fa 2 (t 5)),Ot 42 40 (.load false 1 (t 41)),Ot 43 40 (.bin .neq (t 42) (Ci 0)),Oo 44 (.pick (t 40) (t 43) (.const (.bool false))),Mv 45 44,Of 46 45 (.fa 0 (t 5)),Of 47 45 (.load false 1 (t 46)),Of 48 45 (.bin .neq (t 47) (Ci 2)),Of 49 45 (mt 48),Ot 50 49 (.fa 2 (t 5)),Ot 51 49 (.load false 1 (t 50)),Ot 52 49 (mt 0),Ot 53 49 (mt 1),Ot 54 49 (.call (.func 160) [(t 52),(t 53)]),Ot 55 49 (.call (.func 159) [(t 51),(Ci 1),(t 54)]),Ot 56 49 (.un .not (t 55)),Of 57 45 (.pick (t 49) (t 56) (.const (.bool false))),Oo 58 (.pick (t 45) (.const (.bool true)) (t 57)),Mv 36 58] (Cd 36 (Sr [Mc 6 3] .ret) .skip))))))))) (Sr [Mc 6 0] .ret)))
def k279:ZbT Tryz.prog 279=some ⟨c279,[(.tmp 6)],59⟩:=by kernel_rfl
def c244:AC:=(Sr [Oo 5 (.box 206 3 (t 2)),Oo 6 (.new 66 3 [(iv 0),(iv 0),(iv 0)]),Mc 7 0] (.seq (Sr [Mv 11 0,Mv 12 1,Oo 13 (.load true 3 (t 5)),Cl 14 279 [(t 11),(t 12),(t 13)],Mv 8 14] (Sr [Mv 15 8,Bc 16 .neq 15 0] (Cd 16 (Sr [Oo 17 (.build [(iv 0),(iv 0),(iv 0)] []),Mv 18 8,⟨none,none,(.store 3 (t 6) (t 17))⟩,Mv 7 18] .ret) .skip))) (Sr [Mv 19 0,Mv 20 1,Oo 21 (.build [(iv 0),(iv 0),(iv 0)] [(0,(1,(t 19))),(1,(1,(t 20))),(2,(1,(Ci 1)))]),Cl 22 113 [(t 21)],Mv 9 22] (Sr [Mv 23 9,Fa 24 2 5,Ld 25 24,Bn 26 .add 23 25,Bc 27 .sub 26 1,Mv 10 27] (.seq (Sr [Fa 28 0 5,Ld 29 28] (.block 0 (Sr [Bc 31 .eql 29 2,Mv 30 31] (Cd 30 (.drw [Mv 32 9,Mv 33 0,Mv 34 1,Cl 35 160 [(t 33),(t 34)],Bn 36 .add 32 35,Bc 37 .sub 36 1,Fa 38 1 5,Ld 39 38,Cl 40 280 [(t 37),(t 39),(.const (.int .i64 (-1)))],Mv 10 40] [] []) (Sr [Bc 42 .eql 29 3,Mv 41 42] (Cd 41 (.reg [Mv 43 10,Fa 44 1 5,Ld 45 44,Cl 46 280 [(t 43),(t 45),(Ci 1)],Mv 10 46]) (Sr [Bc 48 .eql 29 4,Mv 47 48] (Cd 47 (.reg [Mv 49 10,Fa 50 1 5,Ld 51 50,Cl 52 280 [(t 49),(t 51),(.const (.int .i64 (-1)))],Mv 10 52]) .skip)))))))) (Sr [Mv 53 10,Cl 54 151 [(t 53)],Ex 55 54 0,Ex 56 54 1,⟨none,none,(.store 3 (t 6) (t 55))⟩,Mv 7 56] .ret))))))
def k244:ZbT Tryz.prog 244=some ⟨c244,[(.cell 6 true 3),(.tmp 7)],57⟩:=by kernel_rfl
def k315:=Kx 315 []
def k302:=Kx 302 []
def c166:AC:=(Sr [Oo 1 (.box 66 3 (t 0)),Mc 2 0] (Sd [Fa 6 0 1,Ld 7 6,Fa 8 1 1,Ld 9 8,Bc 10 .sub 9 3,Mv 3 7,Mv 4 10] (.seq (Sr [Mv 11 4,Bc 12 .lss 11 0] (Cd 12 (Sr [Mv 13 3,Bc 14 .sub 13 1,Mv 3 14] (.reg [Mv 15 4,Bc 16 .add 15 12,Mv 4 16])) .skip)) (Sr [Mv 17 3,Bc 18 .quo 17 400,Bc 19 .mul 18 146097,Mv 20 3,Bc 21 .rem 20 400,Bc 22 .mul 21 365,Bn 23 .add 19 22,Mv 24 3,Bc 25 .rem 24 400,Bc 26 .quo 25 4,Bn 27 .add 23 26,Mv 28 3,Bc 29 .rem 28 400,Bc 30 .quo 29 100,Bn 31 .sub 27 30,Mv 5 31] (Sr [Mv 32 5,Mv 33 4,Oo 34 (.bin .mul (Ci 153) (t 33)),Bc 35 .add 34 2,Bc 36 .quo 35 5,Bn 37 .add 32 36,Fa 38 2 1,Ld 39 38,Bn 40 .add 37 39,Bc 41 .sub 40 1,Bc 42 .sub 41 719468,Mv 2 42] .ret)))))
def k166:ZbT Tryz.prog 166=some ⟨c166,[(.tmp 2)],43⟩:=by kernel_rfl
def k120:=Kx 120 []
def k121:=Kx 121 []
def k303:=Kx 303 []
def c304:AC:=(Sr [Oo 2 (.new 66 3 [(iv 0),(iv 0),(iv 0)])] (Sr [Mc 3 1,Mc 4 10000] (.seq (.block 0 (.loop (.seq (Sr [Mv 7 4,Mv 8 3,Bn 9 .sub 7 8,Bc 10 .gtr 9 1] (Cd 10 .skip (.exit 0))) (.block 1 (Sr [Mv 11 3,Mv 12 4,Bn 13 .add 11 12,Bc 14 .quo 13 2,Mv 5 14] (Sr [Mv 15 5,Oo 16 (.build [(iv 0),(iv 0),(iv 0)] [(0,(1,(t 15))),(1,(1,(Ci 1))),(2,(1,(Ci 1)))]),Cl 17 166 [(t 16)],Mv 18 0,Bn 19 .leq 17 18] (Cd 19 (.reg [Mv 20 5,Mv 3 20]) (.reg [Mv 21 5,Mv 4 21])))))))) (Sr [Mv 22 3,Oo 23 (.build [(iv 0),(iv 0),(iv 0)] [(0,(1,(t 22))),(1,(1,(Ci 12))),(2,(1,(Ci 1)))]),Oo 6 (.new 66 3 [(iv 0),(iv 0),(iv 0)]),⟨none,none,(.store 3 (t 6) (t 23))⟩] (.seq (.block 2 (.loop (.seq (Sr [Oo 24 (.load true 3 (t 6)),Cl 25 166 [(t 24)],Mv 26 0,Bn 27 .gtr 25 26] (Cd 27 .skip (.exit 2))) (.block 3 (.reg [Fa 28 1 6,Ld 29 28,Bc 30 .sub 29 1,Fa 31 1 6,Sc 31 30]))))) (Sr [Mv 32 0,Oo 33 (.load true 3 (t 6)),Cl 34 166 [(t 33)],Bn 35 .sub 32 34,Bc 36 .add 35 1,Fa 37 2 6,Sc 37 36] (Sr [Oo 38 (.load true 3 (t 6)),⟨none,none,(.store 3 (t 2) (t 38))⟩] .ret)))))))
def k304:ZbT Tryz.prog 304=some ⟨c304,[(.cell 2 true 3)],39⟩:=by kernel_rfl
def c269:AC:=(Sr [Oo 5 (.box 206 3 (t 2)),Oo 6 (.new 66 3 [(iv 0),(iv 0),(iv 0)]),Mc 7 0] (.seq (Sr [Mv 11 0,Cl 12 81 [(t 11),(Ci 1),(Ci 9999)],Oo 13 (.un .not (t 12)),Mv 14 13,Of 15 14 (mt 1),Of 16 14 (.call (.func 81) [(t 15),(Ci 1),(Ci 12)]),Of 17 14 (.un .not (t 16)),Oo 18 (.pick (t 14) (.const (.bool true)) (t 17))] (Cd 18 (Sr [Oo 19 (.build [(iv 0),(iv 0),(iv 0)] []),⟨none,none,(.store 3 (t 6) (t 19))⟩,Mc 7 3] .ret) .skip)) (.seq (Sr [Fa 20 0 5,Ld 21 20,Cl 22 81 [(t 21),(Ci 1),(Ci 4)],Oo 23 (.un .not (t 22))] (Cd 23 (Sr [Oo 24 (.build [(iv 0),(iv 0),(iv 0)] []),⟨none,none,(.store 3 (t 6) (t 24))⟩,Mc 7 7] .ret) .skip)) (.seq (Sr [Fa 25 1 5,Ld 26 25,Cl 27 81 [(t 26),(Ci 0),(Ci 6)],Oo 28 (.un .not (t 27)),Mv 29 28,Of 30 29 (.fa 0 (t 5)),Of 31 29 (.load false 1 (t 30)),Of 32 29 (.bin .eql (t 31) (Ci 1)),Of 33 29 (mt 32),Ot 34 33 (.fa 1 (t 5)),Ot 35 33 (.load false 1 (t 34)),Ot 36 33 (.bin .neq (t 35) (Ci 0)),Of 37 29 (.pick (t 33) (t 36) (.const (.bool false))),Oo 38 (.pick (t 29) (.const (.bool true)) (t 37))] (Cd 38 (Sr [Oo 39 (.build [(iv 0),(iv 0),(iv 0)] []),⟨none,none,(.store 3 (t 6) (t 39))⟩,Mc 7 3] .ret) .skip)) (Sr [Mv 40 0,Mv 41 1,Cl 42 302 [(t 40),(t 41)],Mv 8 42] (.seq (Sr [Fa 43 0 5,Ld 44 43,Bc 45 .eql 44 2,Mv 46 45,Ot 47 46 (.fa 2 (t 5)),Ot 48 46 (.load false 1 (t 47)),Ot 49 46 (.bin .neq (t 48) (Ci 0)),Oo 50 (.pick (t 46) (t 49) (.const (.bool false))),Mv 51 50,Of 52 51 (.fa 0 (t 5)),Of 53 51 (.load false 1 (t 52)),Of 54 51 (.bin .neq (t 53) (Ci 2)),Of 55 51 (mt 54),Ot 56 55 (.fa 2 (t 5)),Ot 57 55 (.load false 1 (t 56)),Ot 58 55 (mt 8),Ot 59 55 (.call (.func 81) [(t 57),(Ci 1),(t 58)]),Ot 60 55 (.un .not (t 59)),Of 61 51 (.pick (t 55) (t 60) (.const (.bool false))),Oo 62 (.pick (t 51) (.const (.bool true)) (t 61))] (Cd 62 (Sr [Oo 63 (.build [(iv 0),(iv 0),(iv 0)] []),⟨none,none,(.store 3 (t 6) (t 63))⟩,Mc 7 3] .ret) .skip)) (Sr [Mv 64 0,Mv 65 1,Oo 66 (.build [(iv 0),(iv 0),(iv 0)] [(0,(1,(t 64))),(1,(1,(t 65))),(2,(1,(Ci 1)))]),Cl 67 166 [(t 66)],Bc 68 .sub 67 1,Mv 9 68] (.seq (Sr [Fa 69 0 5,Ld 70 69] (.block 0 (Sr [Bc 76 .eql 70 1,Mv 75 76] (Cd 75 (.reg [Mv 77 9,Fa 78 2 5,Ld 79 78,Bn 80 .add 77 79,Mv 9 80]) (Sr [Bc 82 .eql 70 2,Mv 81 82] (Cd 81 (.reg [Mv 83 9,Mv 84 8,Bn 85 .add 83 84,Mv 9 85]) (.reg [Mv 71 9,Fa 72 2 5,Ld 73 72,Bn 74 .add 71 73,Mv 9 74]))))))) (.seq (Sr [Mc 10 0] (.block 1 (.loop (.seq (Sd [Mv 86 10,Bc 87 .lss 86 7,Mv 88 87,Ot 89 88 (.fa 0 (t 5)),Ot 90 88 (.load false 1 (t 89)),Ot 91 88 (.bin .gtr (t 90) (Ci 1)),Oo 92 (.pick (t 88) (t 91) (.const (.bool false))),Mv 93 92,Ot 94 93 (mt 9),Ot 95 93 (.call (.func 303) [(t 94)]),Ot 96 93 (.fa 1 (t 5)),Ot 97 93 (.load false 1 (t 96)),Ot 98 93 (.bin .neq (t 95) (t 97)),Oo 99 (.pick (t 93) (t 98) (.const (.bool false)))] (Cd 99 .skip (.exit 1))) (.seq (.block 2 (Sr [Fa 102 0 5,Ld 103 102,Bc 104 .eql 103 3] (Cd 104 (.reg [Mv 105 9,Bc 106 .add 105 1,Mv 9 106]) (.reg [Mv 107 9,Bc 108 .sub 107 1,Mv 9 108])))) (.reg [Mv 100 10,Bc 101 .add 100 1,Mv 10 101])))))) (.seq (Sr [Mv 109 9,Cl 110 120 [],Cl 111 121 [],Cl 112 81 [(t 109),(t 110),(t 111)],Oo 113 (.un .not (t 112))] (Cd 113 (Sr [Oo 114 (.build [(iv 0),(iv 0),(iv 0)] []),⟨none,none,(.store 3 (t 6) (t 114))⟩,Mc 7 3] .ret) .skip)) (Sr [Mv 115 9,Cl 116 304 [(t 115)],⟨none,none,(.store 3 (t 6) (t 116))⟩,Mc 7 0] .ret)))))))))))
def k269:ZbT Tryz.prog 269=some ⟨c269,[(.cell 6 true 3),(.tmp 7)],117⟩:=by kernel_rfl
namespace Civ
def fwd (n k:Int):Int:=n+(k-wd n)%7
def bwd (n k:Int):Int:=n-(wd n-k)%7
def Zud {n k j:Int}(h0:0<=j) (h1:j<=(k-wd n)%7) (hk:0<=k/\k<=6):wd (n+j)=k↔j=(k-wd n)%7:=by unfold wd at *;omega
def Zue {n k j:Int}(h0:0<=j) (h1:j<=(wd n-k)%7) (hk:0<=k/\k<=6):wd (n-j)=k↔j=(wd n-k)%7:=by unfold wd at *;omega
def ZbS (y m kind wk n:Int):Int :=
 if ¬(1<=y/\y<=9999)\/¬(1<=m/\m<=12) then 3
 else if ¬(1<=kind/\kind<=4) then 7
 else if ¬(0<=wk/\wk<=6)\/kind=1/\wk≠0 then 3
 else if kind=2/\n≠0\/kind≠2/\¬(1<=n/\n<=mlen y m) then 3
 else 0
def Zdq (y m kind wk n:Int):Int :=
 if kind=2 then bwd (num y m (mlen y m)) wk else if kind=3 then fwd (num y m n) wk else if kind=4 then bwd (num y m n) wk else num y m n
def onV (y m kind wk n:Int):(Int×Int×Int)×Int :=
 if ZbS y m kind wk n≠0 then ((0,0,0),ZbS y m kind wk n)
 else if -719162<=Zdq y m kind wk n/\Zdq y m kind wk n<=2932896 then (Zbn (Zdq y m kind wk n),0) else ((0,0,0),3)
def formE_bd (y m kind wk n:Int):0<=ZbS y m kind wk n/\ZbS y m kind wk n<=7:=by
 unfold ZbS;repeat' split
 all_goals omega
def ZkY {y m kind wk n k:Int}(h:ZbS y m kind wk n=k) (hk:k≠0):onV y m kind wk n=((0,0,0),k):=by
 unfold onV;rw[h,if_pos hk]
def Zjg {y m kind wk n k:Int}(h:ZbS y m kind wk n=0) (hk:Zdq y m kind wk n=k):onV y m kind wk n=if -719162<=k/\k<=2932896 then (Zbn k,0) else ((0,0,0),3):=by
 unfold onV;rw[h,if_neg (by simp),hk]
def Zsm (y m d:Int):num y m d=num y m 1+d-1:=by unfold num;omega
def Zmi {y m:Int}(hy:1<=y/\y<=20000) (hm:1<=m/\m<=12) : -8000000<=num y m 1/\num y m 1<=8000000:=by
 have:=bef_bd hy.1 hy.2
 have:=ZnY (y:=y) (m:=m) hm.1 om
 unfold num;omega
def num_ref1 {y m d:Int}(hm:3<=m) (hm2:m<=12):y/400*146097+y%400*365+y%400/4-y%400/100+(153*(m-3)+2)/5+d-1-719468=num y m d:=by
 have:=lp_iff y
 unfold num cum bef;rw[if_neg om,this];split <;> omega
def num_ref2 {y m d:Int}(hm:1<=m) (hm2:m<3):(y-1)/400*146097+(y-1)%400*365+(y-1)%400/4-(y-1)%400/100+(153*(m-3+12)+2)/5+d-1-719468=num y m d:=by
 unfold num cum bef;rw[if_pos om];omega
def ZvL (y:Int):num y 1 1=bef y-719162:=by unfold num;rw[Zwz];omega
def Zmq {y m k wk n:Int}(h:ZbS y m k wk n=0):(1<=y/\y<=9999)/\(1<=m/\m<=12)/\(1<=k/\k<=4)/\(0<=wk/\wk<=6)/\(k=1->wk=0)/\(k=2->n=0)/\(k≠2->1<=n/\n<=mlen y m):=by
 unfold ZbS at h
 repeat' split at h
 all_goals omega
end Civ
def ZmW {n:Int}{h:AH}:Ac 306 [iv n] h (iv (wd n)):=by
 have hb1 : -6<=n.tmod 7/\n.tmod 7<=6:=by rw[Zr1];split <;> omega
 have hb2 : -6<=(n.tmod 7+4).tmod 7/\(n.tmod 7+4).tmod 7<=6:=by rw[Zr1];split <;> omega
 refine tI' k306 λN hn _ _ hbd=>?_
 simp only[tb'] at hbd ⊢
 refine wk'<|wm<|?_
 refine V' (Zqx lk lki om) pt ?_
 refine ad<|V' (Zqx lk lki om) pt ?_
 refine ad<|V' (Zqx lk lki om) pt ?_
 refine mr<|Zae rz<|rT'<|?_
 exact ivx (wd_go n)
def toward_f {n k:Int}{h:AH}(h0 : -100000000<=n) (h1:n<=100000000) (hk:0<=k/\k<=6):Ac 280 [iv n,iv k,iv 1] h (iv (fwd n k)):=by
 refine tI' k280 λN hn _ _ hbd=>?_
 simp only[tb'] at hbd ⊢
 refine wk'<|Zab<|Zag<|?_
 refine Zd1 (ι:=Nat) (λ(j:Nat)=>[(0,iv (n+j))]++rn' 7 7) (λ(j:Nat)=>[]) (λ(j:Nat)=>(j:Int)<=(k-wd n)%7) (λ(j:Nat)=>7-j) (0) (by have:=wd_bd n;omega) (by try simp only[sm',Nat.reduceAdd];exact ALe.same (by repeat (first | exact wk0 | refine wka ?_ | refine wk1 rfl ?_ | refine wk1 (by first | rfl | exact ivx (by simp)) ?_)) rfl) ?_
 rintro j hi1
 try simp only[sm',Nat.reduceAdd]
 have hwf:=Zud (n:=n) (k:=k) (j:=j) om hi1 hk
 refine Zab<|wm<|Zac mp (ZmW) pt<|mw<|Vw (ZaY lk lk)<|sn'<|?_
 refine cd' lk (λhc1=>?_) (λhc1=>?_)
 .have hj:¬(j:Int)=(k-wd n)%7:=λe=>hc1 (hwf.2 e)
  refine za<|Zag<|Zao<|mw<|mw<|?_
  refine V' (Zb0 lk lk om om) pt ?_
  refine mw<|Zam<|Zau<|Zaw<|?_
  refine lU' (j+1) (by (try dsimp only);omega) (by refine zz ?_;exact ALe.same (by repeat (first | exact wk0 | refine wka ?_ | refine wk1 rfl ?_ | refine wk1 (by first | rfl | exact ivx om) ?_)) rfl)
 have hj:=hwf.1 (Decidable.of_not_not hc1)
 refine Zax<|Zas<|Zas<|ZaK<|Zan<|wm<|mr<|Zae rz<|rT'<|?_
 refine ivx ?_;unfold fwd;omega
def ZqD {n k:Int}{h:AH}(h0 : -100000000<=n) (h1:n<=100000000) (hk:0<=k/\k<=6):Ac 280 [iv n,iv k,iv (-1)] h (iv (bwd n k)):=by
 refine tI' k280 λN hn _ _ hbd=>?_
 simp only[tb'] at hbd ⊢
 refine wk'<|Zab<|Zag<|?_
 refine Zd1 (ι:=Nat) (λ(j:Nat)=>[(0,iv (n-j))]++rn' 7 7) (λ(j:Nat)=>[]) (λ(j:Nat)=>(j:Int)<=(wd n-k)%7) (λ(j:Nat)=>7-j) (0) (by have:=wd_bd n;omega) (by try simp only[sm',Nat.reduceAdd];exact ALe.same (by repeat (first | exact wk0 | refine wka ?_ | refine wk1 rfl ?_ | refine wk1 (by first | rfl | exact ivx (by simp)) ?_)) rfl) ?_
 rintro j hi1
 try simp only[sm',Nat.reduceAdd]
 have hwf:=Zue (n:=n) (k:=k) (j:=j) om hi1 hk
 refine Zab<|wm<|Zac mp (ZmW) pt<|mw<|Vw (ZaY lk lk)<|sn'<|?_
 refine cd' lk (λhc1=>?_) (λhc1=>?_)
 .have hj:¬(j:Int)=(wd n-k)%7:=λe=>hc1 (hwf.2 e)
  refine za<|Zag<|Zao<|mw<|mw<|?_
  refine V' (Zb0 lk lk om om) pt ?_
  refine mw<|Zam<|Zau<|Zaw<|?_
  refine lU' (j+1) (by (try dsimp only);omega) (by refine zz ?_;exact ALe.same (by repeat (first | exact wk0 | refine wka ?_ | refine wk1 rfl ?_ | refine wk1 (by first | rfl | exact ivx om) ?_)) rfl)
 have hj:=hwf.1 (Decidable.of_not_not hc1)
 refine Zax<|Zas<|Zas<|ZaK<|Zan<|wm<|mr<|Zae rz<|rT'<|?_
 refine ivx ?_;unfold bwd;omega
def Zbz {n a b:Int}:wi n a b=true↔a<=n/\n<=b:=by unfold wi;simp
def Zce {n a b:Int}:wi n a b=false↔¬(a<=n/\n<=b):=by rw[<-Zbz];simp
def form_a {y m k wk n:Int}{h:AH}:Ac 279 [iv y,iv m,.agg [iv k,iv wk,iv n]] h (iv (ZbS y m k wk n)):=by
 refine tI' k279 λN hn _ _ hbd=>?_
 simp only[tb'] at hbd ⊢
 refine wr'<|E' (ZaM cv rfl hl0 ha0) pt<|ms<|Zab<|Zag<|wm<|Zac mp (Zb9) pt<|Vw (ZaF lk)<|mw<|?_
 refine Zbd (t:=11) gt pt pt (λhg11=>?_) (λhg11=>?_)
 .refine so<|so<|so<|Vw (Zaj lk lkb)<|ms<|Za6 lk<|wo<|?_
  refine Zap<|Zah<|Zae rz<|rT'<|?_
  refine ivx ?_;unfold ZbS;simp only[Bool.not_eq_true',Bool.not_eq_false',Zbz,Zce,decide_eq_true_eq,decide_eq_false_iff_not] at *;repeat' split
  all_goals omega
 refine sd<|mw<|sd<|Zac mp (Zb9) pt<|sd<|Vw (ZaF lk)<|Vw (Zak lk lk)<|ms<|?_
 refine ZaA lk (λhc1=>?_) (λhc1=>?_)
 .refine wo<|Zap<|Zah<|Zae rz<|rT'<|?_
  refine ivx ?_;unfold ZbS;simp only[Bool.not_eq_true',Bool.not_eq_false',Zbz,Zce,decide_eq_true_eq,decide_eq_false_iff_not] at *;repeat' split
  all_goals omega
 refine wr'<|fq<|Vw (Zaa lk gx gt0)<|Zac mp (Zb9) pt<|Vw (ZaF lk)<|ms<|?_
 refine ZaA lk (λhc2=>?_) (λhc2=>?_)
 .refine wo<|Zap<|Zah<|Zae rz<|rT'<|?_
  refine ivx ?_;unfold ZbS;simp only[Bool.not_eq_true',Bool.not_eq_false',Zbz,Zce,decide_eq_true_eq,decide_eq_false_iff_not] at *;repeat' split
  all_goals omega
 refine wr'<|fq<|Vw (Zaa lk gx gt1)<|Zac mp (Zb9) pt<|Vw (ZaF lk)<|mw<|?_
 refine Zbd (t:=26) gt pt pt (λhg26=>?_) (λhg26=>?_)
 .refine so<|so<|so<|so<|s_nu gt pt<|s_nu gt pt<|s_nu gt pt<|so<|Vw (Zaj lk lkb)<|ms<|Za6 lk<|Zab<|?_
  refine Zao<|mr<|Zap<|Zah<|Zae rz<|rT'<|?_
  refine ivx ?_;unfold ZbS;simp only[Bool.not_eq_true',Bool.not_eq_false',Zbz,Zce,decide_eq_true_eq,decide_eq_false_iff_not] at *;repeat' split
  all_goals omega
 refine sd<|fq<|sd<|Vw (Zaa lk gx gt0)<|sd<|Vw (Za0 lk lki)<|sd<|mw<|?_
 refine sp' (t:=30) gt pt pt (λhg30=>?_) (λhg30=>?_)
 .refine sd<|fq<|sd<|Vw (Zaa lk gx gt1)<|sd<|Vw (ZaY lk lki)<|sd<|Vw (Zaj lk lk)<|Vw (Zak lk lk)<|ms<|?_
  refine cd' lk (λhc3=>?_) (λhc3=>?_)
  .refine wo<|Zap<|Zah<|Zae rz<|rT'<|?_
   refine ivx ?_;unfold ZbS;simp only[Bool.not_eq_true',Bool.not_eq_false',Zbz,Zce,decide_eq_true_eq,decide_eq_false_iff_not] at *;repeat' split
   all_goals omega
  refine Zab<|ZaD<|dg<|Dw (Zaa lk gx gt0)<|Dw (Za0 lk lki)<|Dw vm<|?_
  refine dq' (t:=40) gt pt pt (λhg40=>?_) (λhg40=>?_)
  .refine dO<|dg<|dO<|Dw (Zaa lk gx gt2)<|dO<|Dw (ZaY lk lki)<|Dw (Zaj lk lk)<|Dw vm<|?_
   refine dq' (t:=45) gt pt pt (λhg45=>?_) (λhg45=>?_)
   .refine dn<|dn<|dn<|dn<|d_nu gt pt<|d_nu gt pt<|d_nu gt pt<|d_nu gt pt<|d_nu gt pt<|d_nu gt pt<|d_nu gt pt<|dn<|Dw (Zaj lk lkb)<|Dw vm<|?_
    refine ZaH ?_
    refine ZaU ?_
    refine sn'<|Za6 lk<|wo<|Zap<|Zah<|Zae rz<|rT'<|?_
    refine ivx ?_;unfold ZbS;simp only[Bool.not_eq_true',Bool.not_eq_false',Zbz,Zce,decide_eq_true_eq,decide_eq_false_iff_not] at *;repeat' split
    all_goals omega
   refine dO<|dg<|dO<|Dw (Zaa lk gx gt0)<|dO<|Dw (ZaY lk lki)<|dO<|Dw vm<|?_
   refine dq' (t:=49) gt pt pt (λhg49=>?_) (λhg49=>?_)
   .refine dO<|dg<|dO<|Dw (Zaa lk gx gt2)<|dO<|Dw vm<|dO<|Dw vm<|dO<|?_
    have hym:(1<=y/\y<=9999)/\(1<=m/\m<=12):=by simp only[Bool.not_eq_true',Bool.not_eq_false',Zbz,Zce] at *;omega
    refine ZaB mp (λhE hX=>ZdC om om hym.2.1 hym.2.2) pt ?_
    refine d_do gt ?_
    refine ZaB mp (λhE hX=>Zb9) pt ?_
    refine dO<|Dw (ZaF lk)<|dO<|Dw (Zaj lk lk)<|Dw (Zak lk lk)<|Dw vm<|ZaH<|?_
    refine ZaU ?_
    refine sn' ?_
    refine ZaA lk (λhc4=>?_) (λhc4=>?_)
    .refine wo<|Zap<|Zah<|Zae rz<|rT'<|?_
     refine ivx ?_;unfold ZbS;simp only[Bool.not_eq_true',Bool.not_eq_false',Zbz,Zce,decide_eq_true_eq,decide_eq_false_iff_not] at *;repeat' split
     all_goals omega
    refine Zay<|Zau<|Zan<|wo<|Zae rz<|rT'<|?_
    refine ivx ?_;unfold ZbS;simp only[Bool.not_eq_true',Bool.not_eq_false',Zbz,Zce,decide_eq_true_eq,decide_eq_false_iff_not] at *;repeat' split
    all_goals omega
   refine dn<|dn<|dn<|dn<|dn<|dn<|dn<|dO<|Dw (Zak lk lkb)<|Dw (Zak lk lk)<|Dw vm<|ZaH<|?_
   refine ZaU ?_
   refine sn'<|ZaV lk<|Zay<|Zau<|Zan<|wo<|Zae rz<|rT'<|?_
   refine ivx ?_;unfold ZbS;simp only[Bool.not_eq_true',Bool.not_eq_false',Zbz,Zce,decide_eq_true_eq,decide_eq_false_iff_not] at *;repeat' split
   all_goals omega
  refine dn<|dn<|dn<|Dw (Zak lk lkb)<|Dw vm<|dO<|dg<|dO<|Dw (Zaa lk gx gt0)<|dO<|Dw (ZaY lk lki)<|dO<|Dw vm<|?_
  refine dq' (t:=49) gt pt pt (λhg49=>?_) (λhg49=>?_)
  .refine dO<|dg<|dO<|Dw (Zaa lk gx gt2)<|dO<|Dw vm<|dO<|Dw vm<|dO<|?_
   have hym:(1<=y/\y<=9999)/\(1<=m/\m<=12):=by simp only[Bool.not_eq_true',Bool.not_eq_false',Zbz,Zce] at *;omega
   refine ZaB mp (λhE hX=>ZdC om om hym.2.1 hym.2.2) pt ?_
   refine d_do gt ?_
   refine ZaB mp (λhE hX=>Zb9) pt ?_
   refine dO<|Dw (ZaF lk)<|dO<|Dw (Zaj lk lk)<|Dw (Zak lk lk)<|Dw vm<|ZaH<|?_
   refine ZaU ?_
   refine sn' ?_
   refine ZaA lk (λhc4=>?_) (λhc4=>?_)
   .refine wo<|Zap<|Zah<|Zae rz<|rT'<|?_
    refine ivx ?_;unfold ZbS;simp only[Bool.not_eq_true',Bool.not_eq_false',Zbz,Zce,decide_eq_true_eq,decide_eq_false_iff_not] at *;repeat' split
    all_goals omega
   refine Zay<|Zau<|Zan<|wo<|Zae rz<|rT'<|?_
   refine ivx ?_;unfold ZbS;simp only[Bool.not_eq_true',Bool.not_eq_false',Zbz,Zce,decide_eq_true_eq,decide_eq_false_iff_not] at *;repeat' split
   all_goals omega
  refine dn<|dn<|dn<|dn<|dn<|dn<|dn<|dO<|Dw (Zak lk lkb)<|Dw (Zak lk lk)<|Dw vm<|ZaH<|?_
  refine ZaU ?_
  refine sn'<|ZaV lk<|Zay<|Zau<|Zan<|wo<|Zae rz<|rT'<|?_
  refine ivx ?_;unfold ZbS;simp only[Bool.not_eq_true',Bool.not_eq_false',Zbz,Zce,decide_eq_true_eq,decide_eq_false_iff_not] at *;repeat' split
  all_goals omega
 refine so<|so<|so<|sd<|Vw (Zak lk lkb)<|Vw (Zak lk lk)<|ms<|ZaV lk<|Zab<|ZaD<|dg<|Dw (Zaa lk gx gt0)<|?_
 refine Dw (Za0 lk lki)<|Dw vm<|?_
 refine dq' (t:=40) gt pt pt (λhg40=>?_) (λhg40=>?_)
 .refine dO<|dg<|dO<|Dw (Zaa lk gx gt2)<|dO<|Dw (ZaY lk lki)<|Dw (Zaj lk lk)<|Dw vm<|?_
  refine dq' (t:=45) gt pt pt (λhg45=>?_) (λhg45=>?_)
  .refine dn<|dn<|dn<|dn<|d_nu gt pt<|d_nu gt pt<|d_nu gt pt<|d_nu gt pt<|d_nu gt pt<|d_nu gt pt<|d_nu gt pt<|dn<|Dw (Zaj lk lkb)<|Dw vm<|?_
   refine ZaH ?_
   refine ZaU ?_
   refine sn'<|Za6 lk<|wo<|Zap<|Zah<|Zae rz<|rT'<|?_
   refine ivx ?_;unfold ZbS;simp only[Bool.not_eq_true',Bool.not_eq_false',Zbz,Zce,decide_eq_true_eq,decide_eq_false_iff_not] at *;repeat' split
   all_goals omega
  refine dO<|dg<|dO<|Dw (Zaa lk gx gt0)<|dO<|Dw (ZaY lk lki)<|dO<|Dw vm<|?_
  refine dq' (t:=49) gt pt pt (λhg49=>?_) (λhg49=>?_)
  .refine dO<|dg<|dO<|Dw (Zaa lk gx gt2)<|dO<|Dw vm<|dO<|Dw vm<|dO<|?_
   have hym:(1<=y/\y<=9999)/\(1<=m/\m<=12):=by simp only[Bool.not_eq_true',Bool.not_eq_false',Zbz,Zce] at *;omega
   refine ZaB mp (λhE hX=>ZdC om om hym.2.1 hym.2.2) pt ?_
   refine d_do gt ?_
   refine ZaB mp (λhE hX=>Zb9) pt ?_
   refine dO<|Dw (ZaF lk)<|dO<|Dw (Zaj lk lk)<|Dw (Zak lk lk)<|Dw vm<|ZaH<|?_
   refine ZaU ?_
   refine sn' ?_
   refine ZaA lk (λhc4=>?_) (λhc4=>?_)
   .refine wo<|Zap<|Zah<|Zae rz<|rT'<|?_
    refine ivx ?_;unfold ZbS;simp only[Bool.not_eq_true',Bool.not_eq_false',Zbz,Zce,decide_eq_true_eq,decide_eq_false_iff_not] at *;repeat' split
    all_goals omega
   refine Zay<|Zau<|Zan<|wo<|Zae rz<|rT'<|?_
   refine ivx ?_;unfold ZbS;simp only[Bool.not_eq_true',Bool.not_eq_false',Zbz,Zce,decide_eq_true_eq,decide_eq_false_iff_not] at *;repeat' split
   all_goals omega
  refine dn<|dn<|dn<|dn<|dn<|dn<|dn<|dO<|Dw (Zak lk lkb)<|Dw (Zak lk lk)<|Dw vm<|ZaH<|?_
  refine ZaU ?_
  refine sn'<|ZaV lk<|Zay<|Zau<|Zan<|wo<|Zae rz<|rT'<|?_
  refine ivx ?_;unfold ZbS;simp only[Bool.not_eq_true',Bool.not_eq_false',Zbz,Zce,decide_eq_true_eq,decide_eq_false_iff_not] at *;repeat' split
  all_goals omega
 refine dn<|dn<|dn<|Dw (Zak lk lkb)<|Dw vm<|dO<|dg<|dO<|Dw (Zaa lk gx gt0)<|dO<|Dw (ZaY lk lki)<|dO<|Dw vm<|?_
 refine dq' (t:=49) gt pt pt (λhg49=>?_) (λhg49=>?_)
 .refine dO<|dg<|dO<|Dw (Zaa lk gx gt2)<|dO<|Dw vm<|dO<|Dw vm<|dO<|?_
  have hym:(1<=y/\y<=9999)/\(1<=m/\m<=12):=by simp only[Bool.not_eq_true',Bool.not_eq_false',Zbz,Zce] at *;omega
  refine ZaB mp (λhE hX=>ZdC om om hym.2.1 hym.2.2) pt ?_
  refine d_do gt ?_
  refine ZaB mp (λhE hX=>Zb9) pt ?_
  refine dO<|Dw (ZaF lk)<|dO<|Dw (Zaj lk lk)<|Dw (Zak lk lk)<|Dw vm<|ZaH<|?_
  refine ZaU ?_
  refine sn' ?_
  refine ZaA lk (λhc4=>?_) (λhc4=>?_)
  .refine wo<|Zap<|Zah<|Zae rz<|rT'<|?_
   refine ivx ?_;unfold ZbS;simp only[Bool.not_eq_true',Bool.not_eq_false',Zbz,Zce,decide_eq_true_eq,decide_eq_false_iff_not] at *;repeat' split
   all_goals omega
  refine Zay<|Zau<|Zan<|wo<|Zae rz<|rT'<|?_
  refine ivx ?_;unfold ZbS;simp only[Bool.not_eq_true',Bool.not_eq_false',Zbz,Zce,decide_eq_true_eq,decide_eq_false_iff_not] at *;repeat' split
  all_goals omega
 refine dn<|dn<|dn<|dn<|dn<|dn<|dn<|dO<|Dw (Zak lk lkb)<|Dw (Zak lk lk)<|Dw vm<|ZaH<|?_
 refine ZaU ?_
 refine sn'<|ZaV lk<|Zay<|Zau<|Zan<|wo<|Zae rz<|rT'<|?_
 refine ivx ?_;unfold ZbS;simp only[Bool.not_eq_true',Bool.not_eq_false',Zbz,Zce,decide_eq_true_eq,decide_eq_false_iff_not] at *;repeat' split
 all_goals omega
def on_a {y m k wk n:Int}{h:AH}:Ac 244 [iv y,iv m,.agg [iv k,iv wk,iv n]] h (.tup [.agg [iv (onV y m k wk n).1.1,iv (onV y m k wk n).1.2.1,iv (onV y m k wk n).1.2.2],iv (onV y m k wk n).2]):=by
 have hfb:=formE_bd y m k wk n
 refine tI' k244 λN hn _ _ hbd=>?_
 simp only[tb'] at hbd ⊢
 refine wr'<|E' (ZaM cv rfl hl0 ha0) pt<|E' (ZaR hl1 ha1) pt<|ms<|Zab<|wm<|mw<|Vw (Zad lk gx Zbo rfl)<|Zac mp (form_a) pt<|?_
 refine ms<|wm<|Vw (ZaY lk lki)<|sn'<|?_
 refine cd' lk (λhc1=>?_) (λhc1=>?_)
 .have hv:=ZkY (y:=y) (m:=m) (kind:=k) (wk:=wk) (n:=n) rfl hc1
  refine wr'<|Vw (Zat Zt5)<|mw<|E' (Zai lk cv gx rfl nb rfl ZbD hs1) ptn<|mr<|Zah<|Zae (rsn (rm1 (rr_c gt gx (ld1 Zbo rfl)) (rm1 (rr_t gt) rm0)))<|rT'<|?_
  rw[hv]
 have he:ZbS y m k wk n=0:=Decidable.of_not_not hc1
 obtain⟨hy,hm,hk,hw,hk1,hk2,hn3⟩:=Zmq he
 have hnb:=Zmi (y:=y) (m:=m) ⟨hy.1,by omega⟩ hm
 have hml:=Zds y m
 have hn':0<=n/\n<=31:=by by_cases e:k=2 <;> simp_all <;> omega
 refine za<|wm<|mw<|Vw (Zat (Zt4 cv rfl cv rfl (cvl lki rfl) rfl))<|?_
 refine Zac mp (ZiR om om om om om om) pt ?_
 refine ms<|wm<|fq<|Vw (Zaa lk gx gt2)<|?_
 refine V' (Zb0 lk lk om om) pt ?_
 refine V' (Za2 lk lki om om) pt ?_
 refine ms<|Zab<|wr'<|fq<|Vw (Zaa lk gx gt0)<|sn'<|Zag<|wr'<|Vw (Za0 lk lki)<|?_
 refine ms<|?_
 refine cd' lk (λhc2=>?_) (λhc2=>?_)
 .have hd:Zdq y m k wk n=bwd (num y m 1+mlen y m-1) wk:=by unfold Zdq;rw[if_pos hc2,Zsm y m (mlen y m)]
  refine ZaD<|Dw vm<|Dw vm<|Dw vm<|?_
  refine ZaB mp (λhE hX=>ZdC om om hm.1 hm.2) pt ?_
  refine D' (Zb0 lk lk om om) pt ?_
  refine D' (Za2 lk lki om om) pt ?_
  refine dg<|Dw (Zaa lk gx gt1)<|?_
  refine ZaB mp (λhE hX=>ZqD om om hw) pt ?_
  refine Dw vm<|ZaH<|?_
  refine ZaU ?_
  refine Zam<|Zau<|Zan<|wm<|Zac mp (of_a) pt<|Vw (ZaS lk gt)<|Vw (ZaS lk gt)<|E' (Zai lk cv gx rfl nb rfl ZbD hs1) ptn<|mr<|?_
  refine Zae (rsn (rm1 (rr_c gt gx (ld1 Zbo rfl)) (rm1 (rr_t gt) rm0)))<|rT'<|?_
  rw[Zjg he hd];split <;> rfl
 refine wr'<|Vw (Za0 lk lki)<|ms<|?_
 refine cd' lk (λhc3=>?_) (λhc3=>?_)
 .have hd:Zdq y m k wk n=fwd (num y m 1+n-1) wk:=by unfold Zdq;rw[if_neg hc2,if_pos hc3,Zsm y m n]
  refine Zao<|mw<|fq<|Vw (Zaa lk gx gt1)<|?_
  refine Zac mp (toward_f om om hw) pt ?_
  refine mw<|Zam<|Zau<|Zan<|wm<|Zac mp (of_a) pt<|Vw (ZaS lk gt)<|Vw (ZaS lk gt)<|E' (Zai lk cv gx rfl nb rfl ZbD hs1) ptn<|ms<|?_
  refine Zbh<|Zae (rsn (rm1 (rr_c gt gx (ld1 Zbo rfl)) (rm1 (rr_t gt) rm0)))<|rT'<|?_
  rw[Zjg he hd];split <;> rfl
 refine wr'<|Vw (Za0 lk lki)<|ms<|?_
 refine cd' lk (λhc4=>?_) (λhc4=>?_)
 .have hd:Zdq y m k wk n=bwd (num y m 1+n-1) wk:=by unfold Zdq;rw[if_neg hc2,if_neg hc3,if_pos hc4,Zsm y m n]
  refine Zao<|mw<|fq<|Vw (Zaa lk gx gt1)<|?_
  refine Zac mp (ZqD om om hw) pt ?_
  refine mw<|Zam<|Zau<|Zan<|wm<|Zac mp (of_a) pt<|Vw (ZaS lk gt)<|Vw (ZaS lk gt)<|E' (Zai lk cv gx rfl nb rfl ZbD hs1) ptn<|ms<|?_
  refine Zbh<|Zae (rsn (rm1 (rr_c gt gx (ld1 Zbo rfl)) (rm1 (rr_t gt) rm0)))<|rT'<|?_
  rw[Zjg he hd];split <;> rfl
 have hd:Zdq y m k wk n=num y m 1+n-1:=by unfold Zdq;rw[if_neg hc2,if_neg hc3,if_neg hc4,Zsm y m n]
 refine Zay<|Zau<|Zan<|wm<|Zac mp (of_a) pt<|Vw (ZaS lk gt)<|Vw (ZaS lk gt)<|E' (Zai lk cv gx rfl nb rfl ZbD hs1) ptn<|mr<|?_
 refine Zae (rsn (rm1 (rr_c gt gx (ld1 Zbo rfl)) (rm1 (rr_t gt) rm0)))<|rT'<|?_
 rw[Zjg he hd];split <;> rfl
def ZbI {n a b:Int}{h:AH}:Ac 81 [iv n,iv a,iv b] h (bv (wi n a b)):=ZeL
def ZgL {y:Int}{h:AH}(h0:0<=y):Ac 315 [iv y] h (bv (Zkr y)):=by
 refine tI' k315 λN hn _ _ hbd=>?_
 simp only[tb'] at hbd ⊢
 refine wk'<|wm<|?_
 refine V' (ZgA lk lki om om) pt ?_
 refine Vw (Za0 lk lki)<|mw<|?_
 refine sp' (t:=6) gt pt pt (λhg6=>?_) (λhg6=>?_)
 .refine so<|so<|so<|so<|s_nu gt pt<|s_nu gt pt<|s_nu gt pt<|so<|Vw (Zaj lk lkb)<|mr<|Zae rz<|?_
  refine rT' ?_
  refine bvx ?_;unfold Zkr;rw[Bool.eq_iff_iff];simp at *;omega
 refine sd<|mw<|sd<|?_
 refine V' (ZgA lk lki om om) pt ?_
 refine sd<|Vw (Za0 lk lki)<|sd<|mw<|?_
 refine sp' (t:=10) gt pt pt (λhg10=>?_) (λhg10=>?_)
 .refine sd<|mw<|sd<|?_
  refine V' (ZgA lk lki om om) pt ?_
  refine sd<|Vw (ZaY lk lki)<|sd<|Vw (Zaj lk lk)<|Vw (Zak lk lk)<|mr<|Zae rz<|rT'<|?_
  refine bvx ?_;unfold Zkr;rw[Bool.eq_iff_iff];simp at *;omega
 refine so<|so<|so<|sd<|Vw (Zak lk lkb)<|Vw (Zak lk lk)<|mr<|Zae rz<|rT'<|?_
 refine bvx ?_;unfold Zkr;rw[Bool.eq_iff_iff];simp at *;omega
def ZoW {y m:Int}{h:AH}(h0:0<=y):Ac 302 [iv y,iv m] h (iv (mlen y m)):=by
 refine tI' k302 λN hn _ _ hbd=>?_
 simp only[tb'] at hbd ⊢
 refine wk'<|Zab<|wk'<|Zag<|Zab<|Zab<|?_
 refine Zao<|Vw (Za0 lk lki)<|ms<|?_
 refine cd' lk (λhc1=>?_) (λhc1=>?_)
 .refine za<|?_
  refine cd' lk (λhc4=>?_) (λhc4=>?_)
  .refine wo<|Zap<|Zah<|Zae rz<|rT'<|?_
   refine ivx ?_;unfold mlen lp;simp_all
  refine wr'<|Vw (Za0 lk lki)<|ms<|?_
  refine cd' lk (λhc5=>?_) (λhc5=>?_)
  .refine Zab<|wm<|Zac mp (ZgL h0) pt<|sn'<|?_
   refine ZaA lk (λhc6=>?_) (λhc6=>?_)
   .refine wo<|Zah<|Zap<|Zah<|Zae rz<|rT'<|?_
    refine ivx ?_;unfold mlen lp;simp_all
   refine za<|wo<|Zap<|Zah<|Zae rz<|rT'<|?_
   refine ivx ?_;unfold mlen lp;simp_all
  refine Zay<|Zau<|Zan<|wo<|Zae rz<|rT'<|?_
  refine ivx ?_;unfold mlen lp;simp_all
 refine wr'<|Vw (Za0 lk lki)<|ms<|?_
 refine cd' lk (λhc2=>?_) (λhc2=>?_)
 .refine za<|?_
  refine cd' lk (λhc4=>?_) (λhc4=>?_)
  .refine wo<|Zap<|Zah<|Zae rz<|rT'<|?_
   refine ivx ?_;unfold mlen lp;simp_all
  refine wr'<|Vw (Za0 lk lki)<|ms<|?_
  refine cd' lk (λhc5=>?_) (λhc5=>?_)
  .refine Zab<|wm<|Zac mp (ZgL h0) pt<|sn'<|?_
   refine ZaA lk (λhc6=>?_) (λhc6=>?_)
   .refine wo<|Zah<|Zap<|Zah<|Zae rz<|rT'<|?_
    refine ivx ?_;unfold mlen lp;simp_all
   refine za<|wo<|Zap<|Zah<|Zae rz<|rT'<|?_
   refine ivx ?_;unfold mlen lp;simp_all
  refine Zay<|Zau<|Zan<|wo<|Zae rz<|rT'<|?_
  refine ivx ?_;unfold mlen lp;simp_all
 refine wr'<|Vw (Za0 lk lki)<|ms<|?_
 refine cd' lk (λhc3=>?_) (λhc3=>?_)
 .refine za<|?_
  refine cd' lk (λhc4=>?_) (λhc4=>?_)
  .refine wo<|Zap<|Zah<|Zae rz<|rT'<|?_
   refine ivx ?_;unfold mlen lp;simp_all
  refine wr'<|Vw (Za0 lk lki)<|ms<|?_
  refine cd' lk (λhc5=>?_) (λhc5=>?_)
  .refine Zab<|wm<|Zac mp (ZgL h0) pt<|sn'<|?_
   refine ZaA lk (λhc6=>?_) (λhc6=>?_)
   .refine wo<|Zah<|Zap<|Zah<|Zae rz<|rT'<|?_
    refine ivx ?_;unfold mlen lp;simp_all
   refine za<|wo<|Zap<|Zah<|Zae rz<|rT'<|?_
   refine ivx ?_;unfold mlen lp;simp_all
  refine Zay<|Zau<|Zan<|wo<|Zae rz<|rT'<|?_
  refine ivx ?_;unfold mlen lp;simp_all
 refine Zao<|Vw (Za0 lk lki)<|ms<|?_
 refine cd' lk (λhc4=>?_) (λhc4=>?_)
 .refine wo<|Zap<|Zah<|Zae rz<|rT'<|?_
  refine ivx ?_;unfold mlen lp;simp_all
 refine wr'<|Vw (Za0 lk lki)<|ms<|?_
 refine cd' lk (λhc5=>?_) (λhc5=>?_)
 .refine Zab<|wm<|Zac mp (ZgL h0) pt<|sn'<|?_
  refine ZaA lk (λhc6=>?_) (λhc6=>?_)
  .refine wo<|Zah<|Zap<|Zah<|Zae rz<|rT'<|?_
   refine ivx ?_;unfold mlen lp;simp_all
  refine za<|wo<|Zap<|Zah<|Zae rz<|rT'<|?_
  refine ivx ?_;unfold mlen lp;simp_all
 refine Zay<|Zau<|Zan<|wo<|Zae rz<|rT'<|?_
 refine ivx ?_;unfold mlen lp;simp_all
def Zdg {y m d:Int}{h:AH}(y0:1<=y) (y1:y<=20000) (m0:1<=m) (m1:m<=12) (d0 : -1000<=d) (d1:d<=1000):Ac 166 [.agg [iv y,iv m,iv d]] h (iv (num y m d)):=by
 refine tI' k166 λN hn _ _ hbd=>?_
 simp only[tb'] at hbd ⊢
 refine wr'<|E' (ZaM cv rfl hl0 ha0) pt<|ms<|Zab<|ZaD<|dg<|Dw (Zaa lk gx gt0)<|dg<|Dw (Zaa lk gx gt1)<|?_
 refine D' (Za2 lk lki om om) pt ?_
 refine Dw vm<|Dw vm<|ZaH<|?_
 refine ZaU ?_
 refine sn'<|Zab<|wm<|Vw (ZaJ lk lki)<|sn'<|?_
 refine cd' lk (λhc1=>?_) (λhc1=>?_)
 .refine wm<|?_
  refine V' (Za2 lk lki om om) pt ?_
  refine ms<|Zao<|mw<|?_
  refine ad<|ms<|wm<|?_
  refine V' (Zhh lk lki om om om) pt ?_
  refine V' (Zgg lk lki om om) pt ?_
  refine mv' lk pt ?_
  refine V' (ZgA lk lki om om) pt ?_
  refine V' (Zgg lk lki om om) pt ?_
  refine V' (Zb0 lk lk om om) pt ?_
  refine mv' lk pt ?_
  refine V' (ZgA lk lki om om) pt ?_
  refine V' (Zhh lk lki om om om) pt ?_
  refine V' (Zb0 lk lk om om) pt ?_
  refine mv' lk pt ?_
  refine V' (ZgA lk lki om om) pt ?_
  refine V' (Zhh lk lki om om om) pt ?_
  refine V' (Za2 lk lk om om) pt ?_
  refine ms<|wm<|mw<|?_
  refine V' (Zgg lki lk om om) pt ?_
  refine ad<|V' (Zhh lk lki om om om) pt ?_
  refine V' (Zb0 lk lk om om) pt ?_
  refine fq<|Vw (Zaa lk gx gt2)<|?_
  refine V' (Zb0 lk lk om om) pt ?_
  refine V' (Za2 lk lki om om) pt ?_
  refine V' (Za2 lk lki om om) pt ?_
  refine mr<|Zae rz<|rT'<|?_
  refine ivx ?_;rw[<-num_ref2 m0 om]
 refine za<|wm<|?_
 refine V' (Zhh lk lki om om om) pt ?_
 refine V' (Zgg lk lki om om) pt ?_
 refine mv' lk pt ?_
 refine V' (ZgA lk lki om om) pt ?_
 refine V' (Zgg lk lki om om) pt ?_
 refine V' (Zb0 lk lk om om) pt ?_
 refine mv' lk pt ?_
 refine V' (ZgA lk lki om om) pt ?_
 refine V' (Zhh lk lki om om om) pt ?_
 refine V' (Zb0 lk lk om om) pt ?_
 refine mv' lk pt ?_
 refine V' (ZgA lk lki om om) pt ?_
 refine V' (Zhh lk lki om om om) pt ?_
 refine V' (Za2 lk lk om om) pt ?_
 refine ms<|wm<|mw<|?_
 refine V' (Zgg lki lk om om) pt ?_
 refine ad<|V' (Zhh lk lki om om om) pt ?_
 refine V' (Zb0 lk lk om om) pt ?_
 refine fq<|Vw (Zaa lk gx gt2)<|?_
 refine V' (Zb0 lk lk om om) pt ?_
 refine V' (Za2 lk lki om om) pt ?_
 refine V' (Za2 lk lki om om) pt ?_
 refine mr<|Zae rz<|rT'<|?_
 refine ivx ?_;rw[<-num_ref1 om m1]
def ZqN {h:AH}:Ac 120 [] h (iv (-719162)):=by
 refine tI' k120 λN hn _ _ hbd=>?_
 simp only[tb'] at hbd ⊢
 refine wk'<|wr'<|Vw (Zat (Zkj (cvl lki rfl) rfl (cvl lki rfl) rfl (cvl lki rfl) rfl))<|?_
 refine Zac mp (Zdg om om om om om om) pt ?_
 refine mr<|Zae rz<|rT'<|?_
 exact ivx (by decide)
def Zu7 {h:AH}:Ac 121 [] h (iv 2932896):=by
 refine tI' k121 λN hn _ _ hbd=>?_
 simp only[tb'] at hbd ⊢
 refine wk'<|wr'<|Vw (Zat (ZkF (cvl lki rfl) rfl (cvl lki rfl) rfl (cvl lki rfl) rfl))<|?_
 refine Zac mp (Zdg om om om om om om) pt ?_
 refine mr<|Zae rz<|rT'<|?_
 exact ivx (by decide)
def Zr9 {n:Int}{h:AH}:Ac 303 [iv n] h (iv (wd n)):=by
 have hb1 : -6<=n.tmod 7/\n.tmod 7<=6:=by rw[Zr1];split <;> omega
 refine tI' k303 λN hn _ _ hbd=>?_
 simp only[tb'] at hbd ⊢
 refine wk'<|wm<|?_
 refine V' (Zqx lk lki om) pt ?_
 refine ms<|Zab<|wm<|Vw (ZaJ lk lki)<|sn'<|?_
 refine cd' lk (λhc1=>?_) (λhc1=>?_)
 .refine Zao<|mw<|?_
  refine ad<|ms<|wm<|?_
  refine ad<|V' (ZgA lk lki om om) pt ?_
  refine mr<|Zae rz<|rT'<|?_
  refine ivx ?_;unfold wd;rw[Zr1] at *;split at * <;> omega
 refine za<|wm<|?_
 refine ad<|V' (ZgA lk lki om om) pt ?_
 refine mr<|Zae rz<|rT'<|?_
 refine ivx ?_;unfold wd;rw[Zr1] at *;split at * <;> omega
def Zvh {n:Int}{h:AH}(h0 : -719162<=n) (h1:n<=2932896):Ac 304 [iv n] h (dateA (Zbn n)):=by
 refine tI' k304 λN hn _ _ hbd=>?_
 simp only[tb'] at hbd ⊢
 refine wr'<|E' (ZaR hl0 ha0) pt<|sn'<|wm<|ms<|Zab<|Zag<|?_
 refine w_lp (ι:=Int×Int) (λ⟨y,z⟩=>[(3,iv y),(4,iv z),(5,.any)]++rn' 7 15) (λ⟨y,z⟩=>[]) (λ⟨y,z⟩=>1<=y/\y<z/\z<=10000/\num y 1 1<=n/\n<num z 1 1) (λ⟨y,z⟩=>(z-y).toNat) (⟨1,10000⟩) (by exact⟨by omega,by omega,by omega,by rw[ZvL,bef_1];omega,by rw[ZvL,Zdl];omega⟩) ?_
 rintro⟨y,z⟩ hi1
 try simp only[sm',Nat.reduceAdd]
 obtain⟨hy,hyz,hz,hn1,hn2⟩:=hi1
 refine Zab<|wm<|mw<|?_
 refine V' (Za2 lk lk om om) pt ?_
 refine Vw (Zbr lk lki)<|sn'<|?_
 refine cd' lk (λhc1=>?_) (λhc1=>?_)
 .refine za<|Zag<|wm<|mw<|?_
  refine V' (Zb0 lk lk om om) pt ?_
  refine V' (Zhh lk lki om om om) pt ?_
  refine ms<|wm<|Vw (Zat (ZkH cv rfl (cvl lki rfl) rfl (cvl lki rfl) rfl))<|?_
  refine Zac mp (Zdg om om om om om om) pt ?_
  refine mw<|Vw (ZdO lk lk)<|sn'<|?_
  refine cd' lk (λhc2=>?_) (λhc2=>?_)
  .refine Zao<|mw<|mw<|Zam<|Zau<|Zaw<|?_
   refine lU' (⟨(y+z)/2,z⟩) (by (try dsimp only);exact⟨by omega,by omega,by omega,by omega,by omega⟩) (by refine zz ?_;exact ALe.same (by repeat (first | exact wk0 | refine wka ?_ | refine wk1 rfl ?_ | refine wk1 (by first | rfl | exact ivx om | (simp;done)) ?_)) rfl)
  refine Zao<|mw<|mw<|Zam<|Zau<|Zaw<|?_
  refine lU' (⟨y,(y+z)/2⟩) (by (try dsimp only);exact⟨by omega,by omega,by omega,by omega,by omega⟩) (by refine zz ?_;exact ALe.same (by repeat (first | exact wk0 | refine wka ?_ | refine wk1 rfl ?_ | refine wk1 (by first | rfl | exact ivx om | (simp;done)) ?_)) rfl)
 obtain rfl:z=y+1:=by omega
 have hup:num y 12 1+mlen y 12=num (y+1) 1 1:=by rw[ZvL,ZfP];unfold num cum mlen;simp;omega
 refine Zax<|Zas<|Zas<|ZaK<|Zan<|wm<|Vw (Zat (ZkG cv rfl (cvl lki rfl) rfl (cvl lki rfl) rfl))<|E' (ZaR hl1 ha1) pt<|E' (Zai lk cv gx rfl nb rfl ZbD hs1) ptn<|sn'<|Zab<|?_
 refine Zag ?_
 refine w_lp (ι:=Int) (λ(m:Int)=>[]++rn' 24 8) (λ(m:Int)=>[(1,.mk 0 66 3 [iv y,iv m,iv 1])]) (λ(m:Int)=>1<=m/\m<=12/\n<num y m 1+mlen y m) (λ(m:Int)=>m.toNat) (12) (by exact⟨by omega,by omega,by rw[hup];exact hn2⟩) ?_
 rintro m hi2
 try simp only[sm',Nat.reduceAdd]
 obtain⟨hm0,hm1,hn3⟩:=hi2
 refine Zab<|wr'<|Vw (Zad lk gx Zbo rfl)<|?_
 refine Zac mp (Zdg om om om om om om) pt ?_
 refine mw<|Vw (Zbr lk lk)<|sn'<|?_
 refine cd' lk (λhc3=>?_) (λhc3=>?_)
 .have hm2:2<=m:=by
   rcases Int.lt_or_le m 2 with c | c
   .obtain rfl:m=1:=by omega
    omega
   exact c
  have hst:num y (m-1) 1+mlen y (m-1)=num y m 1:=by have:=ZgX (y:=y) (m:=m-1) om om;rw[show m-1+1=m by omega] at this;unfold num;omega
  refine za<|Zag<|Zao<|fq<|Vw (Zaa lk gx gt1)<|?_
  refine V' (Za2 lk lki om om) pt ?_
  refine fq<|E' (Zai lk cv gx rfl nb rfl Zt3 hs1) ptn<|Zam<|Zau<|Zaw<|?_
  refine lT' (m-1) (by (try dsimp only);exact⟨by omega,by omega,by rw[hst];exact hc3⟩)
 have hd:Zbx y m (n-num y m 1+1)=true:=by
  have h1:=Znw (ZbW.2 ⟨hy,by omega,hm0,hm1,by omega,by have:=Zds y m;omega⟩:Zbx y m 1=true)
  rw[ZbW];omega
 have hdn:num y m (n-num y m 1+1)=n:=by unfold num;omega
 have hde:=Zww hd hdn
 have hnb:=Zmi (y:=y) (m:=m) ⟨hy,by omega⟩ ⟨hm0,hm1⟩
 refine Zax<|Zas<|Zas<|ZaK<|Zan<|wm<|Vw (Zad lk gx Zbo rfl)<|?_
 refine Zac mp (Zdg om om om om om om) pt ?_
 refine V' (Za2 lk lk om om) pt ?_
 refine ad<|fq<|E' (Zai lk cv gx rfl nb rfl Zt2 hs1) ptn<|sn'<|wr'<|Vw (Zad lk gx Zbo rfl)<|E' (Zai lk cv gx rfl nb rfl ZbD hs0) ptn<|sr<|Zae (rs1 (rr_c gt gx (ld1 Zbo rfl)))<|rT'<|?_
 rw[hde]
def onSt (y m k n:Int):Int:=num y m 1-1+if k=2 then mlen y m else n
def onGo (k wk s:Int) (j:Nat):Int:=if k=3 then s+j else s-j
def Zht (k wk s:Int):Int:=if k<=1 then 0 else if k=3 then (wk-wd s)%7 else (wd s-wk)%7
def ZiQ (k wk s:Int):0<=Zht k wk s/\Zht k wk s<=6:=by
 unfold Zht
 repeat' split
 all_goals omega
def onGo_go {k wk s:Int}{j:Nat}(hw:0<=wk/\wk<=6) (hj:(j:Int)<=Zht k wk s) (h:j<7/\1<k/\wd (onGo k wk s j)≠wk):(j:Int)+1<=Zht k wk s:=by
 have h1:=Zud (n:=s) (k:=wk) (j:=j) om
 have h2:=Zue (n:=s) (k:=wk) (j:=j) om
 unfold Zht onGo at *
 rw[if_neg om] at hj ⊢
 split at hj <;> rename_i h3
 .simp only[h3,if_true] at h ⊢
  have:=h1 hj hw
  omega
 simp only[h3,if_false] at h ⊢
 have:=h2 hj hw
 omega
def onGo_end {y m k wk n:Int}{j:Nat}(hk:1<=k/\k<=4) (hw:0<=wk/\wk<=6) (hj:(j:Int)<=Zht k wk (onSt y m k n)) (h:¬(j<7/\1<k/\wd (onGo k wk (onSt y m k n) j)≠wk)):Zdq y m k wk n=onGo k wk (onSt y m k n) j:=by
 have hb:=ZiQ k wk (onSt y m k n)
 have h1:=Zud (n:=onSt y m k n) (k:=wk) (j:=j) om
 have h2:=Zue (n:=onSt y m k n) (k:=wk) (j:=j) om
 have e1:=Zsm y m n
 have e2:=Zsm y m (mlen y m)
 have h5:k=1\/k=2\/k=3\/k=4:=by omega
 rcases h5 with rfl | rfl | rfl | rfl
 .simp only[Zht,onGo,onSt,Zdq,fwd,bwd] at *
  simp at hj ⊢
  omega
 .simp only[Zht,onGo,onSt,Zdq,fwd,bwd] at *
  simp at hj h h1 h2 ⊢
  rw[show num y m (mlen y m)=num y m 1-1+mlen y m by omega]
  omega
 .simp only[Zht,onGo,onSt,Zdq,fwd,bwd] at *
  simp at hj h h1 h2 ⊢
  rw[show num y m n=num y m 1-1+n by omega]
  omega
 simp only[Zht,onGo,onSt,Zdq,fwd,bwd] at *
 simp at hj h h1 h2 ⊢
 rw[show num y m n=num y m 1-1+n by omega]
 omega
def onSt_bd {y m k n:Int}(hy:1<=y/\y<=20000) (hm:1<=m/\m<=12) (hn:k≠2->1<=n/\n<=mlen y m) : -8000010<=onSt y m k n/\onSt y m k n<=8000040:=by
 have h1:=Zmi hy hm
 have h2:=Zds y m
 unfold onSt;split
 .omega
 have:=hn (by assumption);omega
def onGo_bd {k wk s:Int}{j:Nat}(h:(j:Int)<=Zht k wk s):s-6<=onGo k wk s j/\onGo k wk s j<=s+6:=by
 have:=ZiQ k wk s
 unfold onGo;split <;> omega
def wiB {n a b:Int}:wi n a b=decide (a<=n/\n<=b):=by unfold wi;rw[Bool.decide_and]
def ron_a {y m k wk n:Int}{h:AH}:Ac 269 [iv y,iv m,.agg [iv k,iv wk,iv n]] h (.tup [.agg [iv (onV y m k wk n).1.1,iv (onV y m k wk n).1.2.1,iv (onV y m k wk n).1.2.2],iv (onV y m k wk n).2]):=by
 refine tI' k269 λN hn _ _ hbd=>?_
 simp only[tb'] at hbd ⊢
 refine wr'<|E' (ZaM cv rfl hl0 ha0) pt<|E' (ZaR hl1 ha1) pt<|ms<|Zab<|?_
 refine Zfg (ι:=Unit) (λ(u_:Unit)=>[(18,bv (decide (¬(1<=y/\y<=9999)\/¬(1<=m/\m<=12))))]++rn' 11 7) (λ(u_:Unit)=>[]) (λ(u_:Unit)=>True) ?_ ?_
 .try simp only[sm',Nat.reduceAdd]
  refine Zao<|mw<|Zac mp (ZbI) pt<|Vw (ZaF lk)<|mw<|?_
  refine Zbd (t:=14) gt pt pt (λhg14=>?_) (λhg14=>?_)
  .refine so<|so<|so<|Vw (Zaj lk lkb)<|Zam<|Zaw<|?_
   exact cT' (()) (by trivial) (by refine zz ?_;exact ALe.same (by repeat (first | exact wk0 | refine wka ?_ | refine wk1 rfl ?_ | refine wk1 (by first | rfl | exact bvx (by first | (simp_all [wiB];done) | (rw[Bool.eq_iff_iff];simp_all [wiB];omega) | (rw[Bool.eq_iff_iff];simp_all [wiB];done))) ?_)) rfl)
  refine sd<|mw<|sd<|Zac mp (ZbI) pt<|sd<|Vw (ZaF lk)<|Vw (Zak lk lk)<|Zam<|Zaw<|?_
  exact cT' (()) (by trivial) (by refine zz ?_;exact ALe.same (by repeat (first | exact wk0 | refine wka ?_ | refine wk1 rfl ?_ | refine wk1 (by first | rfl | exact bvx (by first | (simp_all [wiB];done) | (rw[Bool.eq_iff_iff];simp_all [wiB];omega) | (rw[Bool.eq_iff_iff];simp_all [wiB];done))) ?_)) rfl)
 rintro u_ hq2
 try simp only[sm',Nat.reduceAdd]
 refine cd' lk (λhc1=>?_) (λhc1=>?_)
 .have hv:=ZkY (y:=y) (m:=m) (kind:=k) (wk:=wk) (n:=n) (k:=3) (by unfold ZbS;rw[if_pos hc1]) om
  refine wr'<|Vw (Zat Zoy)<|E' (Zai lk cv gx rfl nb rfl ZbD hs1) ptn<|mr<|Zah<|Zae (rsn (rm1 (rr_c gt gx (ld1 Zbo rfl)) (rm1 (rr_t gt) rm0)))<|rT'<|?_
  rw[hv]
 have hym:(1<=y/\y<=9999)/\(1<=m/\m<=12):=by omega
 refine za<|Zab<|wr'<|fq<|Vw (Zaa lk gx gt0)<|Zac mp (ZbI) pt<|Vw (ZaF lk)<|sn'<|?_
 refine ZaA lk (λhc2=>?_) (λhc2=>?_)
 .have hk:¬(1<=k/\k<=4):=by have h9:=hc2;simp[wiB] at h9;omega
  have hv:=ZkY (y:=y) (m:=m) (kind:=k) (wk:=wk) (n:=n) (k:=7) (by unfold ZbS;rw[if_neg hc1,if_pos hk]) om
  refine wr'<|Vw (Zat Zox)<|E' (Zai lk cv gx rfl nb rfl ZbD hs1) ptn<|mr<|Zah<|Zae (rsn (rm1 (rr_c gt gx (ld1 Zbo rfl)) (rm1 (rr_t gt) rm0)))<|rT'<|?_
  rw[hv]
 have hk:1<=k/\k<=4:=by have h9:=hc2;simp[wiB] at h9;omega
 refine za<|Zab<|?_
 refine Zfg (ι:=Unit) (λ(u_:Unit)=>[(38,bv (decide (¬(0<=wk/\wk<=6)\/k=1/\wk≠0)))]++rn' 25 13) (λ(u_:Unit)=>[]) (λ(u_:Unit)=>True) ?_ ?_
 .try simp only[sm',Nat.reduceAdd]
  refine Zao<|fq<|Vw (Zaa lk gx gt1)<|Zac mp (ZbI) pt<|Vw (ZaF lk)<|mw<|?_
  refine Zbd (t:=29) gt pt pt (λhg29=>?_) (λhg29=>?_)
  .refine so<|so<|so<|so<|s_nu gt pt<|s_nu gt pt<|s_nu gt pt<|so<|Vw (Zaj lk lkb)<|Zam<|Zaw<|?_
   exact cT' (()) (by trivial) (by refine zz ?_;exact ALe.same (by repeat (first | exact wk0 | refine wka ?_ | refine wk1 rfl ?_ | refine wk1 (by first | rfl | exact bvx (by first | (simp_all [wiB];done) | (rw[Bool.eq_iff_iff];simp_all [wiB];omega) | (rw[Bool.eq_iff_iff];simp_all [wiB];done))) ?_)) rfl)
  refine sd<|fq<|sd<|Vw (Zaa lk gx gt0)<|sd<|Vw (Za0 lk lki)<|sd<|mw<|?_
  refine sp' (t:=33) gt pt pt (λhg33=>?_) (λhg33=>?_)
  .refine sd<|fq<|sd<|Vw (Zaa lk gx gt1)<|sd<|Vw (ZaY lk lki)<|sd<|Vw (Zaj lk lk)<|Vw (Zak lk lk)<|Zam<|Zaw<|?_
   exact cT' (()) (by trivial) (by refine zz ?_;exact ALe.same (by repeat (first | exact wk0 | refine wka ?_ | refine wk1 rfl ?_ | refine wk1 (by first | rfl | exact bvx (by first | (simp_all [wiB];done) | (rw[Bool.eq_iff_iff];simp_all [wiB];omega) | (rw[Bool.eq_iff_iff];simp_all [wiB];done))) ?_)) rfl)
  refine so<|so<|so<|sd<|Vw (Zak lk lkb)<|Vw (Zak lk lk)<|Zam<|Zaw<|?_
  exact cT' (()) (by trivial) (by refine zz ?_;exact ALe.same (by repeat (first | exact wk0 | refine wka ?_ | refine wk1 rfl ?_ | refine wk1 (by first | rfl | exact bvx (by first | (simp_all [wiB];done) | (rw[Bool.eq_iff_iff];simp_all [wiB];omega) | (rw[Bool.eq_iff_iff];simp_all [wiB];done))) ?_)) rfl)
 rintro u_ hq8
 try simp only[sm',Nat.reduceAdd]
 refine cd' lk (λhc3=>?_) (λhc3=>?_)
 .have hv:=ZkY (y:=y) (m:=m) (kind:=k) (wk:=wk) (n:=n) (k:=3) (by unfold ZbS;rw[if_neg hc1,if_neg om,if_pos hc3]) om
  refine wr'<|Vw (Zat Zow)<|E' (Zai lk cv gx rfl nb rfl ZbD hs1) ptn<|mr<|Zah<|Zae (rsn (rm1 (rr_c gt gx (ld1 Zbo rfl)) (rm1 (rr_t gt) rm0)))<|rT'<|?_
  rw[hv]
 refine za<|wm<|mw<|?_
 refine Zac mp (ZoW om) pt ?_
 refine ms<|Zab<|?_
 refine Zfg (ι:=Unit) (λ(u_:Unit)=>[(62,bv (decide (k=2/\n≠0\/k≠2/\¬(1<=n/\n<=mlen y m))))]++rn' 43 19) (λ(u_:Unit)=>[]) (λ(u_:Unit)=>True) ?_ ?_
 .try simp only[sm',Nat.reduceAdd]
  refine Zao<|fq<|Vw (Zaa lk gx gt0)<|Vw (Za0 lk lki)<|mw<|?_
  refine sp' (t:=46) gt pt pt (λhg46=>?_) (λhg46=>?_)
  .refine sd<|fq<|sd<|Vw (Zaa lk gx gt2)<|sd<|Vw (ZaY lk lki)<|Vw (Zaj lk lk)<|mw<|?_
   refine sp' (t:=51) gt pt pt (λhg51=>?_) (λhg51=>?_)
   .refine so<|so<|so<|so<|s_nu gt pt<|s_nu gt pt<|s_nu gt pt<|s_nu gt pt<|s_nu gt pt<|so<|Vw (Zaj lk lkb)<|Zam<|Zaw<|?_
    exact cT' (()) (by trivial) (by refine zz ?_;exact ALe.same (by repeat (first | exact wk0 | refine wka ?_ | refine wk1 rfl ?_ | refine wk1 (by first | rfl | exact bvx (by first | (simp_all [wiB];done) | (rw[Bool.eq_iff_iff];simp_all [wiB];omega) | (rw[Bool.eq_iff_iff];simp_all [wiB];done))) ?_)) rfl)
   refine sd<|fq<|sd<|Vw (Zaa lk gx gt0)<|sd<|Vw (ZaY lk lki)<|sd<|mw<|?_
   refine sp' (t:=55) gt pt pt (λhg55=>?_) (λhg55=>?_)
   .refine sd<|fq<|sd<|Vw (Zaa lk gx gt2)<|sd<|mw<|sd<|Zac mp (ZbI) pt<|sd<|Vw (ZaF lk)<|sd<|Vw (Zaj lk lk)<|Vw (Zak lk lk)<|Zam<|?_
    refine Zaw ?_
    exact cT' (()) (by trivial) (by refine zz ?_;exact ALe.same (by repeat (first | exact wk0 | refine wka ?_ | refine wk1 rfl ?_ | refine wk1 (by first | rfl | exact bvx (by first | (simp_all [wiB];done) | (rw[Bool.eq_iff_iff];simp_all [wiB];omega) | (rw[Bool.eq_iff_iff];simp_all [wiB];done))) ?_)) rfl)
   refine so<|so<|so<|so<|so<|sd<|Vw (Zak lk lkb)<|Vw (Zak lk lk)<|Zam<|Zaw<|?_
   exact cT' (()) (by trivial) (by refine zz ?_;exact ALe.same (by repeat (first | exact wk0 | refine wka ?_ | refine wk1 rfl ?_ | refine wk1 (by first | rfl | exact bvx (by first | (simp_all [wiB];done) | (rw[Bool.eq_iff_iff];simp_all [wiB];omega) | (rw[Bool.eq_iff_iff];simp_all [wiB];done))) ?_)) rfl)
  refine so<|so<|so<|Vw (Zak lk lkb)<|mw<|sd<|fq<|sd<|Vw (Zaa lk gx gt0)<|sd<|Vw (ZaY lk lki)<|sd<|mw<|?_
  refine sp' (t:=55) gt pt pt (λhg55=>?_) (λhg55=>?_)
  .refine sd<|fq<|sd<|Vw (Zaa lk gx gt2)<|sd<|mw<|sd<|Zac mp (ZbI) pt<|sd<|Vw (ZaF lk)<|sd<|Vw (Zaj lk lk)<|Vw (Zak lk lk)<|Zam<|?_
   refine Zaw ?_
   exact cT' (()) (by trivial) (by refine zz ?_;exact ALe.same (by repeat (first | exact wk0 | refine wka ?_ | refine wk1 rfl ?_ | refine wk1 (by first | rfl | exact bvx (by first | (simp_all [wiB];done) | (rw[Bool.eq_iff_iff];simp_all [wiB];omega) | (rw[Bool.eq_iff_iff];simp_all [wiB];done))) ?_)) rfl)
  refine so<|so<|so<|so<|so<|sd<|Vw (Zak lk lkb)<|Vw (Zak lk lk)<|Zam<|Zaw<|?_
  exact cT' (()) (by trivial) (by refine zz ?_;exact ALe.same (by repeat (first | exact wk0 | refine wka ?_ | refine wk1 rfl ?_ | refine wk1 (by first | rfl | exact bvx (by first | (simp_all [wiB];done) | (rw[Bool.eq_iff_iff];simp_all [wiB];omega) | (rw[Bool.eq_iff_iff];simp_all [wiB];done))) ?_)) rfl)
 rintro u_ hq12
 try simp only[sm',Nat.reduceAdd]
 refine cd' lk (λhc4=>?_) (λhc4=>?_)
 .have hv:=ZkY (y:=y) (m:=m) (kind:=k) (wk:=wk) (n:=n) (k:=3) (by unfold ZbS;rw[if_neg hc1,if_neg om,if_neg hc3,if_pos hc4]) om
  refine wr'<|Vw (Zat Zov)<|E' (Zai lk cv gx rfl nb rfl ZbD hs1) ptn<|mr<|Zah<|Zae (rsn (rm1 (rr_c gt gx (ld1 Zbo rfl)) (rm1 (rr_t gt) rm0)))<|rT'<|?_
  rw[hv]
 have he:ZbS y m k wk n=0:=by unfold ZbS;rw[if_neg hc1,if_neg om,if_neg hc3,if_neg hc4]
 have hw:0<=wk/\wk<=6:=by omega
 have hsb:=onSt_bd (y:=y) (m:=m) (k:=k) (n:=n) ⟨hym.1.1,by omega⟩ hym.2 om
 have hnb:=Zmi (y:=y) (m:=m) ⟨hym.1.1,by omega⟩ hym.2
 have hml:=Zds y m
 have hn':0<=n/\n<=31:=by omega
 refine za<|wm<|mw<|Vw (Zat (Zou cv rfl cv rfl (cvl lki rfl) rfl))<|?_
 refine Zac mp (Zdg om om om om om om) pt ?_
 refine V' (Za2 lk lki om om) pt ?_
 refine ms<|?_
 refine Zfg (ι:=Unit) (λ(u_:Unit)=>[(9,iv (onSt y m k n))]++rn' 69 17) (λ(u_:Unit)=>[]) (λ(u_:Unit)=>True) ?_ ?_
 .try simp only[sm',Nat.reduceAdd]
  refine wr'<|fq<|Vw (Zaa lk gx gt0)<|sn'<|Zag<|wr'<|Vw (Za0 lk lki)<|ms<|?_
  refine cd' lk (λhc5=>?_) (λhc5=>?_)
  .refine Zao<|mw<|fq<|Vw (Zaa lk gx gt2)<|?_
   refine V' (Zb0 lk lk om om) pt ?_
   refine mw<|Zam<|Zau<|Zaw<|?_
   exact cT' (()) (by trivial) (by refine zz ?_;exact ALe.same (by repeat (first | exact wk0 | refine wka ?_ | refine wk1 rfl ?_ | refine wk1 (by first | rfl | exact ivx (by unfold onSt;simp_all) | exact ivx (by unfold onSt;rw[if_neg om])) ?_)) rfl)
  refine wr'<|Vw (Za0 lk lki)<|ms<|?_
  refine cd' lk (λhc6=>?_) (λhc6=>?_)
  .refine Zao<|mw<|mw<|?_
   refine V' (Zb0 lk lk om om) pt ?_
   refine mw<|Zam<|Zau<|Zaw<|?_
   exact cT' (()) (by trivial) (by refine zz ?_;exact ALe.same (by repeat (first | exact wk0 | refine wka ?_ | refine wk1 rfl ?_ | refine wk1 (by first | rfl | exact ivx (by unfold onSt;simp_all) | exact ivx (by unfold onSt;rw[if_neg om])) ?_)) rfl)
  refine Zao<|mw<|fq<|Vw (Zaa lk gx gt2)<|?_
  refine V' (Zb0 lk lk om om) pt ?_
  refine mw<|Zam<|Zau<|Zaw<|?_
  exact cT' (()) (by trivial) (by refine zz ?_;exact ALe.same (by repeat (first | exact wk0 | refine wka ?_ | refine wk1 rfl ?_ | refine wk1 (by first | rfl | exact ivx (by unfold onSt;simp_all) | exact ivx (by unfold onSt;rw[if_neg om])) ?_)) rfl)
 rintro u_ hq19
 try simp only[sm',Nat.reduceAdd]
 refine Zab<|wk'<|Zag<|?_
 refine Zd1 (ι:=Nat) (λ(j:Nat)=>[(9,iv (onGo k wk (onSt y m k n) j)),(10,iv (j:Int))]++rn' 86 23) (λ(j:Nat)=>[]) (λ(j:Nat)=>(j:Int)<=Zht k wk (onSt y m k n)) (λ(j:Nat)=>7-j) (0) (by exact (ZiQ _ _ _).1) (by try simp only[sm',Nat.reduceAdd];exact ALe.same (by repeat (first | exact wk0 | refine wka ?_ | refine wk1 rfl ?_ | refine wk1 (by first | rfl | exact ivx (by unfold onGo;simp)) ?_)) rfl) ?_
 rintro j hi1
 try simp only[sm',Nat.reduceAdd]
 have hgb:=onGo_bd hi1
 have hfb:=ZiQ k wk (onSt y m k n)
 refine Zab ?_
 refine Zfg (ι:=Unit) (λ(u_:Unit)=>[(99,bv (decide (j<7/\1<k/\wd (onGo k wk (onSt y m k n) j)≠wk)))]++rn' 86 13) (λ(u_:Unit)=>[]) (λ(u_:Unit)=>True) ?_ ?_
 .try simp only[sm',Nat.reduceAdd]
  refine ZaD<|Dw vm<|Dw (ZaJ lk lki)<|Dw vm<|?_
  refine dq' (t:=88) gt pt pt (λhg88=>?_) (λhg88=>?_)
  .refine dO<|dg<|dO<|Dw (Zaa lk gx gt0)<|dO<|Dw (Zbr lk lki)<|Dw (Zaj lk lk)<|Dw vm<|?_
   refine dq' (t:=93) gt pt pt (λhg93=>?_) (λhg93=>?_)
   .refine dO<|Dw vm<|dO<|?_
    refine ZaB mp (λhE hX=>Zr9) pt ?_
    refine dO<|dg<|dO<|Dw (Zaa lk gx gt1)<|dO<|Dw (ZaY lk lk)<|Dw (Zaj lk lk)<|ZaH<|?_
    refine ZaU ?_
    refine Zam<|Zaw<|?_
    exact cT' (()) (by trivial) (by refine zz ?_;exact ALe.same (by repeat (first | exact wk0 | refine wka ?_ | refine wk1 rfl ?_ | refine wk1 (by first | rfl | exact bvx (by first | (simp_all [wiB];done) | (rw[Bool.eq_iff_iff];simp_all [wiB];omega) | (rw[Bool.eq_iff_iff];simp_all [wiB];done))) ?_)) rfl)
   refine dn<|dn<|dn<|dn<|dn<|Dw (Zak lk lkb)<|ZaH<|?_
   refine ZaU ?_
   refine Zam<|Zaw<|?_
   exact cT' (()) (by trivial) (by refine zz ?_;exact ALe.same (by repeat (first | exact wk0 | refine wka ?_ | refine wk1 rfl ?_ | refine wk1 (by first | rfl | exact bvx (by first | (simp_all [wiB];done) | (rw[Bool.eq_iff_iff];simp_all [wiB];omega) | (rw[Bool.eq_iff_iff];simp_all [wiB];done))) ?_)) rfl)
  refine dn<|dn<|dn<|Dw (Zak lk lkb)<|Dw vm<|dn<|dn<|dn<|dn<|dn<|Dw (Zak lk lkb)<|ZaH<|?_
  refine ZaU ?_
  refine Zam<|Zaw<|?_
  exact cT' (()) (by trivial) (by refine zz ?_;exact ALe.same (by repeat (first | exact wk0 | refine wka ?_ | refine wk1 rfl ?_ | refine wk1 (by first | rfl | exact bvx (by first | (simp_all [wiB];done) | (rw[Bool.eq_iff_iff];simp_all [wiB];omega) | (rw[Bool.eq_iff_iff];simp_all [wiB];done))) ?_)) rfl)
 rintro u_ hq21
 try simp only[sm',Nat.reduceAdd]
 refine cd' lk (λhc7=>?_) (λhc7=>?_)
 .have hgo:=onGo_go hw hi1 hc7
  refine za<|Zab<|Zag<|wr'<|fq<|Vw (Zaa lk gx gt0)<|Vw (Za0 lk lki)<|sn'<|?_
  refine cd' lk (λhc8=>?_) (λhc8=>?_)
  .refine Zao<|mw<|?_
   refine ad<|mw<|Zam<|Zau<|Zan<|Zao<|mw<|?_
   refine ad<|mw<|Zam<|Zaw<|?_
   refine lU' (j+1) (by (try dsimp only);omega) (by refine zz ?_;exact ALe.same (by repeat (first | exact wk0 | refine wka ?_ | refine wk1 rfl ?_ | refine wk1 (by first | rfl | exact ivx (by unfold onGo;simp_all;omega) | exact ivx om) ?_)) rfl)
  refine Zao<|mw<|?_
  refine V' (Za2 lk lki om om) pt ?_
  refine mw<|Zam<|Zau<|Zan<|Zao<|mw<|?_
  refine ad<|mw<|Zam<|Zaw<|?_
  refine lU' (j+1) (by (try dsimp only);omega) (by refine zz ?_;exact ALe.same (by repeat (first | exact wk0 | refine wka ?_ | refine wk1 rfl ?_ | refine wk1 (by first | rfl | exact ivx (by unfold onGo;simp_all;omega) | exact ivx om) ?_)) rfl)
 have hd:=onGo_end hk hw hi1 hc7
 rw[<-hd]
 refine Zax<|Zas<|Zas<|ZaK<|Zan<|Zab<|wm<|Zac mp0 (ZqN) pt<|Zac mp0 (Zu7) pt<|Zac mp (ZbI) pt<|Vw (ZaF lk)<|Zam<|?_
 refine Zan ?_
 refine ZaA lk (λhc9=>?_) (λhc9=>?_)
 .have hr:¬(-719162<=Zdq y m k wk n/\Zdq y m k wk n<=2932896):=by have h9:=hc9;simp[wiB] at h9;omega
  refine wr'<|Vw (Zat ZmP)<|E' (Zai lk cv gx rfl nb rfl ZbD hs1) ptn<|mr<|Zah<|Zae (rsn (rm1 (rr_c gt gx (ld1 Zbo rfl)) (rm1 (rr_t gt) rm0)))<|rT'<|?_
  rw[Zjg he rfl,if_neg hr]
 have hr : -719162<=Zdq y m k wk n/\Zdq y m k wk n<=2932896:=by have h9:=hc9;simp[wiB] at h9;omega
 refine za<|wm<|Zac mp (Zvh hr.1 hr.2) pt<|E' (Zai lk cv gx rfl nb rfl ZbD hs1) ptn<|mr<|Zae (rsn (rm1 (rr_c gt gx (ld1 Zbo rfl)) (rm1 (rr_t gt) rm0)))<|rT'<|?_
 rw[Zjg he rfl,if_pos hr]
end Go.Proofs.YthmgnolcfjiicaaGreatDoor
end
namespace Go.Proofs.YthmgnolcfjiicaaGreatDoor
open Go.Ab
variable {h:AH}{a0 a1 a10 a2 a3 a4 a5 a6 a7 a8 a9 c0 c1 c2 c3 c4 c5 c6 c7 c8 c9:AV}{f1 f2:Bool}{nm s:ByteArray}{e0:Ent}{x:Era}{f:FuncId}{b b0 b1 m n sh y:Int}{g:Int->Loc}{caps l:List AV}{es:List Era}{L:List Int}{rl:List Rul}{k:Nat}{r:Rul}{u:Tab}{v:Value}{w:World}
section
open Go.Ab Go.RowKit
def k243:=Kx 243 []
def k245:=Kx 245 []
def k96:=Kx 96 []
def k46:=Kx 46 []
def k242:=Kx 242 []
def c281:AC:=(Sr [Mb 2 false] (.seq (Sr [Mv 6 0,Oo 7 (.bin .eql (t 6) (.const (.string ⟨#[]⟩))),Mv 8 7,Of 9 8 (mt 0),Of 10 8 (.len true (t 9)),Of 11 8 (.bin .gtr (t 10) (Ci 24)),Oo 12 (.pick (t 8) (.const (.bool true)) (t 11))] (Cd 12 (Sr [Mb 2 false] .ret) .skip)) (Sr [Mv 14 0,Oo 15 (.call (.func 307) [(t 14),(.const (.string ⟨#[47]⟩))]),Mv 13 15,Ex 16 13 0,Ex 17 13 1,Ex 18 13 2,Mv 3 16,Mv 4 17,Mv 5 18] (.seq (Sr [Mv 19 5] (Cd 19 (Sr [Mv 20 3,Oo 21 (.bin .neq (t 20) (.const (.string ⟨#[]⟩))),Mv 22 21,Ot 23 22 (mt 4),Ot 24 22 (.bin .neq (t 23) (.const (.string ⟨#[]⟩))),Oo 25 (.pick (t 22) (t 24) (.const (.bool false))),Mv 26 25,Ot 27 26 (mt 3),Ot 28 26 (.call (.func 149) [(t 27)]),Oo 29 (.pick (t 26) (t 28) (.const (.bool false))),Mv 30 29,Ot 31 30 (mt 4),Ot 32 30 (.call (.func 149) [(t 31)]),Oo 33 (.pick (t 30) (t 32) (.const (.bool false))),Mv 2 33] .ret) .skip)) (Sr [Mv 35 0,Oo 36 (.call (.func 307) [(t 35),(.const (.string ⟨#[37,115]⟩))]),Mv 34 36,Ex 37 34 0,Ex 38 34 1,Ex 39 34 2,Mv 3 37,Mv 4 38] (Sr [Mv 40 3,Cl 41 149 [(t 40)],Mv 42 41,Ot 43 42 (mt 4),Ot 44 42 (.call (.func 149) [(t 43)]),Oo 45 (.pick (t 42) (t 44) (.const (.bool false))),Mv 2 45] .ret))))))
def k281:ZbT Tryz.prog 281=some ⟨c281,[(.tmp 2)],46⟩:=by kernel_rfl
def Zb7 {a:Int}:Ac 243 [iv n,iv a,iv b] h (bv (wi n a b)):=by
 refine tI' k243 λN hn _ _ hbd=>?_
 simp only[tb'] at hbd ⊢
 refine wk'<|wm<|mw<|Vw (Zeo lk lk)<|mw<|?_
 refine sp' (t:=10) gt pt pt (λhg10=>?_) (λhg10=>?_)
 .refine sd<|mw<|sd<|mw<|sd<|Vw (ZdO lk lk)<|Vw (Zaj lk lk)<|mr<|Zae rz<|rT'<|?_
  refine bvx ?_;unfold wi;rw[Bool.eq_iff_iff];simp;omega
 refine so<|so<|so<|Vw (Zak lk lkb)<|mr<|Zae rz<|rT'<|?_
 refine bvx ?_;unfold wi;rw[Bool.eq_iff_iff];simp;omega
def clkB (n:Int) (wall:Bool):Bool:=wi n 1 3&&(wall||decide (n≠1))
def ZjG {b:Bool}:Ac 245 [iv n,bv b] h (bv (clkB n b)):=by
 refine tI' k245 λN hn _ _ hbd=>?_
 simp only[tb'] at hbd ⊢
 refine wk'<|wm<|Zac mp (Zb7) pt<|mw<|?_
 refine Zbd (t:=7) gt pt pt (λhg7=>?_) (λhg7=>?_)
 .refine sd<|mw<|sd<|mw<|?_
  refine Zbd (t:=9) gt pt pt (λhg9=>?_) (λhg9=>?_)
  .refine so<|so<|sd<|Vw (Zaj lk lkb)<|Vw (Zaj lk lk)<|mr<|Zae rz<|rT'<|?_
   refine bvx ?_;unfold clkB;simp_all
  refine sd<|mw<|sd<|Vw (ZaY lk lki)<|sd<|Vw (Zak lk lk)<|Vw (Zaj lk lk)<|mr<|Zae rz<|rT'<|?_
  refine bvx ?_;unfold clkB;simp_all
 refine so<|so<|s_nu gt pt<|s_nu gt pt<|so<|Vw (Zak lk lkb)<|mr<|Zae rz<|rT'<|?_
 refine bvx ?_;unfold clkB;simp_all
def Zny (n:Int):Bool:=letB n||digB n||decide (0<=Lib.indexByte [95,45,47,43] n.toNat.toUInt8)
def indexN_a :Ac 98 [sv (bA [95,45,47,43]),uv n] h (iv (Lib.indexByte [95,45,47,43] n.toNat.toUInt8)):=Zpm
def name1_a :Ac 96 [uv n] h (bv (Zny n)):=by
 refine tI' k96 λN hn _ _ hbd=>?_
 simp only[tb'] at hbd ⊢
 refine wk'<|wm<|Zac mp (ZiV) pt<|mw<|?_
 refine Zbd (t:=5) gt pt pt (λhg5=>?_) (λhg5=>?_)
 .refine so<|so<|Vw (Zaj lk lkb)<|mw<|so<|so<|so<|Vw (Zaj lk lkb)<|mr<|Zae rz<|rT'<|?_
  refine bvx ?_;unfold Zny;rw[Bool.eq_iff_iff];simp_all
 refine sd<|mw<|sd<|Zac mp (Zwt) pt<|Vw (Zak lk lk)<|mw<|?_
 refine Zbd (t:=9) gt pt pt (λhg9=>?_) (λhg9=>?_)
 .refine so<|so<|so<|Vw (Zaj lk lkb)<|mr<|Zae rz<|rT'<|?_
  refine bvx ?_;unfold Zny;rw[Bool.eq_iff_iff];simp_all
 refine sd<|mw<|sd<|Zac mp (indexN_a) pt<|sd<|Vw (Zeo lk lki)<|Vw (Zak lk lk)<|mr<|Zae rz<|rT'<|?_
 refine bvx ?_;unfold Zny;rw[Bool.eq_iff_iff];simp_all
def Zb2 (s:ByteArray):Bool:=decide (s.size≠0)&&decide (s.size<=24)&&letB (ZbQ s 0).toNat&&allB Zny s
def Zji (hs:s.size<=maxLen):Ac 46 [sv s] h (bv (Zb2 s)):=by
 have hm:s.size<=9223372036854775807:=by simpa [maxLen] using hs
 have hem:=Zmv (f:=s)
 refine tI' k46 λN hn _ _ hbd=>?_
 simp only[tb'] at hbd ⊢
 refine wk'<|wm<|Vw (Zd2 lk lks)<|mw<|?_
 refine sp' (t:=5) gt pt pt (λhg5=>?_) (λhg5=>?_)
 .have hne:s.size≠0:=λe=>hg5 (hem.2 e)
  refine sd<|mw<|sd<|Vw (ZcK lk)<|sd<|Vw (ZdO lk lki)<|Vw (Zaj lk lk)<|mw<|?_
  refine sp' (t:=10) gt pt pt (λhg10=>?_) (λhg10=>?_)
  .refine sd<|mw<|sd<|?_
   refine V' (v_ix lk lki om om) pt ?_
   refine sd<|Zac mp (ZiV) pt<|Vw (Zaj lk lk)<|mw<|?_
   refine Zbd (t:=15) gt pt pt (λhg15=>?_) (λhg15=>?_)
   .refine sd<|mw<|sd<|?_
    refine Zac mp (all_a (λ_ _=>name1_a) hs) pt ?_
    refine Vw (Zaj lk lk)<|mr<|Zae rz<|rT'<|?_
    refine bvx ?_;unfold Zb2;simp_all <;> (try intros) <;> omega
   refine so<|so<|Vw (Zak lk lkb)<|mr<|Zae rz<|rT'<|?_
   refine bvx ?_;unfold Zb2;simp_all <;> (try intros) <;> omega
  refine so<|so<|so<|Vw (Zak lk lkb)<|mw<|so<|so<|Vw (Zak lk lkb)<|mr<|Zae rz<|rT'<|?_
  refine bvx ?_;unfold Zb2;simp_all <;> (try intros) <;> omega
 refine so<|so<|so<|Vw (Zak lk lkb)<|mw<|so<|so<|so<|Vw (Zak lk lkb)<|mw<|so<|so<|Vw (Zak lk lkb)<|mw<|?_
 refine sr<|Zae rz<|rT'<|?_
 refine bvx ?_;unfold Zb2;simp_all <;> (try intros) <;> omega
def ZfI (s:ByteArray):Bool:=decide (s.size<=24)&&allB letB s
def Zv4 (hs:s.size<=maxLen):Ac 242 [sv s] h (bv (ZfI s)):=by
 have hm:s.size<=9223372036854775807:=by simpa [maxLen] using hs
 refine tI' k242 λN hn _ _ hbd=>?_
 simp only[tb'] at hbd ⊢
 refine wk'<|wm<|Vw (ZcK lk)<|Vw (ZdO lk lki)<|mw<|?_
 refine sp' (t:=6) gt pt pt (λhg6=>?_) (λhg6=>?_)
 .refine sd<|mw<|sd<|?_
  refine Zac mp (all_a (λ_ _=>ZiV) hs) pt ?_
  refine Vw (Zaj lk lk)<|mr<|Zae rz<|rT'<|?_
  refine bvx ?_;unfold ZfI;simp_all <;> (try intros) <;> omega
 refine so<|so<|Vw (Zak lk lkb)<|mr<|Zae rz<|rT'<|?_
 refine bvx ?_;unfold ZfI;simp_all <;> (try intros) <;> omega
abbrev cutL (s:ByteArray) (p:Bs):Bs×Bs×Bool:=Lib.cut (aB s) p
def Zb4 (s:ByteArray):Bool:=if s.size=0\/24<s.size then false else
 if (cutL s [47]).2.2=true then decide (bA (cutL s [47]).1≠⟨#[]⟩)&&decide (bA (cutL s [47]).2.1≠⟨#[]⟩)&&allB ZbV (bA (cutL s [47]).1)&&allB ZbV (bA (cutL s [47]).2.1)
 else allB ZbV (bA (cutL s [37,115]).1)&&allB ZbV (bA (cutL s [37,115]).2.1)
def ZiY {p:Bs}:(cutL s p).1.length<=s.size/\(cutL s p).2.1.length<=s.size:=by
 unfold cutL Lib.cut
 split
 .simp only[List.length_take,List.length_drop,aB_len];omega
 simp[aB_len]
def cut1_a (hz:s.size<=24):Ac 307 [sv s,sv (bA [47])] h (.tup [sv (bA (cutL s [47]).1),sv (bA (cutL s [47]).2.1),bv (cutL s [47]).2.2]):=cut_a om
def cut2_a (hz:s.size<=24):Ac 307 [sv s,sv (bA [37,115])] h (.tup [sv (bA (cutL s [37,115]).1),sv (bA (cutL s [37,115]).2.1),bv (cutL s [37,115]).2.2]):=cut_a om
def Zrw (hs:s.size<=maxLen):Ac 281 [sv s] h (bv (Zb4 s)):=by
 have hm:s.size<=9223372036854775807:=by simpa [maxLen] using hs
 have hem:=Zmv (f:=s)
 have k1:=ZiY (s:=s) (p:=[47])
 have k2:=ZiY (s:=s) (p:=[37,115])
 refine tI' k281 λN hn _ _ hbd=>?_
 simp only[tb'] at hbd ⊢
 refine wk'<|Zab<|wm<|Vw (Ze4 lk lks)<|mw<|?_
 refine sp' (t:=8) gt pt pt (λhg8=>?_) (λhg8=>?_)
 .have hB:Zb4 s=false:=if_pos (.inl (hem.1 hg8))
  refine so<|so<|so<|Vw (Zaj lk lkb)<|sn'<|Za6 lk<|wo<|Zah<|?_
  refine Zae rz<|rT'<|?_
  rw[hB]
 refine sd<|mw<|sd<|Vw (ZcK lk)<|sd<|Vw (Zbr lk lki)<|Vw (Zak lk lk)<|sn'<|?_
 refine cd' lk (λhc1=>?_) (λhc1=>?_)
 .have hB:Zb4 s=false:=if_pos (.inr om)
  refine wo<|Zah<|Zae rz<|rT'<|?_
  rw[hB]
 have hB:Zb4 s=if (cutL s [47]).2.2=true then decide (bA (cutL s [47]).1≠⟨#[]⟩)&&decide (bA (cutL s [47]).2.1≠⟨#[]⟩)&&allB ZbV (bA (cutL s [47]).1)&&allB ZbV (bA (cutL s [47]).2.1) else allB ZbV (bA (cutL s [37,115]).1)&&allB ZbV (bA (cutL s [37,115]).2.1):=if_neg (by have:s.size≠0:=λe=>hg8 (hem.2 e);omega)
 have hz:s.size<=24:=by omega
 refine za<|wm<|Zac mp (cut1_a hz) pt<|mw<|Vw (ZaS lk gt)<|Vw (ZaS lk gt)<|Vw (ZaS lk gt)<|mw<|mw<|mw<|Zam<|?_
 refine Zan<|Zab<|wk'<|?_
 refine cd' lk (λhc2=>?_) (λhc2=>?_)
 .rw[if_pos hc2] at hB
  refine wm<|Vw (Zd2 lk lks)<|mw<|?_
  refine sp' (t:=22) gt pt pt (λhg22=>?_) (λhg22=>?_)
  .refine sd<|mw<|sd<|Vw (Zd2 lk lks)<|Vw (Zaj lk lk)<|mw<|?_
   refine sp' (t:=26) gt pt pt (λhg26=>?_) (λhg26=>?_)
   .refine sd<|mw<|sd<|?_
    refine Zac mp (Zjd (by rw[ZhK];unfold maxLen;omega)) pt ?_
    refine Vw (Zaj lk lk)<|mw<|?_
    refine Zbd (t:=30) gt pt pt (λhg30=>?_) (λhg30=>?_)
    .refine sd<|mw<|sd<|?_
     refine Zac mp (Zjd (by rw[ZhK];unfold maxLen;omega)) pt ?_
     refine Vw (Zaj lk lk)<|mr<|Zah<|Zae rz<|rT'<|?_
     rw[hB];refine bvx ?_;simp_all
    refine so<|so<|Vw (Zak lk lkb)<|mr<|Zah<|Zae rz<|rT'<|?_
    rw[hB];refine bvx ?_;simp_all
   refine so<|so<|Vw (Zak lk lkb)<|mw<|so<|so<|Vw (Zak lk lkb)<|mr<|Zah<|Zae rz<|rT'<|?_
   rw[hB];refine bvx ?_;simp_all
  refine so<|so<|Vw (Zak lk lkb)<|mw<|so<|so<|Vw (Zak lk lkb)<|mw<|so<|so<|Vw (Zak lk lkb)<|ms<|?_
  refine Zbh<|Zah<|Zae rz<|rT'<|?_
  rw[hB];refine bvx ?_;simp_all
 rw[if_neg (by rw[hc2];simp)] at hB
 refine za<|wm<|Zac mp (cut2_a hz) pt<|mw<|Vw (ZaS lk gt)<|Vw (ZaS lk gt)<|Vw (ZaS lk gt)<|mw<|ms<|?_
 refine wm<|?_
 refine Zac mp (Zjd (by rw[ZhK];unfold maxLen;omega)) pt ?_
 refine mv' lk pt ?_
 refine Zbd (t:=42) gt pt pt (λhg42=>?_) (λhg42=>?_)
 .refine sd<|mw<|sd<|?_
  refine Zac mp (Zjd (by rw[ZhK];unfold maxLen;omega)) pt ?_
  refine Vw (Zaj lk lk)<|mr<|Zae rz<|rT'<|?_
  rw[hB];refine bvx ?_;simp_all
 refine so<|so<|Vw (Zak lk lkb)<|mr<|Zae rz<|rT'<|?_
 rw[hB];refine bvx ?_;simp_all
end
section
open Go.Ab Go.RowKit Civ
attribute [local simp] ZbR Zcn Zb6 Zbq
section
def Zta :((a0::a1::a2::a3::a4::a5::a6::l).drop 4).take 3=[a4,a5,a6]:=rfl
def Ztc :setCells (a0::a1::a2::l) 0 [c0,c1,c2]=c0::c1::c2::l:=rfl
def ZfV :((a0::a1::a2::a3::a4::a5::a6::a7::a8::a9::l).drop 5).take 5=[a5,a6,a7,a8,a9]:=rfl
def Ze3 {τ:Operand->AV}:Zal τ [] [(iv 0),(iv 0),(iv 0),(iv 0),(iv 0)]=some [(iv 0),(iv 0),(iv 0),(iv 0),(iv 0)]:=rfl
def ZdF {a0:Int}{a1:Int}{a2 b2:Int}{a3 b3:Int}{a4 b4:Int}:Za7 [.int,.int,.int,.int,.int] [iv a0,iv a1,iv a2,iv a3,iv a4] [iv b0,iv b1,iv b2,iv b3,iv b4]=some (decide (a0=b0/\a1=b1/\a2=b2/\a3=b3/\a4=b4)):=by
 simp only[Za7,ZcY,if_true,ZbP,Option.some.injEq]
 simp only[Bool.decide_and,Bool.and_true]
 try (congr 1 <;> simp)
 try rfl
def ZfW :((a0::a1::a2::a3::a4::a5::a6::a7::l).drop 5).take 3=[a5,a6,a7]:=rfl
def Zs9 :(a0::a1::a2::a3::a4::a5::a6::a7::a8::a9::l).take 10=[a0,a1,a2,a3,a4,a5,a6,a7,a8,a9]:=rfl
def Zqa :setCells (a0::a1::a2::a3::a4::a5::a6::a7::a8::a9::l) 0 [c0,c1,c2,c3,c4,c5,c6,c7,c8,c9]=c0::c1::c2::c3::c4::c5::c6::c7::c8::c9::l:=rfl
def Zp8 :((a0::a1::a2::a3::a4::a5::a6::a7::a8::a9::l).drop 0).take 10=[a0,a1,a2,a3,a4,a5,a6,a7,a8,a9]:=rfl
def Zs8 :(a0::a1::a2::a3::a4::a5::a6::a7::a8::a9::a10::l).take 11=[a0,a1,a2,a3,a4,a5,a6,a7,a8,a9,a10]:=rfl
def Zp9 {c10:AV}:setCells (a0::a1::a2::a3::a4::a5::a6::a7::a8::a9::a10::l) 0 [c0,c1,c2,c3,c4,c5,c6,c7,c8,c9,c10]=c0::c1::c2::c3::c4::c5::c6::c7::c8::c9::c10::l:=rfl
def Zp7 :((a0::a1::a2::a3::a4::a5::a6::a7::a8::a9::a10::l).drop 0).take 11=[a0,a1,a2,a3,a4,a5,a6,a7,a8,a9,a10]:=rfl
def ZjV :(a0::a1::l).take 2=[a0,a1]:=rfl
def ZhR :setCells (a0::a1::l) 0 [c0,c1]=c0::c1::l:=rfl
def Zlw :((a0::a1::l).drop 0).take 2=[a0,a1]:=rfl
def Ztb :((a0::a1::a2::l).drop 0).take 3=[a0,a1,a2]:=rfl
end
def c169:AC:=(Sr [Oo 1 (.box 208 11 (t 0)),Mc 2 0] (.seq (.block 0 (Sr [Fa 6 0 1,Ld 7 6,Cl 8 46 [(t 7)],Oo 9 (.un .not (t 8)),Mv 10 9,Of 11 10 (.fa 10 (t 1)),Of 12 10 (.load false 1 (t 11)),Of 13 10 (.call (.func 242) [(t 12)]),Of 14 10 (.un .not (t 13)),Oo 15 (.pick (t 10) (.const (.bool true)) (t 14)),Mv 5 15] (Cd 5 (Sr [Mc 2 1] .ret) (Sr [Fa 17 1 1,Ld 18 17,Bc 19 .lss 18 1900,Mv 20 19,Of 21 20 (.fa 1 (t 1)),Of 22 20 (.load false 1 (t 21)),Of 23 20 (.fa 2 (t 1)),Of 24 20 (.load false 1 (t 23)),Of 25 20 (.bin .gtr (t 22) (t 24)),Oo 26 (.pick (t 20) (.const (.bool true)) (t 25)),Mv 27 26,Of 28 27 (.fa 2 (t 1)),Of 29 27 (.load false 1 (t 28)),Of 30 27 (.bin .gtr (t 29) (Ci 2100)),Oo 31 (.pick (t 27) (.const (.bool true)) (t 30)),Mv 32 31,Of 33 32 (.fa 3 (t 1)),Of 34 32 (.load false 1 (t 33)),Of 35 32 (.call (.func 243) [(t 34),(Ci 1),(Ci 12)]),Of 36 32 (.un .not (t 35)),Oo 37 (.pick (t 32) (.const (.bool true)) (t 36)),Mv 16 37] (Cd 16 (Sr [Mc 2 3] .ret) .skip))))) (.seq (Sr [Fa 39 3 1,Ld 40 39,Fa 41 4 1,Oo 42 (.load true 3 (t 41)),Cl 43 244 [(Ci 2001),(t 40),(t 42)],Mv 38 43,Ex 44 38 0,Ex 45 38 1,Oo 3 (.new 66 3 [(iv 0),(iv 0),(iv 0)]),⟨none,none,(.store 3 (t 3) (t 44))⟩,Mv 4 45] (Sr [Mv 46 4,Bc 47 .neq 46 0] (Cd 47 (Sr [Mv 48 4,Mv 2 48] .ret) .skip))) (.seq (.block 1 (Sr [Fa 50 7 1,Ld 51 50,Cl 52 243 [(t 51),(Ci 0),(Ci 172800)],Oo 53 (.un .not (t 52)),Mv 49 53] (Cd 49 (Sr [Mc 2 3] .ret) (Sr [Fa 55 8 1,Ld 56 55,Cl 57 245 [(t 56),(.const (.bool true))],Oo 58 (.un .not (t 57)),Mv 54 58] (Cd 54 (Sr [Mc 2 7] .ret) (Sr [Fa 60 9 1,Ld 61 60,Cl 62 243 [(t 61),(Ci 0),(Ci 10800)],Oo 63 (.un .not (t 62)),Mv 59 63] (Cd 59 (Sr [Mc 2 3] .ret) .skip))))))) (Sr [Mc 2 0] .ret)))))
def k169:ZbT Tryz.prog 169=some ⟨c169,[(.tmp 2)],64⟩:=by kernel_rfl
def k173:=Kx 173 []
def c246:AC:=(Sr [Oo 2 (.box 178 10 (t 0)),Mc 4 0] (.seq (.block 0 (Sr [Fa 8 1 2,Ld 9 8,Oo 10 (.bin .neq (t 9) (.const (.string ⟨#[]⟩))),Mv 11 10,Ot 12 11 (.fa 1 (t 2)),Ot 13 11 (.load false 1 (t 12)),Ot 14 11 (.call (.func 46) [(t 13)]),Ot 15 11 (.un .not (t 14)),Oo 16 (.pick (t 11) (t 15) (.const (.bool false))),Mv 17 16,Of 18 17 (.fa 3 (t 2)),Of 19 17 (.load false 1 (t 18)),Of 20 17 (.call (.func 281) [(t 19)]),Of 21 17 (.un .not (t 20)),Oo 22 (.pick (t 17) (.const (.bool true)) (t 21)),Mv 7 22] (Cd 7 (Sr [Mc 4 1] .ret) (Sr [Fa 24 0 2,Ld 25 24,Cl 26 243 [(t 25),(.const (.int .i64 (-64800))),(Ci 64800)],Oo 27 (.un .not (t 26)),Mv 28 27,Of 29 28 (.fa 2 (t 2)),Of 30 28 (.load false 1 (t 29)),Of 31 28 (.call (.func 243) [(t 30),(Ci 0),(Ci 10800)]),Of 32 28 (.un .not (t 31)),Oo 33 (.pick (t 28) (.const (.bool true)) (t 32)),Mv 23 33] (Cd 23 (Sr [Mc 4 3] .ret) (Sr [Fa 35 1 2,Ld 36 35,Oo 37 (.bin .neq (t 36) (.const (.string ⟨#[]⟩))),Mv 38 37,Ot 39 38 (.fa 2 (t 2)),Ot 40 38 (.load false 1 (t 39)),Ot 41 38 (.bin .neq (t 40) (Ci 0)),Oo 42 (.pick (t 38) (t 41) (.const (.bool false))),Mv 34 42] (Cd 34 (Sr [Mc 4 1] .ret) (Sr [Fa 44 4 2,Ld 45 44,Mv 46 1,Oo 47 (.eqb true (t 45) (t 46)),Mv 43 47] (Cd 43 (Sr [Mc 4 4] .ret) (Sr [Fa 49 4 2,Ld 50 49,Mv 48 50] (Cd 48 (.seq (Sr [Fa 51 5 2,Oo 52 (.load true 5 (t 51)),Oo 53 (.build [(iv 0),(iv 0),(iv 0),(iv 0),(iv 0)] []),Oo 54 (.eqs true [.int,.int,.int,.int,.int] (t 52) (t 53))] (Cd 54 (Sr [Mc 4 1] .ret) .skip)) (Sr [Mc 4 0] .ret)) .skip))))))))))) (.seq (Sr [Fa 56 5 2,Fa 57 0 56,Oo 58 (.load true 3 (t 57)),Cl 59 65 [(t 58)],Mv 55 59,Ex 60 55 0,Ex 61 55 1,Mv 5 60,Mv 6 61] (Sr [Mv 62 6,Bc 63 .neq 62 0] (Cd 63 (Sr [Mv 64 6,Mv 4 64] .ret) .skip))) (.seq (.block 1 (Sr [Fa 66 5 2,Fa 67 3 66,Ld 68 67,Cl 69 243 [(t 68),(Ci 0),(Ci 172800)],Oo 70 (.un .not (t 69)),Mv 65 70] (Cd 65 (Sr [Mc 4 3] .ret) (Sr [Fa 72 5 2,Fa 73 4 72,Ld 74 73,Cl 75 245 [(t 74),(.const (.bool false))],Oo 76 (.un .not (t 75)),Mv 71 76] (Cd 71 (Sr [Mc 4 7] .ret) .skip))))) (Sr [Mc 4 0] .ret)))))
def k246:ZbT Tryz.prog 246=some ⟨c246,[(.tmp 4)],77⟩:=by kernel_rfl
def c171:AC:=(Sr [Oo 1 (.box 139 2 (t 0)),Mc 2 0] (.seq (Sr [Fa 6 0 1,Ld 7 6,Cl 8 46 [(t 7)],Oo 9 (.un .not (t 8)),Mv 10 9,Of 11 10 (.fa 1 (t 1)),Of 12 10 (.load false 1 (t 11)),Of 13 10 (.len false (t 12)),Of 14 10 (.bin .eql (t 13) (Ci 0)),Oo 15 (.pick (t 10) (.const (.bool true)) (t 14))] (Cd 15 (Sr [Mc 2 1] .ret) .skip)) (.seq (Sr [Fa 16 1 1,Ld 17 16,Oo 18 (.len false (t 17)),Mc 19 0] (.block 0 (.loop (Sr [Bn 20 .lss 19 18] (.seq (Cd 20 .skip (.exit 0)) (.seq (.block 1 (Sr [Mv 21 19,Oo 22 (.ia 10 (t 17) (t 19)),Oo 23 (.load true 10 (t 22)),Oo 4 (.new 178 10 [(iv 0),Ss,(iv 0),Ss,(.v (.bool false)),(iv 0),(iv 0),(iv 0),(iv 0),(iv 0)]),Mv 3 21,⟨none,none,(.store 10 (t 4) (t 23))⟩] (Sr [Oo 24 (.load true 10 (t 4)),Mv 25 3,Fa 26 1 1,Ld 27 26,Oo 28 (.len false (t 27)),Bc 29 .sub 28 1,Bn 30 .eql 25 29,Cl 31 246 [(t 24),(t 30)],Mv 5 31] (Sr [Mv 32 5,Bc 33 .neq 32 0] (Cd 33 (Sr [Mv 34 5,Mv 2 34] .ret) .skip))))) (.reg [Bc 35 .add 19 1,Mv 19 35]))))))) (Sr [Mc 2 0] .ret))))
def k171:ZbT Tryz.prog 171=some ⟨c171,[(.tmp 2)],36⟩:=by kernel_rfl
def k168:=Kx 168 []
def k170:=Kx 170 []
def k172:=Kx 172 []
def k167:=Kx 167 []
def k122:=Kx 122 []
def Zbv (r:Rul):Int :=
 if ¬(Zb2 r.1=true/\ZfI r.2.2.2.2.2.2.2.2=true) then 1
 else if r.2.1<1900\/r.2.1>r.2.2.1\/r.2.2.1>2100\/¬wi r.2.2.2.1 1 12=true then 3
 else if (onV 2001 r.2.2.2.1 r.2.2.2.2.1.1 r.2.2.2.2.1.2.1 r.2.2.2.2.1.2.2).2≠0 then (onV 2001 r.2.2.2.1 r.2.2.2.2.1.1 r.2.2.2.2.1.2.1 r.2.2.2.2.1.2.2).2
 else if ¬wi r.2.2.2.2.2.1 0 172800=true then 3
 else if ¬clkB r.2.2.2.2.2.2.1 true=true then 7
 else if ¬wi r.2.2.2.2.2.2.2.1 0 10800=true then 3 else 0
def Zjp (l:Lnk):Int:=if ¬(Zb2 l.1=true/\Zb2 l.2=true) then 1 else 0
def link_b {a b:ByteArray}(ha:a.size<=maxLen) (hb:b.size<=maxLen):Ac 173 [.agg [sv a,sv b]] h (iv (Zjp (a,b))):=by
 refine tI' k173 λN hn _ _ hbd=>?_
 simp only[tb'] at hbd ⊢
 refine wr'<|E' (ZaM cv rfl hl0 ha0) pt<|ms<|Zab<|wr'<|fq<|Vw (Zaa lk gx gt0)<|Zac mp (Zji ha) pt<|Vw (ZaF lk)<|mw<|?_
 refine Zbd (t:=7) gt pt pt (λhg7=>?_) (λhg7=>?_)
 .refine so<|so<|so<|so<|Vw (Zaj lk lkb)<|sn'<|Za6 lk<|wo<|?_
  refine Zah<|Zae rz<|rT'<|?_
  rw[show Zjp (a,b)=1 by unfold Zjp;simp_all]
 refine sd<|fq<|sd<|Vw (Zaa lk gx gt1)<|sd<|Zac mp (Zji hb) pt<|sd<|Vw (ZaF lk)<|Vw (Zak lk lk)<|sn'<|?_
 refine ZaA lk (λhc1=>?_) (λhc1=>?_)
 .refine wo<|Zah<|Zae rz<|rT'<|?_
  rw[show Zjp (a,b)=1 by unfold Zjp;simp_all]
 refine za<|wo<|Zae rz<|rT'<|?_
 rw[show Zjp (a,b)=0 by unfold Zjp;simp_all]
def rule_b {lt:ByteArray}{f t k w a c s:Int}(hn:nm.size<=maxLen) (hl:lt.size<=maxLen):Ac 169 [.agg [sv nm,iv f,iv t,iv m,iv k,iv w,iv n,iv a,iv c,iv s,sv lt]] h (iv (Zbv (nm,f,t,m,(k,w,n),a,c,s,lt))):=by
 have hnm:=hn
 clear hn
 refine tI' k169 λN hn _ _ hbd=>?_
 simp only[tb'] at hbd ⊢
 refine wr'<|E' (ZaM cv rfl hl0 ha0) pt<|ms<|Zab<|Zag<|wr'<|fq<|Vw (Zaa lk gx gt0)<|Zac mp (Zji hnm) pt<|Vw (ZaF lk)<|?_
 refine mv' lk pt ?_
 refine Zbd (t:=10) gt pt pt (λhg10=>?_) (λhg10=>?_)
 .refine so<|so<|so<|so<|Vw (Zaj lk lkb)<|ms<|Za6 lk<|wk'<|?_
  refine Zbh<|Zap<|Zah<|Zae rz<|rT'<|?_
  rw[show Zbv (nm,f,t,m,(k,w,n),a,c,s,lt)=1 by unfold Zbv;simp_all]
 refine sd<|fq<|sd<|Vw (Zaa lk gx gt10)<|sd<|Zac mp (Zv4 hl) pt<|sd<|Vw (ZaF lk)<|Vw (Zak lk lk)<|ms<|?_
 refine ZaA lk (λhc1=>?_) (λhc1=>?_)
 .refine wo<|Zap<|Zah<|Zae rz<|rT'<|?_
  rw[show Zbv (nm,f,t,m,(k,w,n),a,c,s,lt)=1 by unfold Zbv;simp_all]
 have h1:Zb2 nm=true/\ZfI lt=true:=by simp_all
 have hR:Zbv (nm,f,t,m,(k,w,n),a,c,s,lt)=if f<1900\/f>t\/t>2100\/¬wi m 1 12=true then 3 else if (onV 2001 m k w n).2≠0 then (onV 2001 m k w n).2 else if ¬wi a 0 172800=true then 3 else if ¬clkB c true=true then 7 else if ¬wi s 0 10800=true then 3 else 0:=if_neg (by simp[h1])
 refine wr'<|fq<|Vw (Zaa lk gx gt1)<|Vw (ZaJ lk lki)<|mw<|?_
 refine sp' (t:=20) gt pt pt (λhg20=>?_) (λhg20=>?_)
 .rw[if_pos (.inl om)] at hR
  refine so<|so<|so<|so<|so<|Vw (Zaj lk lkb)<|mw<|so<|so<|so<|Vw (Zaj lk lkb)<|mw<|so<|so<|?_
  refine so<|so<|Vw (Zaj lk lkb)<|ms<|Za6 lk<|wo<|Zap<|?_
  refine Zah<|Zae rz<|rT'<|?_
  rw[hR]
 refine sd<|fq<|sd<|Vw (Zaa lk gx gt1)<|sd<|fq<|sd<|Vw (Zaa lk gx gt2)<|sd<|Vw (Zbr lk lk)<|Vw (Zak lk lk)<|mw<|?_
 refine sp' (t:=27) gt pt pt (λhg27=>?_) (λhg27=>?_)
 .rw[if_pos (.inr (.inl om))] at hR
  refine so<|so<|so<|Vw (Zaj lk lkb)<|mw<|so<|so<|so<|so<|Vw (Zaj lk lkb)<|ms<|Za6 lk<|?_
  refine wo<|Zap<|Zah<|Zae rz<|rT'<|?_
  rw[hR]
 refine sd<|fq<|sd<|Vw (Zaa lk gx gt2)<|sd<|Vw (Zbr lk lki)<|Vw (Zak lk lk)<|mw<|?_
 refine sp' (t:=32) gt pt pt (λhg32=>?_) (λhg32=>?_)
 .rw[if_pos (.inr (.inr (.inl om)))] at hR
  refine so<|so<|so<|so<|Vw (Zaj lk lkb)<|ms<|Za6 lk<|wk'<|?_
  refine Zbh<|Zap<|Zah<|Zae rz<|rT'<|?_
  rw[hR]
 refine sd<|fq<|sd<|Vw (Zaa lk gx gt3)<|sd<|Zac mp (Zb7) pt<|sd<|Vw (ZaF lk)<|Vw (Zak lk lk)<|ms<|?_
 refine ZaA lk (λhc2=>?_) (λhc2=>?_)
 .rw[if_pos (.inr (.inr (.inr (by simpa using hc2))))] at hR
  refine wo<|Zap<|Zah<|Zae rz<|rT'<|?_
  rw[hR]
 have hw2:wi m 1 12=true:=by simpa using hc2
 have h2:¬(f<1900\/f>t\/t>2100\/¬wi m 1 12=true):=by rw[hw2];simp;omega
 rw[if_neg h2] at hR
 refine Zay<|Zau<|Zan<|Zab<|wr'<|fq<|Vw (Zaa lk gx gt3)<|fq<|Vw (Zad lk gx Zta rfl)<|Zac mp (on_a) pt<|mw<|Vw (ZaS lk gt)<|Vw (ZaS lk gt)<|?_
 refine E' (ZaR hl1 ha1) pt<|E' (Zai lk cv gx rfl nb rfl Ztc hs1) ptn<|ms<|wm<|Vw (ZaY lk lki)<|sn'<|?_
 refine cd' lk (λhc3=>?_) (λhc3=>?_)
 .rw[if_pos hc3] at hR
  refine wm<|mr<|Zah<|Zae rz<|rT'<|?_
  rw[hR]
 rw[if_neg hc3] at hR
 refine za<|Zab<|Zag<|wr'<|fq<|Vw (Zaa lk gx gt7)<|Zac mp (Zb7) pt<|Vw (ZaF lk)<|ms<|?_
 refine ZaA lk (λhc4=>?_) (λhc4=>?_)
 .rw[if_pos (by simpa using hc4)] at hR
  refine wo<|Zap<|Zah<|Zae rz<|rT'<|?_
  rw[hR]
 rw[if_neg (by simpa using hc4)] at hR
 refine wr'<|fq<|Vw (Zaa lk gx gt8)<|Zac mp (ZjG) pt<|Vw (ZaF lk)<|ms<|?_
 refine ZaA lk (λhc5=>?_) (λhc5=>?_)
 .rw[if_pos (by simpa using hc5)] at hR
  refine wo<|Zap<|Zah<|Zae rz<|rT'<|?_
  rw[hR]
 rw[if_neg (by simpa using hc5)] at hR
 refine wr'<|fq<|Vw (Zaa lk gx gt9)<|Zac mp (Zb7) pt<|Vw (ZaF lk)<|ms<|?_
 refine ZaA lk (λhc6=>?_) (λhc6=>?_)
 .rw[if_pos (by simpa using hc6)] at hR
  refine wo<|Zap<|Zah<|Zae rz<|rT'<|?_
  rw[hR]
 rw[if_neg (by simpa using hc6)] at hR
 refine Zay<|Zau<|Zan<|wo<|Zae rz<|rT'<|?_
 rw[hR]
def ZmB {d:Int}:Ac 65 [.agg [iv y,iv m,iv d]] h (.tup [iv (if Zbx y m d=true then num y m d else 0),iv (if Zbx y m d=true then 0 else 3)]):=days_a
def eraE (sh:Int) (rl:ByteArray) (sa:Int) (fm:ByteArray) (op:Bool) (y m d a c:Int) (last:Bool):Int :=
 if (rl≠⟨#[]⟩/\¬Zb2 rl=true)\/¬Zb4 fm=true then 1
 else if ¬wi sh (-64800) 64800=true\/¬wi sa 0 10800=true then 3
 else if rl≠⟨#[]⟩/\sa≠0 then 1
 else if op≠last then 4
 else if op=true then (if ¬(y=0/\m=0/\d=0/\a=0/\c=0) then 1 else 0)
 else if ¬Zbx y m d=true then 3
 else if ¬wi a 0 172800=true then 3
 else if ¬clkB c false=true then 7 else 0
def era_b {rl fm:ByteArray}{sa d a c:Int}{op last:Bool}(hrl:rl.size<=maxLen) (hfm:fm.size<=maxLen):Ac 246 [.agg [iv sh,sv rl,iv sa,sv fm,bv op,iv y,iv m,iv d,iv a,iv c],bv last] h (iv (eraE sh rl sa fm op y m d a c last)):=by
 refine tI' k246 λN hn _ _ hbd=>?_
 simp only[tb'] at hbd ⊢
 refine wr'<|E' (ZaM cv rfl hl0 ha0) pt<|ms<|Zab<|Zag<|wr'<|fq<|Vw (Zaa lk gx gt1)<|Vw (Zd2 lk lks)<|mw<|?_
 refine sp' (t:=11) gt pt pt (λhg11=>?_) (λhg11=>?_)
 .refine sd<|fq<|sd<|Vw (Zaa lk gx gt1)<|sd<|Zac mp (Zji hrl) pt<|sd<|Vw (ZaF lk)<|Vw (Zaj lk lk)<|mw<|?_
  refine Zbd (t:=17) gt pt pt (λhg17=>?_) (λhg17=>?_)
  .refine so<|so<|so<|so<|Vw (Zaj lk lkb)<|ms<|Za6 lk<|wk'<|?_
   refine Zbh<|Zap<|Zah<|Zae rz<|rT'<|?_
   refine ivx ?_;unfold eraE;simp_all
  refine sd<|fq<|sd<|Vw (Zaa lk gx gt3)<|sd<|Zac mp (Zrw hfm) pt<|sd<|Vw (ZaF lk)<|Vw (Zak lk lk)<|ms<|?_
  refine ZaA lk (λhc1=>?_) (λhc1=>?_)
  .refine wo<|Zap<|Zah<|Zae rz<|rT'<|?_
   refine ivx ?_;unfold eraE;simp_all
  refine wr'<|fq<|Vw (Zaa lk gx gt0)<|Zac mp (Zb7) pt<|Vw (ZaF lk)<|mw<|?_
  refine Zbd (t:=28) gt pt pt (λhg28=>?_) (λhg28=>?_)
  .refine so<|so<|so<|so<|Vw (Zaj lk lkb)<|ms<|Za6 lk<|wk'<|?_
   refine Zbh<|Zap<|Zah<|Zae rz<|rT'<|?_
   refine ivx ?_;unfold eraE;simp_all
  refine sd<|fq<|sd<|Vw (Zaa lk gx gt2)<|sd<|Zac mp (Zb7) pt<|sd<|Vw (ZaF lk)<|Vw (Zak lk lk)<|ms<|?_
  refine ZaA lk (λhc2=>?_) (λhc2=>?_)
  .refine wo<|Zap<|Zah<|Zae rz<|rT'<|?_
   refine ivx ?_;unfold eraE;simp_all
  refine wr'<|fq<|Vw (Zaa lk gx gt1)<|Vw (Zd2 lk lks)<|mw<|?_
  refine sp' (t:=38) gt pt pt (λhg38=>?_) (λhg38=>?_)
  .refine sd<|fq<|sd<|Vw (Zaa lk gx gt2)<|sd<|Vw (ZaY lk lki)<|Vw (Zaj lk lk)<|ms<|?_
   refine cd' lk (λhc3=>?_) (λhc3=>?_)
   .refine wo<|Zap<|Zah<|Zae rz<|rT'<|?_
    refine ivx ?_;unfold eraE;simp_all
   refine wr'<|fq<|Vw (Zaa lk gx gt4)<|mw<|Vw (Zqy lk lk)<|ms<|?_
   refine cd' lk (λhc4=>?_) (λhc4=>?_)
   .refine wo<|Zap<|Zah<|Zae rz<|rT'<|?_
    refine ivx ?_;unfold eraE;simp_all
   refine wr'<|fq<|Vw (Zaa lk gx gt4)<|ms<|?_
   refine ZaA lk (λhc5=>?_) (λhc5=>?_)
   .refine Zab<|wr'<|fq<|Vw (Zad lk gx ZfV rfl)<|Vw (Zat Ze3)<|Vw (Zga lk lk ZdF)<|sn'<|?_
    refine cd' lk (λhc6=>?_) (λhc6=>?_)
    .refine wo<|Zah<|Zap<|Zah<|Zae rz<|rT'<|?_
     refine ivx ?_;unfold eraE;simp_all
    refine za<|wo<|Zap<|Zah<|Zae rz<|rT'<|?_
    refine ivx ?_;unfold eraE;simp_all
   refine Zay<|Zau<|Zan<|Zab<|wr'<|fq<|Vw (Zbu lk)<|Vw (Zad lk gx ZfW rfl)<|Zac mp (ZmB) pt<|mw<|Vw (ZaS lk gt)<|Vw (ZaS lk gt)<|mw<|?_
   refine ms<|wm<|Vw (ZaY lk lki)<|sn'<|?_
   refine cd' lk (λhc7=>?_) (λhc7=>?_)
   .refine wm<|mr<|Zah<|Zae rz<|rT'<|?_
    refine ivx ?_;unfold eraE;simp_all
   refine za<|Zab<|Zag<|wr'<|fq<|Vw (Zbu lk)<|Vw (Zaa lk gx gt8)<|Zac mp (Zb7) pt<|Vw (ZaF lk)<|ms<|?_
   refine ZaA lk (λhc8=>?_) (λhc8=>?_)
   .refine wo<|Zap<|Zah<|Zae rz<|rT'<|?_
    refine ivx ?_;unfold eraE;simp_all
   refine wr'<|fq<|Vw (Zbu lk)<|Vw (Zaa lk gx gt9)<|Zac mp (ZjG) pt<|Vw (ZaF lk)<|ms<|?_
   refine ZaA lk (λhc9=>?_) (λhc9=>?_)
   .refine wo<|Zap<|Zah<|Zae rz<|rT'<|?_
    refine ivx ?_;unfold eraE;simp_all
   refine Zay<|Zau<|Zan<|wo<|Zae rz<|rT'<|?_
   refine ivx ?_;unfold eraE;simp_all
  refine so<|so<|so<|Vw (Zak lk lkb)<|ms<|ZaV lk<|wr'<|fq<|Vw (Zaa lk gx gt4)<|mw<|Vw (Zqy lk lk)<|?_
  refine ms<|?_
  refine cd' lk (λhc4=>?_) (λhc4=>?_)
  .refine wo<|Zap<|Zah<|Zae rz<|rT'<|?_
   refine ivx ?_;unfold eraE;simp_all
  refine wr'<|fq<|Vw (Zaa lk gx gt4)<|ms<|?_
  refine ZaA lk (λhc5=>?_) (λhc5=>?_)
  .refine Zab<|wr'<|fq<|Vw (Zad lk gx ZfV rfl)<|Vw (Zat Ze3)<|Vw (Zga lk lk ZdF)<|sn'<|?_
   refine cd' lk (λhc6=>?_) (λhc6=>?_)
   .refine wo<|Zah<|Zap<|Zah<|Zae rz<|rT'<|?_
    refine ivx ?_;unfold eraE;simp_all
   refine za<|wo<|Zap<|Zah<|Zae rz<|rT'<|?_
   refine ivx ?_;unfold eraE;simp_all
  refine Zay<|Zau<|Zan<|Zab<|wr'<|fq<|Vw (Zbu lk)<|Vw (Zad lk gx ZfW rfl)<|Zac mp (ZmB) pt<|mw<|Vw (ZaS lk gt)<|Vw (ZaS lk gt)<|mw<|?_
  refine ms<|wm<|Vw (ZaY lk lki)<|sn'<|?_
  refine cd' lk (λhc7=>?_) (λhc7=>?_)
  .refine wm<|mr<|Zah<|Zae rz<|rT'<|?_
   refine ivx ?_;unfold eraE;simp_all
  refine za<|Zab<|Zag<|wr'<|fq<|Vw (Zbu lk)<|Vw (Zaa lk gx gt8)<|Zac mp (Zb7) pt<|Vw (ZaF lk)<|ms<|?_
  refine ZaA lk (λhc8=>?_) (λhc8=>?_)
  .refine wo<|Zap<|Zah<|Zae rz<|rT'<|?_
   refine ivx ?_;unfold eraE;simp_all
  refine wr'<|fq<|Vw (Zbu lk)<|Vw (Zaa lk gx gt9)<|Zac mp (ZjG) pt<|Vw (ZaF lk)<|ms<|?_
  refine ZaA lk (λhc9=>?_) (λhc9=>?_)
  .refine wo<|Zap<|Zah<|Zae rz<|rT'<|?_
   refine ivx ?_;unfold eraE;simp_all
  refine Zay<|Zau<|Zan<|wo<|Zae rz<|rT'<|?_
  refine ivx ?_;unfold eraE;simp_all
 refine so<|so<|so<|so<|Vw (Zak lk lkb)<|mw<|sd<|fq<|sd<|Vw (Zaa lk gx gt3)<|sd<|Zac mp (Zrw hfm) pt<|sd<|Vw (ZaF lk)<|?_
 refine Vw (Zak lk lk)<|ms<|?_
 refine ZaA lk (λhc1=>?_) (λhc1=>?_)
 .refine wo<|Zap<|Zah<|Zae rz<|rT'<|?_
  refine ivx ?_;unfold eraE;simp_all
 refine wr'<|fq<|Vw (Zaa lk gx gt0)<|Zac mp (Zb7) pt<|Vw (ZaF lk)<|mw<|?_
 refine Zbd (t:=28) gt pt pt (λhg28=>?_) (λhg28=>?_)
 .refine so<|so<|so<|so<|Vw (Zaj lk lkb)<|ms<|Za6 lk<|wk'<|?_
  refine Zbh<|Zap<|Zah<|Zae rz<|rT'<|?_
  refine ivx ?_;unfold eraE;simp_all
 refine sd<|fq<|sd<|Vw (Zaa lk gx gt2)<|sd<|Zac mp (Zb7) pt<|sd<|Vw (ZaF lk)<|Vw (Zak lk lk)<|ms<|?_
 refine ZaA lk (λhc2=>?_) (λhc2=>?_)
 .refine wo<|Zap<|Zah<|Zae rz<|rT'<|?_
  refine ivx ?_;unfold eraE;simp_all
 refine wr'<|fq<|Vw (Zaa lk gx gt1)<|Vw (Zd2 lk lks)<|mw<|?_
 refine sp' (t:=38) gt pt pt (λhg38=>?_) (λhg38=>?_)
 .refine sd<|fq<|sd<|Vw (Zaa lk gx gt2)<|sd<|Vw (ZaY lk lki)<|Vw (Zaj lk lk)<|ms<|?_
  refine cd' lk (λhc3=>?_) (λhc3=>?_)
  .refine wo<|Zap<|Zah<|Zae rz<|rT'<|?_
   refine ivx ?_;unfold eraE;simp_all
  refine wr'<|fq<|Vw (Zaa lk gx gt4)<|mw<|Vw (Zqy lk lk)<|ms<|?_
  refine cd' lk (λhc4=>?_) (λhc4=>?_)
  .refine wo<|Zap<|Zah<|Zae rz<|rT'<|?_
   refine ivx ?_;unfold eraE;simp_all
  refine wr'<|fq<|Vw (Zaa lk gx gt4)<|ms<|?_
  refine ZaA lk (λhc5=>?_) (λhc5=>?_)
  .refine Zab<|wr'<|fq<|Vw (Zad lk gx ZfV rfl)<|Vw (Zat Ze3)<|Vw (Zga lk lk ZdF)<|sn'<|?_
   refine cd' lk (λhc6=>?_) (λhc6=>?_)
   .refine wo<|Zah<|Zap<|Zah<|Zae rz<|rT'<|?_
    refine ivx ?_;unfold eraE;simp_all
   refine za<|wo<|Zap<|Zah<|Zae rz<|rT'<|?_
   refine ivx ?_;unfold eraE;simp_all
  refine Zay<|Zau<|Zan<|Zab<|wr'<|fq<|Vw (Zbu lk)<|Vw (Zad lk gx ZfW rfl)<|Zac mp (ZmB) pt<|mw<|Vw (ZaS lk gt)<|Vw (ZaS lk gt)<|mw<|?_
  refine ms<|wm<|Vw (ZaY lk lki)<|sn'<|?_
  refine cd' lk (λhc7=>?_) (λhc7=>?_)
  .refine wm<|mr<|Zah<|Zae rz<|rT'<|?_
   refine ivx ?_;unfold eraE;simp_all
  refine za<|Zab<|Zag<|wr'<|fq<|Vw (Zbu lk)<|Vw (Zaa lk gx gt8)<|Zac mp (Zb7) pt<|Vw (ZaF lk)<|ms<|?_
  refine ZaA lk (λhc8=>?_) (λhc8=>?_)
  .refine wo<|Zap<|Zah<|Zae rz<|rT'<|?_
   refine ivx ?_;unfold eraE;simp_all
  refine wr'<|fq<|Vw (Zbu lk)<|Vw (Zaa lk gx gt9)<|Zac mp (ZjG) pt<|Vw (ZaF lk)<|ms<|?_
  refine ZaA lk (λhc9=>?_) (λhc9=>?_)
  .refine wo<|Zap<|Zah<|Zae rz<|rT'<|?_
   refine ivx ?_;unfold eraE;simp_all
  refine Zay<|Zau<|Zan<|wo<|Zae rz<|rT'<|?_
  refine ivx ?_;unfold eraE;simp_all
 refine so<|so<|so<|Vw (Zak lk lkb)<|ms<|ZaV lk<|wr'<|fq<|Vw (Zaa lk gx gt4)<|mw<|Vw (Zqy lk lk)<|?_
 refine ms<|?_
 refine cd' lk (λhc4=>?_) (λhc4=>?_)
 .refine wo<|Zap<|Zah<|Zae rz<|rT'<|?_
  refine ivx ?_;unfold eraE;simp_all
 refine wr'<|fq<|Vw (Zaa lk gx gt4)<|ms<|?_
 refine ZaA lk (λhc5=>?_) (λhc5=>?_)
 .refine Zab<|wr'<|fq<|Vw (Zad lk gx ZfV rfl)<|Vw (Zat Ze3)<|Vw (Zga lk lk ZdF)<|sn'<|?_
  refine cd' lk (λhc6=>?_) (λhc6=>?_)
  .refine wo<|Zah<|Zap<|Zah<|Zae rz<|rT'<|?_
   refine ivx ?_;unfold eraE;simp_all
  refine za<|wo<|Zap<|Zah<|Zae rz<|rT'<|?_
  refine ivx ?_;unfold eraE;simp_all
 refine Zay<|Zau<|Zan<|Zab<|wr'<|fq<|Vw (Zbu lk)<|Vw (Zad lk gx ZfW rfl)<|Zac mp (ZmB) pt<|mw<|Vw (ZaS lk gt)<|Vw (ZaS lk gt)<|mw<|?_
 refine ms<|wm<|Vw (ZaY lk lki)<|sn'<|?_
 refine cd' lk (λhc7=>?_) (λhc7=>?_)
 .refine wm<|mr<|Zah<|Zae rz<|rT'<|?_
  refine ivx ?_;unfold eraE;simp_all
 refine za<|Zab<|Zag<|wr'<|fq<|Vw (Zbu lk)<|Vw (Zaa lk gx gt8)<|Zac mp (Zb7) pt<|Vw (ZaF lk)<|ms<|?_
 refine ZaA lk (λhc8=>?_) (λhc8=>?_)
 .refine wo<|Zap<|Zah<|Zae rz<|rT'<|?_
  refine ivx ?_;unfold eraE;simp_all
 refine wr'<|fq<|Vw (Zbu lk)<|Vw (Zaa lk gx gt9)<|Zac mp (ZjG) pt<|Vw (ZaF lk)<|ms<|?_
 refine ZaA lk (λhc9=>?_) (λhc9=>?_)
 .refine wo<|Zap<|Zah<|Zae rz<|rT'<|?_
  refine ivx ?_;unfold eraE;simp_all
 refine Zay<|Zau<|Zan<|wo<|Zae rz<|rT'<|?_
 refine ivx ?_;unfold eraE;simp_all
abbrev eraX (x:Era) (last:Bool):Int:=eraE x.1 x.2.1 x.2.2.1 x.2.2.2.1 x.2.2.2.2.1 x.2.2.2.2.2.1.1 x.2.2.2.2.2.1.2.1 x.2.2.2.2.2.1.2.2 x.2.2.2.2.2.2.1 x.2.2.2.2.2.2.2 last
def Zkt:List Era->Int
 | []=>0
 | x::xs=>if eraX x xs.isEmpty≠0 then eraX x xs.isEmpty else Zkt xs
def Zi1 (z:Zon):Int:=if ¬Zb2 z.1=true\/z.2.length=0 then 1 else Zkt z.2
def okEra (x:Era):Prop:=x.2.1.size<=maxLen/\x.2.2.2.1.size<=maxLen
def erasE_at {l:List Era}(h:k<l.length):Zkt (l.drop k)=if eraX l[k] (decide ((k:Int)=(l.length:Int)-1))≠0 then eraX l[k] (decide ((k:Int)=(l.length:Int)-1)) else Zkt (l.drop (k+1)):=by
 have e:(l.drop (k+1)).isEmpty=decide ((k:Int)=(l.length:Int)-1):=by
  rw[Bool.eq_iff_iff,List.isEmpty_iff,List.drop_eq_nil_iff,decide_eq_true_iff];omega
 rw[List.drop_eq_getElem_cons h,Zkt,e]
def zone_b {l:List Era}(hnm:nm.size<=maxLen) (hl : ∀ x∈l,okEra x):Ac 171 [.agg [sv nm,.sl l.length 10 false (rows eraC l)]] h (iv (Zi1 (nm,l))):=by
 refine tI' k171 λN hn hlt _ hbd=>?_
 simp only[tb'] at hbd ⊢
 refine wr'<|E' (ZaM cv rfl hl0 ha0) pt<|ms<|Zab<|wr'<|fq<|Vw (Zaa lk gx gt0)<|Zac mp (Zji hnm) pt<|Vw (ZaF lk)<|mw<|?_
 refine Zbd (t:=10) gt pt pt (λhg10=>?_) (λhg10=>?_)
 .have hZ:Zi1 (nm,l)=1:=if_pos (.inl (by simpa using hg10))
  refine so<|so<|so<|so<|Vw (Zaj lk lkb)<|sn'<|Za6 lk<|wo<|?_
  refine Zah<|Zae rz<|rT'<|?_
  rw[hZ]
 refine sd<|fq<|sd<|Vw (Zaa lk gx gt1)<|sd<|Vw (Zaz lk)<|sd<|Vw (Za0 lk lki)<|Vw (Zak lk lk)<|sn'<|?_
 refine cd' lk (λhc1=>?_) (λhc1=>?_)
 .have hZ:Zi1 (nm,l)=1:=if_pos (.inr (by show l.length=0;omega))
  refine wo<|Zah<|Zae rz<|rT'<|?_
  rw[hZ]
 have hZ:Zi1 (nm,l)=Zkt l:=if_neg (by rintro (h1 | h1);exact h1 (by simpa using hg10);exact hc1 (by show (l.length:Int)=0;have:l.length=0:=h1;omega))
 refine za<|Zab<|wr'<|fq<|Vw (Zaa lk gx gt1)<|Vw (Zaz lk)<|ms<|Zag<|?_
 refine w_lp (ι:=Nat) (λ(k:Nat)=>[(19,iv (k:Int))]++rn' 2 4++rn' 20 16) (λ(k:Nat)=>[]) (λ(k:Nat)=>k<=l.length/\Zkt l=Zkt (l.drop k)) (λ(k:Nat)=>l.length-k) (0) (by exact⟨Nat.zero_le _,rfl⟩) ?_
 rintro k hi1
 try simp only[sm',Nat.reduceAdd]
 obtain⟨hk1,hk2⟩:=hi1
 refine wr'<|Vw (ZaJ lk lk)<|sn'<|Zab<|?_
 refine cd' lk (λhc2=>?_) (λhc2=>?_)
 .have hk:k<l.length:=by omega
  have ho:=hl _ (List.getElem_mem hk)
  rw[erasE_at hk] at hk2
  refine za<|Zab<|Zag<|wm<|?_
  refine V' (ZaE lk lk Zdd nb ro om ro rfl) pt ?_
  refine Vw (Zar lk Zs9 rfl)<|E' (ZaR hl1 ha1) pt<|mw<|E' (Zai lk cv gx rfl nb rfl Zqa hs1) ptn<|sn'<|wr'<|Vw (Zad lk gx Zp8 rfl)<|mw<|fq<|Vw (Zaa lk gx gt1)<|Vw (Zaz lk)<|?_
  refine V' (Za2 lk lki om om) pt ?_
  refine Vw (Za0 lk lk)<|Zac mp (era_b (last:=decide ((k:Int)=(l.length:Int)-1)) ho.1 ho.2) pt<|ms<|wm<|Vw (ZaY lk lki)<|sn'<|?_
  refine cd' lk (λhc3=>?_) (λhc3=>?_)
  .have hc3':eraX l[k] (decide ((k:Int)=(l.length:Int)-1))≠0:=hc3
   rw[if_pos hc3'] at hk2
   refine wm<|mr<|Zap<|Zah<|Zah<|Zap<|Zah<|Zae rz<|rT'<|?_
   rw[hZ,hk2]
  have hc3':¬eraX l[k] (decide ((k:Int)=(l.length:Int)-1))≠0:=hc3
  rw[if_neg hc3'] at hk2
  refine Zay<|Zau<|Zan<|Zao<|?_
  refine ad<|mw<|Zam<|Zaw<|?_
  refine lU' (k+1) (by (try dsimp only);exact⟨by omega,hk2⟩) (by refine zz ?_;exact bk' 1 hn hlt)
 rw[List.drop_of_length_le om] at hk2
 refine Zax<|Zas<|Zas<|ZaK<|Zan<|wo<|Zae rz<|rT'<|?_
 rw[hZ,hk2];rfl
def Zbk {α:Type}(p:α->Int):List α->Int
 | []=>0
 | x::xs=>if p x≠0 then p x else Zbk p xs
def ZdY {α:Type}{p:α->Int}{l:List α}(h:k<l.length):Zbk p (l.drop k)=if p l[k]≠0 then p l[k] else Zbk p (l.drop (k+1)):=by
 rw[List.drop_eq_getElem_cons h,Zbk]
def Zsy {p:Rul->Int}{l:List Rul}(hp : ∀ x∈l,∀ h:AH,ACalls Tryz.prog f [.agg (rulC x)] h λy h'=>h'=h/\y=.ret (iv (p x))) :Ac 168 [.sl l.length 11 false (rows rulC l),.v (.func (.func f) #[] #[])] h (iv (Zbk p l)):=by
 refine tI' k168 λN hn hlt _ hbd=>?_
 simp only[tb'] at hbd ⊢
 refine wk'<|Zab<|wm<|Vw (Zaz lk)<|ms<|Zag<|?_
 refine w_lp (ι:=Nat) (λ(k:Nat)=>[(10,iv (k:Int)),(4,.any),(6,.any),(7,.any)]++rn' 11 10) (λ(k:Nat)=>[]) (λ(k:Nat)=>k<=l.length/\Zbk p l=Zbk p (l.drop k)) (λ(k:Nat)=>l.length-k) (0) (by exact⟨Nat.zero_le _,rfl⟩) ?_
 rintro k hi1
 try simp only[sm',Nat.reduceAdd]
 obtain⟨hk1,hk2⟩:=hi1
 refine wr'<|Vw (ZaJ lk lk)<|sn'<|Zab<|?_
 refine cd' lk (λhc1=>?_) (λhc1=>?_)
 .have hk:k<l.length:=by omega
  rw[ZdY hk] at hk2
  refine za<|Zab<|Zag<|wr'<|?_
  refine V' (ZaE lk lk ZcE nb ro om ro rfl) pt ?_
  refine Vw (Zar lk Zs8 rfl)<|E' (ZaR hl0 ha0) pt<|E' (Zai lk cv gx rfl nb rfl Zp9 hs0) ptn<|sn'<|wm<|Vw (Zad lk gx Zp7 rfl)<|Zgk lk mp (hp _ (List.getElem_mem hk) _) pt<|ms<|Zab<|?_
  refine Zao<|mw<|Vw (ZaY lk lki)<|sn'<|?_
  refine cd' lk (λhc2=>?_) (λhc2=>?_)
  .rw[if_pos hc2] at hk2
   refine wm<|mr<|Zap<|Zah<|Zah<|Zap<|Zah<|Zae rz<|rT'<|?_
   rw[hk2]
  rw[if_neg hc2] at hk2
  refine Zay<|Zau<|Zan<|Zao<|?_
  refine ad<|mw<|Zam<|Zaw<|?_
  refine lU' (k+1) (by (try dsimp only);exact⟨by omega,hk2⟩) (by refine zz ?_;exact bk' 0 hn hlt)
 rw[List.drop_of_length_le om] at hk2
 refine Zax<|Zas<|Zas<|ZaK<|Zan<|wo<|Zae rz<|rT'<|?_
 rw[hk2];rfl
def Zsx {p:Zon->Int}{l:List Zon}(hp : ∀ x∈l,∀ h:AH,ACalls Tryz.prog f [.agg (zonC x)] h λy h'=>h'=h/\y=.ret (iv (p x))) :Ac 170 [.sl l.length 2 false (rows zonC l),.v (.func (.func f) #[] #[])] h (iv (Zbk p l)):=by
 refine tI' k170 λN hn hlt _ hbd=>?_
 simp only[tb'] at hbd ⊢
 refine wk'<|Zab<|wm<|Vw (Zaz lk)<|ms<|Zag<|?_
 refine w_lp (ι:=Nat) (λ(k:Nat)=>[(10,iv (k:Int)),(4,.any),(6,.any),(7,.any)]++rn' 11 10) (λ(k:Nat)=>[]) (λ(k:Nat)=>k<=l.length/\Zbk p l=Zbk p (l.drop k)) (λ(k:Nat)=>l.length-k) (0) (by exact⟨Nat.zero_le _,rfl⟩) ?_
 rintro k hi1
 try simp only[sm',Nat.reduceAdd]
 obtain⟨hk1,hk2⟩:=hi1
 refine wr'<|Vw (ZaJ lk lk)<|sn'<|Zab<|?_
 refine cd' lk (λhc1=>?_) (λhc1=>?_)
 .have hk:k<l.length:=by omega
  rw[ZdY hk] at hk2
  refine za<|Zab<|Zag<|wr'<|?_
  refine V' (ZaE lk lk ZcD nb ro om ro rfl) pt ?_
  refine Vw (Zar lk ZjV rfl)<|E' (ZaR hl0 ha0) pt<|E' (Zai lk cv gx rfl nb rfl ZhR hs0) ptn<|sn'<|wm<|Vw (Zad lk gx Zlw rfl)<|Zgk lk mp (hp _ (List.getElem_mem hk) _) pt<|ms<|Zab<|?_
  refine Zao<|mw<|Vw (ZaY lk lki)<|sn'<|?_
  refine cd' lk (λhc2=>?_) (λhc2=>?_)
  .rw[if_pos hc2] at hk2
   refine wm<|mr<|Zap<|Zah<|Zah<|Zap<|Zah<|Zae rz<|rT'<|?_
   rw[hk2]
  rw[if_neg hc2] at hk2
  refine Zay<|Zau<|Zan<|Zao<|?_
  refine ad<|mw<|Zam<|Zaw<|?_
  refine lU' (k+1) (by (try dsimp only);exact⟨by omega,hk2⟩) (by refine zz ?_;exact bk' 0 hn hlt)
 rw[List.drop_of_length_le om] at hk2
 refine Zax<|Zas<|Zas<|ZaK<|Zan<|wo<|Zae rz<|rT'<|?_
 rw[hk2];rfl
def Zk8 {p:Lnk->Int}{l:List Lnk}(hp : ∀ x∈l,∀ h:AH,ACalls Tryz.prog f [.agg (lnkC x)] h λy h'=>h'=h/\y=.ret (iv (p x))) :Ac 172 [.sl l.length 2 false (rows lnkC l),.v (.func (.func f) #[] #[])] h (iv (Zbk p l)):=by
 refine tI' k172 λN hn hlt _ hbd=>?_
 simp only[tb'] at hbd ⊢
 refine wk'<|Zab<|wm<|Vw (Zaz lk)<|ms<|Zag<|?_
 refine w_lp (ι:=Nat) (λ(k:Nat)=>[(10,iv (k:Int)),(4,.any),(6,.any),(7,.any)]++rn' 11 10) (λ(k:Nat)=>[]) (λ(k:Nat)=>k<=l.length/\Zbk p l=Zbk p (l.drop k)) (λ(k:Nat)=>l.length-k) (0) (by exact⟨Nat.zero_le _,rfl⟩) ?_
 rintro k hi1
 try simp only[sm',Nat.reduceAdd]
 obtain⟨hk1,hk2⟩:=hi1
 refine wr'<|Vw (ZaJ lk lk)<|sn'<|Zab<|?_
 refine cd' lk (λhc1=>?_) (λhc1=>?_)
 .have hk:k<l.length:=by omega
  rw[ZdY hk] at hk2
  refine za<|Zab<|Zag<|wr'<|?_
  refine V' (ZaE lk lk Zbe nb ro om ro rfl) pt ?_
  refine Vw (Zar lk ZjV rfl)<|E' (ZaR hl0 ha0) pt<|E' (Zai lk cv gx rfl nb rfl ZhR hs0) ptn<|sn'<|wm<|Vw (Zad lk gx Zlw rfl)<|Zgk lk mp (hp _ (List.getElem_mem hk) _) pt<|ms<|Zab<|?_
  refine Zao<|mw<|Vw (ZaY lk lki)<|sn'<|?_
  refine cd' lk (λhc2=>?_) (λhc2=>?_)
  .rw[if_pos hc2] at hk2
   refine wm<|mr<|Zap<|Zah<|Zah<|Zap<|Zah<|Zae rz<|rT'<|?_
   rw[hk2]
  rw[if_neg hc2] at hk2
  refine Zay<|Zau<|Zan<|Zao<|?_
  refine ad<|mw<|Zam<|Zaw<|?_
  refine lU' (k+1) (by (try dsimp only);exact⟨by omega,hk2⟩) (by refine zz ?_;exact bk' 0 hn hlt)
 rw[List.drop_of_length_le om] at hk2
 refine Zax<|Zas<|Zas<|ZaK<|Zan<|wo<|Zae rz<|rT'<|?_
 rw[hk2];rfl
def ZnC (s:Src):Bool:=s.2.1.any (λz=>decide (8<z.2.length))||decide (40<s.1.length)||decide (20<s.2.1.length)||decide (20<s.2.2.length)
def many_b {a:List Rul}{z:List Zon}{l:List Lnk}:Ac 167 [.agg [.sl a.length 11 false (rows rulC a),.sl z.length 2 false (rows zonC z),.sl l.length 2 false (rows lnkC l)]] h (bv (ZnC (a,z,l))):=by
 refine tI' k167 λN hn hlt _ hbd=>?_
 simp only[tb'] at hbd ⊢
 refine wr'<|E' (ZaM cv rfl hl0 ha0) pt<|ms<|Zab<|wr'<|fq<|Vw (Zaa lk gx gt1)<|Vw (Zaz lk)<|mw<|Zam<|?_
 refine Zan<|Zag<|?_
 refine w_lp (ι:=Nat) (λ(k:Nat)=>[(8,iv (k:Int)),(2,.any),(4,.any)]++rn' 9 8) (λ(k:Nat)=>[]) (λ(k:Nat)=>k<=z.length/\(z.take k).any (λz=>decide (8<z.2.length))=false) (λ(k:Nat)=>z.length-k) (0) (by exact⟨Nat.zero_le _,rfl⟩) ?_
 rintro k hi1
 try simp only[sm',Nat.reduceAdd]
 obtain⟨hk1,hk2⟩:=hi1
 refine wr'<|Vw (ZaJ lk lk)<|sn'<|Zab<|?_
 refine cd' lk (λhc1=>?_) (λhc1=>?_)
 .have hk:k<z.length:=by omega
  refine za<|Zab<|Zag<|wr'<|?_
  refine V' (ZaE lk lk ZcD nb ro om ro rfl) pt ?_
  refine Vw (Zar lk ZjV rfl)<|E' (ZaR hl1 ha1) pt<|E' (Zai lk cv gx rfl nb rfl ZhR hs1) ptn<|sn'<|wr'<|fq<|Vw (Zaa lk gx gt1)<|?_
  refine V' ((by first | exact Zaz lk | exact Zcy lk)) pt ?_
  refine Vw (Zbr lk lki)<|sn'<|?_
  refine cd' lk (λhc2=>?_) (λhc2=>?_)
  .have hA:z.any (λz=>decide (8<z.2.length))=true:=List.any_eq_true.2 ⟨z[k],List.getElem_mem hk,decide_eq_true om⟩
   refine wo<|Zap<|Zah<|Zah<|Zap<|Zah<|Zae rz<|rT'<|?_
   refine bvx ?_;unfold ZnC;rw[hA];simp
  refine Zay<|Zau<|Zan<|Zao<|?_
  refine ad<|mw<|Zam<|Zaw<|?_
  refine lU' (k+1) (by (try dsimp only);exact⟨by omega,by rw[List.take_succ_eq_append_getElem hk,List.any_append,hk2];simp;omega⟩) (by refine zz ?_;exact bk' 1 hn hlt)
 rw[List.take_of_length_le om] at hk2
 refine Zax<|Zas<|Zas<|ZaK<|Zan<|wr'<|fq<|Vw (Zaa lk gx gt0)<|Vw (Zaz lk)<|Vw (Zbr lk lki)<|mw<|?_
 refine sp' (t:=21) gt pt pt (λhg21=>?_) (λhg21=>?_)
 .refine so<|so<|so<|so<|Vw (Zaj lk lkb)<|mw<|so<|so<|so<|so<|Vw (Zaj lk lkb)<|ms<|?_
  refine Zbh<|Zae rz<|rT'<|?_
  refine bvx ?_;unfold ZnC;rw[hk2];rw[Bool.eq_iff_iff];simp;omega
 refine sd<|fq<|sd<|Vw (Zaa lk gx gt1)<|sd<|Vw (Zaz lk)<|sd<|Vw (Zbr lk lki)<|Vw (Zak lk lk)<|mw<|?_
 refine sp' (t:=27) gt pt pt (λhg27=>?_) (λhg27=>?_)
 .refine so<|so<|so<|so<|Vw (Zaj lk lkb)<|mr<|Zae rz<|rT'<|?_
  refine bvx ?_;unfold ZnC;rw[hk2];rw[Bool.eq_iff_iff];simp;omega
 refine sd<|fq<|sd<|Vw (Zaa lk gx gt2)<|sd<|Vw (Zaz lk)<|sd<|Vw (Zbr lk lki)<|Vw (Zak lk lk)<|mr<|Zae rz<|?_
 refine rT' ?_
 refine bvx ?_;unfold ZnC;rw[hk2];rw[Bool.eq_iff_iff];simp;omega
def Zo6 (s:Src):Prop:=(∀ r∈s.1,r.1.size<=maxLen/\r.2.2.2.2.2.2.2.2.size<=maxLen)/\(∀ z∈s.2.1,z.1.size<=maxLen /\ ∀ x∈z.2,okEra x) /\ ∀ l∈s.2.2,l.1.size<=maxLen/\l.2.size<=maxLen
def Zdk (s:Src):Int:=if ZnC s=true then 2 else if Zbk Zbv s.1≠0 then Zbk Zbv s.1 else if Zbk Zi1 s.2.1≠0 then Zbk Zi1 s.2.1 else Zbk Zjp s.2.2
def scheck_b {a:List Rul}{z:List Zon}{l:List Lnk}(hok:Zo6 (a,z,l)):Ac 122 [.agg [.sl a.length 11 false (rows rulC a),.sl z.length 2 false (rows zonC z),.sl l.length 2 false (rows lnkC l)]] h (iv (Zdk (a,z,l))):=by
 have p1 : ∀ x∈a,∀ h:AH,ACalls Tryz.prog 169 [.agg (rulC x)] h λy h'=>h'=h/\y=.ret (iv (Zbv x)):=λx hx h=>rule_b (hok.1 x hx).1 (hok.1 x hx).2
 have p2 : ∀ x∈z,∀ h:AH,ACalls Tryz.prog 171 [.agg (zonC x)] h λy h'=>h'=h/\y=.ret (iv (Zi1 x)):=λx hx h=>zone_b (hok.2.1 x hx).1 (hok.2.1 x hx).2
 have p3 : ∀ x∈l,∀ h:AH,ACalls Tryz.prog 173 [.agg (lnkC x)] h λy h'=>h'=h/\y=.ret (iv (Zjp x)):=λx hx h=>link_b (hok.2.2 x hx).1 (hok.2.2 x hx).2
 refine tI' k122 λN hn _ _ hbd=>?_
 simp only[tb'] at hbd ⊢
 refine wr'<|E' (ZaM cv rfl hl0 ha0) pt<|ms<|Zab<|wr'<|Vw (Zad lk gx Ztb rfl)<|Zac mp (many_b) pt<|sn'<|?_
 refine ZaA lk (λhc1=>?_) (λhc1=>?_)
 .refine wo<|Zah<|Zae rz<|rT'<|?_
  refine ivx ?_;unfold Zdk;simp_all
 refine za<|wr'<|fq<|Vw (Zaa lk gx gt0)<|Zac mp (Zsy p1) pt<|ms<|Zab<|wm<|?_
 refine Vw (Za0 lk lki)<|sn'<|?_
 refine cd' lk (λhc2=>?_) (λhc2=>?_)
 .refine Zao<|fq<|Vw (Zaa lk gx gt1)<|Zac mp (Zsx p2) pt<|ms<|Zab<|wm<|Vw (Za0 lk lki)<|sn'<|?_
  refine cd' lk (λhc3=>?_) (λhc3=>?_)
  .refine Zao<|fq<|Vw (Zaa lk gx gt2)<|Zac mp (Zk8 p3) pt<|ms<|wm<|mr<|?_
   refine Zae rz<|rT'<|?_
   refine ivx ?_;unfold Zdk;simp_all
  refine za<|wm<|mr<|Zae rz<|rT'<|?_
  refine ivx ?_;unfold Zdk;simp_all
 refine za<|Zab<|wm<|Vw (Za0 lk lki)<|sn'<|?_
 refine cd' lk (λhc3=>?_) (λhc3=>?_)
 .refine Zao<|fq<|Vw (Zaa lk gx gt2)<|Zac mp (Zk8 p3) pt<|ms<|wm<|mr<|?_
  refine Zae rz<|rT'<|?_
  refine ivx ?_;unfold Zdk;simp_all
 refine za<|wm<|mr<|Zae rz<|rT'<|?_
 refine ivx ?_;unfold Zdk;simp_all
end
section
open Go.Ab Civ
abbrev Trn:=Int×Rul
abbrev Tim:=Int×Int×ByteArray
abbrev trnC (t:Trn):List AV:=iv t.1::rulC t.2
abbrev timC (t:Tim):List AV:=[iv t.1,iv t.2.1,sv t.2.2]
def ZmX {n:Nat}(l:List Trn):AV.ltL n (rows trnC l)=true:=ZcV (λn x=>by simp[AV.ltL,AV.lt]) l
def Zd4 {n:Nat}(l:List Tim):AV.ltL n (rows timC l)=true:=ZcV (λn x=>by simp[AV.ltL,AV.lt]) l
def ZaI : ∀ x,(trnC x).length=12:=λ_=>rfl
def ZdA : ∀ x,(timC x).length=3:=λ_=>rfl
def Zuo (l:List Trn):(rows trnC l).length=l.length*12:=Zbp ZaI l
def Zdo (l:List Tim):(rows timC l).length=l.length*3:=Zbp ZdA l
instance decTim:DecidableEq Tim:=inferInstance
abbrev rFr (r:Rul):Int:=r.2.1
abbrev rTo (r:Rul):Int:=r.2.2.1
abbrev rDy (r:Rul) (y:Int):Int:=Zdq y r.2.2.2.1 r.2.2.2.2.1.1 r.2.2.2.2.1.2.1 r.2.2.2.2.1.2.2
abbrev rAt (r:Rul):Int:=r.2.2.2.2.2.1
abbrev rCk (r:Rul):Int:=r.2.2.2.2.2.2.1
abbrev rSv (r:Rul):Int:=r.2.2.2.2.2.2.2.1
abbrev rLt (r:Rul):ByteArray:=r.2.2.2.2.2.2.2.2
def Zdy (r:Rul) (y:Int):Int:=rDy r y*86400+rAt r
def ZbM (a b:Int):List Int:=(List.range (b+1-a).toNat).map λ(k:Nat)=>a+(k:Int)
def Zc2 (r:Rul):List Trn:=(ZbM (rFr r) (rTo r)).map λy=>(Zdy r y,r)
def Zbg (l:List Rul) (nm:ByteArray):List Trn:=l.flatMap λr=>if r.1=nm then Zc2 r else []
def offV (r:Rul) (sh sa:Int):Int:=if rCk r=1 then sh+sa else if rCk r=2 then sh else 0
def timV (sh sa:Int) (t:Trn):Tim:=(t.1-offV t.2 sh sa,rSv t.2,rLt t.2)
def outV (sh:Int):Int->List Trn->List Tim
 | _,[]=>[]
 | sa,t::l=>timV sh sa t::outV sh (rSv t.2) l
def gapB:List Trn->Bool
 | a::b::l=>decide (b.1-a.1<172800)||gapB (b::l)
 | _=>false
def srtT (l:List Trn):List Trn:=l.mergeSort λa b=>decide (a.1<=b.1)
def Zdz (l:List Rul) (nm:ByteArray) (sh:Int):Int :=
 if 40<l.length then 2 else if Zbk Zbv l≠0 then Zbk Zbv l else if sh < -64800\/sh>64800 then 3
 else if l.any (λr=>decide (r.1=nm))=false then 5 else 0
def Zbf (l:List Rul) (nm:ByteArray) (sh:Int):List Tim×Int :=
 if Zdz l nm sh≠0 then ([],Zdz l nm sh)
 else if gapB (srtT (Zbg l nm))=true then ([],4)
 else if 1000<(Zbg l nm).length then ([],2) else (outV sh 0 (srtT (Zbg l nm)),0)
def ZlZ (l:List Trn):(srtT l).Perm l:=List.mergeSort_perm l _
def Zr7 (l:List Trn):(srtT l).Pairwise λa b=>a.1<=b.1:=by
 have h:=List.pairwise_mergeSort (le:=λa b:Trn=>decide (a.1<=b.1)) (λa b c h1 h2=>by simp at *;omega) (λa b=>by simp;omega) l
 exact h.imp λh=>by simpa using h
def srt_len (l:List Trn):(srtT l).length=l.length:=List.length_mergeSort l
def ZgS {a b:Trn}{l:List Trn}:gapB (a::b::l)=(decide (b.1-a.1<172800)||gapB (b::l)):=rfl
def Zso {l m:List Trn}(hp:l.Perm m) (h1:l.Pairwise λa b=>a.1<=b.1) (h2:m.Pairwise λa b=>a.1<=b.1):l.map (·.1)=m.map (·.1):=by
 refine List.Perm.eq_of_pairwise (le:=λa b:Int=>a<=b) (λa b _ _ h1 h2=>by omega) ?_ ?_ (hp.map _)
 .exact List.pairwise_map.2 h1
 .exact List.pairwise_map.2 h2
def gapI:List Int->Bool
 | a::b::l=>decide (b-a<172800)||gapI (b::l)
 | _=>false
def Zmp : ∀ l:List Trn,gapB l=gapI (l.map (·.1))
 | []=>rfl
 | [_]=>rfl
 | a::b::l=>by rw[ZgS,Zmp (b::l)];rfl
def ZhC : ∀ {l:List Trn},gapB l=false->l.Pairwise (λa b=>a.1<=b.1)->l.Pairwise λa b=>a.1<b.1
 | [],_,_=>.nil
 | [a],_,_=>by simp
 | a::b::l,h,hp=>by
  rw[ZgS,Bool.or_eq_false_iff] at h
  have h1:¬b.1-a.1<172800:=by simpa using h.1
  rw[List.pairwise_cons] at hp
  have ih:=ZhC h.2 hp.2
  refine List.pairwise_cons.2 ⟨λx hx=>?_,ih⟩
  rcases List.mem_cons.1 hx with rfl | hx
  .omega
  .have:=(List.pairwise_cons.1 hp.2).1 x hx;omega
def gap_uniq {l m:List Trn}(hp:l.Perm m) (h1:l.Pairwise λa b=>a.1<=b.1) (h2:m.Pairwise λa b=>a.1<=b.1):gapB l=gapB m/\(gapB l=false->l=m):=by
 have e:gapB l=gapB m:=by rw[Zmp,Zmp,Zso hp h1 h2]
 refine⟨e,λh=>?_⟩
 exact List.Perm.eq_of_pairwise (le:=λa b:Trn=>a.1<b.1) (λa b _ _ h1 h2=>by omega) (ZhC h h1) (ZhC (e ▸ h) h2) hp
def ZiW : ∀ l:List Trn,gapB l=false ↔ ∀ i (h:i+1<l.length),172800<=l[i+1].1-l[i].1
 | []=>by simp[gapB]
 | [_]=>by simp[gapB]
 | a::b::l=>by
  rw[ZgS,Bool.or_eq_false_iff,ZiW (b::l)]
  constructor
  .rintro⟨h1,h2⟩ i hi
   cases i with
   | zero=>simp at h1 ⊢;omega
   | succ i=>exact h2 i (by simpa using hi)
  .intro h
   refine⟨?_,λi hi=>h (i+1) (by simpa using hi)⟩
   have:=h 0 (by simp)
   simp at this ⊢;omega
def ZnM {l:List Trn}{i:Nat}(h:i+1<l.length) (hg:l[i+1].1-l[i].1<172800):gapB l=true:=by
 by_cases e:gapB l=true
 .exact e
 .have:=(ZiW l).1 (by simpa using e) i h;omega
def svAt (l:List Trn) (i:Nat):Int:=match i with
 | 0=>0
 | i+1=>match l[i]? with
  | some t=>rSv t.2
  | none=>0
def ZgE {l:List Trn}{i:Nat}(h:i<l.length):svAt l (i+1)=rSv l[i].2:=by
 show (match l[i]? with | some t=>rSv t.2 | none=>0)=_
 rw[List.getElem?_eq_getElem h]
def lastS:Int->List Trn->Int
 | sa,[]=>sa
 | _,t::l=>lastS (rSv t.2) l
def Zk5 : ∀ (l:List Trn) (t:Trn) (sa:Int),lastS sa (l++[t])=rSv t.2
 | [],t,sa=>rfl
 | u::l,t,sa=>Zk5 l t (rSv u.2)
def Zq2 : ∀ (l m:List Trn) (sh sa:Int),outV sh sa (l++m)=outV sh sa l++outV sh (lastS sa l) m
 | [],m,sh,sa=>rfl
 | t::l,m,sh,sa=>by rw[List.cons_append,outV,Zq2 l m,outV,List.cons_append];rfl
def Zdh {l:List Trn}{i:Nat}(h:i<l.length) (sh:Int):outV sh 0 (l.take (i+1))=outV sh 0 (l.take i)++[timV sh (svAt l i) l[i]]:=by
 rw[List.take_succ_eq_append_getElem h,Zq2]
 congr 1
 rw[outV,outV]
 cases i with
 | zero=>rfl
 | succ i=>rw[ZgE om,List.take_succ_eq_append_getElem (i:=i) om,Zk5]
def Zd9 : ∀ (l:List Trn) (sh sa:Int),(outV sh sa l).length=l.length
 | [],_,_=>rfl
 | t::l,sh,sa=>by rw[outV,List.length_cons,Zd9 l,List.length_cons]
def ZbF (h:Zbv r=0):1900<=rFr r/\rFr r<=rTo r/\rTo r<=2100/\(1<=r.2.2.2.1/\r.2.2.2.1<=12)/\ZbS 2001 r.2.2.2.1 r.2.2.2.2.1.1 r.2.2.2.2.1.2.1 r.2.2.2.2.1.2.2=0/\(0<=rAt r/\rAt r<=172800)/\clkB (rCk r) true=true/\(0<=rSv r/\rSv r<=10800):=by
 unfold Zbv at h
 split at h
 .omega
 split at h
 .omega
 rename_i h2
 split at h
 .rename_i h3;exact absurd h h3
 rename_i h3
 split at h
 .omega
 rename_i h4
 split at h
 .omega
 rename_i h5
 split at h
 .omega
 rename_i h6
 have w1:wi r.2.2.2.1 1 12=true:=Decidable.of_not_not λe=>h2 (.inr (.inr (.inr e)))
 refine⟨show 1900<=r.2.1 by omega,show r.2.1<=r.2.2.1 by omega,show r.2.2.1<=2100 by omega,Zbz.1 w1,?_,Zbz.1 (Decidable.of_not_not h4),Decidable.of_not_not h5,Zbz.1 (Decidable.of_not_not h6)⟩
 by_cases e:ZbS 2001 r.2.2.2.1 r.2.2.2.2.1.1 r.2.2.2.2.1.2.1 r.2.2.2.2.1.2.2=0
 .exact e
 .exact absurd (Decidable.of_not_not h3) (by rw[ZkY rfl e];exact e)
def ZvP (m y:Int):mlen 2001 m<=mlen y m:=by
 have:=Zpc y
 have e:lp 2001=0:=by decide
 unfold mlen;rw[e];split <;> (try split) <;> (try split) <;> (try split) <;> (try split) <;> omega
def Zwc {k w:Int}(h:ZbS 2001 m k w n=0) (hy:1<=y/\y<=9999):ZbS y m k w n=0:=by
 obtain⟨_,h2,h3,h4,h5,h6,h7⟩:=Zmq h
 have:=ZvP m y
 unfold ZbS
 repeat' split
 all_goals omega
def onDay_bd {k w:Int}(h:ZbS y m k w n=0) (hy:1900<=y/\y<=2100) : -30000<=Zdq y m k w n/\Zdq y m k w n<=50000:=by
 obtain⟨h1,h2,h3,h4,h5,h6,h7⟩:=Zmq h
 have hm:=Zds y m
 have a:=Ze2 (a:=1900) (b:=y) hy.1
 have b:=Ze2 (a:=y) (b:=2100) hy.2
 have c:=ZnY (y:=y) (m:=m) h2.1 om
 have e1:bef 1900=693595:=by decide
 have e2:bef 2100=766644:=by decide
 unfold Zdq fwd bwd num
 repeat' split
 all_goals omega
def Zjf (h:Zbv r=0) (hy:1900<=y/\y<=2100):onV y r.2.2.2.1 r.2.2.2.2.1.1 r.2.2.2.2.1.2.1 r.2.2.2.2.1.2.2=(Zbn (rDy r y),0) /\ -30000<=rDy r y/\rDy r y<=50000:=by
 obtain⟨_,_,_,_,h5,_⟩:=ZbF h
 have hf:=Zwc (y:=y) h5 om
 have hb:=onDay_bd hf hy
 exact⟨by rw[Zjg hf rfl,if_pos om],hb⟩
def Zun (h:Zbv r=0) (hy:1900<=y/\y<=2100) : -2592000000<=Zdy r y/\Zdy r y<=4320172800:=by
 have:=(Zjf h hy).2
 obtain⟨_,_,_,_,_,h6,_⟩:=ZbF h
 unfold Zdy;omega
def ZcO {α:Type}{p:α->Int} : ∀ {l:List α},Zbk p l=0 -> ∀ x∈l,p x=0
 | [],_,x,hx=>by cases hx
 | a::l,h,x,hx=>by
  rw[Zbk] at h
  split at h
  .rename_i h1;exact absurd h h1
  .rename_i h1
   rcases List.mem_cons.1 hx with rfl | hx
   .exact Decidable.of_not_not h1
   .exact ZcO h x hx
def ZgN {l:List Rul}(h:Zdz l nm sh=0):l.length<=40/\(∀ r∈l,Zbv r=0)/\(-64800<=sh/\sh<=64800) /\ ∃ r∈l,r.1=nm:=by
 unfold Zdz at h
 split at h
 .omega
 split at h
 .rename_i h1;exact absurd h h1
 rename_i h1
 split at h
 .omega
 split at h
 .omega
 rename_i h2
 refine⟨by omega,ZcO (Decidable.of_not_not h1),by omega,?_⟩
 have h3:l.any (λr=>decide (r.1=nm))=true:=by simpa using h2
 simpa using h3
def Zfn {a:Int}:y∈ZbM a b↔a<=y/\y<=b:=by
 unfold ZbM
 simp only[List.mem_map,List.mem_range]
 constructor
 .rintro⟨k,hk,rfl⟩;omega
 .intro h;exact⟨(y-a).toNat,by omega,by omega⟩
def ZcT (a b:Int):(ZbM a b).length=(b+1-a).toNat:=by simp[ZbM]
def ZvT {l:List Rul}{t:Trn}:t∈Zbg l nm↔t.2∈l/\t.2.1=nm /\ ∃ y,(rFr t.2<=y/\y<=rTo t.2)/\t.1=Zdy t.2 y:=by
 unfold Zbg
 rw[List.mem_flatMap]
 constructor
 .rintro⟨r,hr,h⟩
  split at h
  .rename_i hn
   obtain⟨y,hy,rfl⟩:=List.mem_map.1 h
   exact⟨hr,hn,y,Zfn.1 hy,rfl⟩
  .cases h
 .rintro⟨hr,hn,y,hy,e⟩
  refine⟨t.2,hr,?_⟩
  rw[if_pos hn]
  exact List.mem_map.2 ⟨y,Zfn.2 hy,by rw[<-e]⟩
def ZiL {l:List Rul}(h : ∀ r∈l,Zbv r=0) {t:Trn}(ht:t∈Zbg l nm):Zbv t.2=0 /\ -2592000000<=t.1/\t.1<=4320172800:=by
 obtain⟨h1,h2,y,hy,e⟩:=ZvT.1 ht
 have h3:=h _ h1
 obtain⟨q1,q2,q3,_⟩:=ZbF h3
 rw[e]
 exact⟨h3,Zun h3 om⟩
def Zhj (h:Zbv r=0):(Zc2 r).length<=201/\((Zc2 r).length:Int)=rTo r-rFr r+1:=by
 obtain⟨h1,h2,h3,_⟩:=ZbF h
 unfold Zc2
 rw[List.length_map,ZcT];omega
def ZgB : ∀ {l:List Rul}{nm:ByteArray},(∀ r∈l,Zbv r=0)->(Zbg l nm).length<=201*l.length
 | [],nm,_=>by simp[Zbg]
 | r::l,nm,h=>by
  have ih:=ZgB (l:=l) (nm:=nm) λx hx=>h x (by simp[hx])
  have h1:=Zhj (h r (by simp))
  unfold Zbg at ih ⊢
  rw[List.flatMap_cons,List.length_append,List.length_cons]
  split
  .omega
  .rw[List.length_nil];omega
def ZkL {l:List Rul}(hk:k<l.length) (nm:ByteArray):Zbg (l.take (k+1)) nm=Zbg (l.take k) nm++(if l[k].1=nm then Zc2 l[k] else []):=by
 unfold Zbg
 rw[List.take_succ_eq_append_getElem hk,List.flatMap_append,List.flatMap_cons,List.flatMap_nil,List.append_nil]
def ZmT {a c:Int}(h1:a<=b+1) (h2:b<=c):ZbM a c=ZbM a b++ZbM (b+1) c:=by
 refine List.ext_getElem (by rw[List.length_append,ZcT,ZcT,ZcT];omega) λi h3 h4=>?_
 rw[List.getElem_append]
 rw[ZcT] at h3
 split
 .simp[ZbM]
 .rename_i h5
  rw[ZcT] at h5
  simp only[ZbM,List.getElem_map,List.getElem_range]
  have:(List.map (λ(k:Nat)=>a+(k:Int)) (List.range (b+1-a).toNat)).length=(b+1-a).toNat:=by simp
  rw[this]
  omega
def ZuF {l:List Trn}{i:Nat}(h : ∀ t∈l,Zbv t.2=0):0<=svAt l i/\svAt l i<=10800:=by
 cases i with
 | zero=>simp[svAt]
 | succ i =>
  show 0<=(match l[i]? with | some t=>rSv t.2 | none=>0)/\(match l[i]? with | some t=>rSv t.2 | none=>0)<=10800
  cases e:l[i]? with
  | none=>exact⟨by simp,by simp⟩
  | some t =>
   obtain⟨_,_,_,_,_,_,_,h8⟩:=ZbF (h t (List.mem_of_getElem? e))
   exact h8
def ZvK {sa:Int}(h : -64800<=sh/\sh<=64800) (h2:0<=sa/\sa<=10800) : -64800<=offV r sh sa/\offV r sh sa<=75600:=by
 unfold offV;split
 .omega
 split <;> omega
def yrT (l:List Rul) (nm:ByteArray) (y:Int):List Trn:=l.flatMap λr=>if r.1=nm/\wi y (rFr r) (rTo r)=true then [(Zdy r y,r)] else []
def Ze6 {α β:Type}(f g:α->List β) : ∀ l:List α,(l.flatMap λx=>f x++g x).Perm (l.flatMap f++l.flatMap g)
 | []=>.nil
 | x::l=>by
  rw[List.flatMap_cons,List.flatMap_cons,List.flatMap_cons]
  have ih:=Ze6 f g l
  rw[List.append_assoc,List.append_assoc]
  refine List.Perm.append_left _ ?_
  refine (List.Perm.append_left _ ih).trans ?_
  rw[<-List.append_assoc,<-List.append_assoc]
  exact List.Perm.append_right _ List.perm_append_comm
def Zr0 {a b:Int}(h1:1900<=a) (h2:a<=b) (h3:b<=2100) (f:Int->Trn):((ZbM 1900 2100).flatMap λy=>if wi y a b=true then [f y] else [])=(ZbM a b).map f:=by
 have none : ∀ l:List Int,(∀ y∈l,¬(a<=y/\y<=b))->(l.flatMap λy=>if wi y a b=true then [f y] else [])=[]:=by
  intro l hl
  rw[List.flatMap_eq_nil_iff]
  intro y hy
  rw[if_neg (by rw[Zbz];exact hl y hy)]
 have some : ∀ l:List Int,(∀ y∈l,a<=y/\y<=b)->(l.flatMap λy=>if wi y a b=true then [f y] else [])=l.map f:=by
  intro l
  induction l with
  | nil=>intro _;rfl
  | cons y l ih =>
   intro hl
   rw[List.flatMap_cons,ih λz hz=>hl z (by simp[hz]),if_pos (Zbz.2 (hl y (by simp)))];rfl
 rw[ZmT (a:=1900) (b:=b) (c:=2100) om h3,List.flatMap_append,none (ZbM (b+1) 2100) (λy hy=>by have:=Zfn.1 hy;omega),List.append_nil]
 rw[show ZbM 1900 b=ZbM 1900 (a-1)++ZbM a b by have:=ZmT (a:=1900) (b:=a-1) (c:=b) om om;rwa [show a-1+1=a by omega] at this]
 rw[List.flatMap_append,none (ZbM 1900 (a-1)) (λy hy=>by have:=Zfn.1 hy;omega),List.nil_append,some (ZbM a b) (λy hy=>Zfn.1 hy)]
def Zqw : ∀ {l:List Rul}{nm:ByteArray},(∀ r∈l,Zbv r=0)->((ZbM 1900 2100).flatMap (yrT l nm)).Perm (Zbg l nm)
 | [],nm,_=>by
  have:(ZbM 1900 2100).flatMap (yrT [] nm)=[]:=by rw[List.flatMap_eq_nil_iff];intro y _;rfl
  rw[this];exact .nil
 | r::l,nm,h=>by
  obtain⟨q1,q2,q3,_⟩:=ZbF (h r (by simp))
  have ih:=Zqw (l:=l) (nm:=nm) λx hx=>h x (by simp[hx])
  have e:(ZbM 1900 2100).flatMap (yrT (r::l) nm)=(ZbM 1900 2100).flatMap λy=>(if r.1=nm/\wi y (rFr r) (rTo r)=true then [(Zdy r y,r)] else [])++yrT l nm y:=rfl
  rw[e]
  refine (Ze6 _ _ _).trans ?_
  have e2:Zbg (r::l) nm=(if r.1=nm then Zc2 r else [])++Zbg l nm:=rfl
  rw[e2]
  refine List.Perm.append ?_ ih
  by_cases hn:r.1=nm
  .simp only[hn,true_and,if_true]
   rw[Zr0 q1 q2 q3];exact List.Perm.refl _
  .simp only[hn,false_and,if_false]
   rw[show ((ZbM 1900 2100).flatMap λ_=>([]:List Trn))=[] by rw[List.flatMap_eq_nil_iff];intros;rfl]
def ZlT {l:List Rul}(hr:Zdz l nm sh=0) {S:List Trn}(hp:S.Perm (Zbg l nm)) (hs:S.Pairwise λa b=>a.1<=b.1) :
  Zbf l nm sh=if gapB S=true then ([],4) else if 1000<S.length then ([],2) else (outV sh 0 S,0):=by
 obtain⟨g1,g2⟩:=gap_uniq (hp.trans (ZlZ _).symm) hs (Zr7 _)
 unfold Zbf
 rw[if_neg (by simp[hr]),<-g1,<-hp.length_eq]
 by_cases e:gapB S=true
 .rw[if_pos e,if_pos e]
 .rw[if_neg e,if_neg e,g2 (by simpa using e)]
def Zep {l:List Rul}(hr:Zdz l nm sh≠0):Zbf l nm sh=([],Zdz l nm sh):=if_pos hr
end
section
def Zdt (F:Loc):List Chg->Int->Loc
 | [],_=>F
 | c::cs,a=>if c.1<=a then Zdt c.2 cs a else F
def nrm (a:Int) (F:Loc):List Chg->Prop
 | []=>True
 | c::cs=>a<c.1/\c.2≠F/\nrm c.1 c.2 cs
def Zq8 {M:Int} : ∀ (C C':List Chg) (a:Int) (F:Loc),nrm a F C->nrm a F C'->(∀ c∈C,c.1<=M)->(∀ c∈C',c.1<=M)->(∀ x,a<=x->x<=M->Zdt F C x=Zdt F C' x)->C=C'
 | [],[],_,_,_,_,_,_,_=>rfl
 | [],c::cs,a,F,_,h2,_,m2,h=>by
  have:=h c.1 (by have:=h2.1;omega) (m2 c (by simp))
  rw[Zdt,Zdt,if_pos (Int.le_refl _)] at this
  have e:Zdt c.2 cs c.1=c.2:=by
   cases cs with
   | nil=>rfl
   | cons d ds=>rw[Zdt,if_neg (by have:=h2.2.2.1;omega)]
  rw[e] at this
  exact absurd this.symm h2.2.1
 | c::cs,[],a,F,h1,_,m1,_,h=>by
  have:=h c.1 (by have:=h1.1;omega) (m1 c (by simp))
  rw[Zdt,Zdt,if_pos (Int.le_refl _)] at this
  have e:Zdt c.2 cs c.1=c.2:=by
   cases cs with
   | nil=>rfl
   | cons d ds=>rw[Zdt,if_neg (by have:=h1.2.2.1;omega)]
  rw[e] at this
  exact absurd this h1.2.1
 | c::cs,d::ds,a,F,h1,h2,m1,m2,h=>by
  have self : ∀ (c:Chg) (cs:List Chg),nrm c.1 c.2 cs->Zdt c.2 cs c.1=c.2:=by
   intro c cs hn
   cases cs with
   | nil=>rfl
   | cons d ds=>rw[Zdt,if_neg (by have:=hn.1;omega)]
  have hc:=h c.1 (by have:=h1.1;omega) (m1 c (by simp))
  have hd:=h d.1 (by have:=h2.1;omega) (m2 d (by simp))
  rw[Zdt,Zdt,if_pos (Int.le_refl _),self c cs h1.2.2] at hc
  rw[Zdt,Zdt,if_pos (Int.le_refl _),self d ds h2.2.2] at hd
  have e1:c.1=d.1:=by
   rcases Int.lt_trichotomy c.1 d.1 with e | e | e
   .rw[if_neg om] at hc;exact absurd hc h1.2.1
   .exact e
   .rw[if_neg om] at hd;exact absurd hd.symm h2.2.1
  rw[if_pos om,e1,self d ds h2.2.2] at hc
  have e2:c=d:=Prod.ext e1 hc
  subst e2
  refine congrArg _ (Zq8 cs ds c.1 c.2 h1.2.2 h2.2.2 (λx hx=>m1 x (by simp[hx])) (λx hx=>m2 x (by simp[hx])) λx hx hM=>?_)
  have:=h x (by have:=h1.1;omega) hM
  rwa [Zdt,Zdt,if_pos hx,if_pos hx] at this
def dd (F:Loc):List Chg->List Chg
 | []=>[]
 | c::cs=>if c.2=F then dd F cs else c::dd c.2 cs
def pts (g:Int->Loc) (L:List Int):List Chg:=L.map λa=>(a,g a)
def ZnX : ∀ {l:List Chg}{F:Loc}{c:Chg},c∈dd F l->c∈l
 | [],_,_,h=>by cases h
 | d::l,F,c,h=>by
  rw[dd] at h
  split at h
  .exact List.mem_cons_of_mem _ (ZnX h)
  .rcases List.mem_cons.1 h with rfl | h
   .exact List.mem_cons_self
   .exact List.mem_cons_of_mem _ (ZnX h)
def ZrI : ∀ (l:List Chg) (F:Loc),(dd F l).length<=l.length
 | [],_=>Nat.le_refl _
 | d::l,F=>by
  rw[dd]
  split
  .have:=ZrI l F;simp only[List.length_cons];omega
  .have:=ZrI l d.2;simp only[List.length_cons];omega
def ZrJ : ∀ (l m:List Chg) (F:Loc),dd F (l++m)=dd F l++dd ((dd F l).getLast?.elim F (·.2)) m
 | [],m,F=>rfl
 | c::l,m,F=>by
  rw[List.cons_append,dd,dd]
  split
  .exact ZrJ l m F
  .rw[ZrJ l m c.2,List.cons_append,List.getLast?_cons]
   cases (dd c.2 l).getLast? <;> rfl
def Zwv {g:Int->Loc} : ∀ {L:List Int}{a:Int},L.Pairwise (· <= ·)->(∀ x∈L,a<=x)->nrm a (g a) (dd (g a) (pts g L))
 | [],_,_,_=>trivial
 | p::L,a,hs,ha=>by
  have h1:=ha p (by simp)
  show nrm a (g a) (if g p=g a then dd (g a) (pts g L) else (p,g p)::dd (g p) (pts g L))
  rw[List.pairwise_cons] at hs
  split
  .exact Zwv hs.2 λx hx=>ha x (by simp[hx])
  .rename_i hne
   exact⟨by have:a≠p:=λe=>hne (by rw[e]);show a<p;omega,hne,Zwv hs.2 hs.1⟩
def ZvZ {F:Loc}{l:List Chg}{x:Int}(h : ∀ c∈l,x<c.1):Zdt F l x=F:=by
 cases l with
 | nil=>rfl
 | cons c l=>rw[Zdt,if_neg (by have:=h c (by simp);omega)]
def Zo9 {c:Chg}:c∈pts g L↔c.1∈L/\c.2=g c.1:=by
 unfold pts
 rw[List.mem_map]
 constructor
 .rintro⟨a,ha,rfl⟩;exact⟨ha,rfl⟩
 .rintro⟨h1,h2⟩;exact⟨c.1,h1,by rw[<-h2]⟩
def still (g:Int->Loc) (L:List Int) (a M:Int):Prop := ∀ u v,a<=u->u<=v->v<=M->(∀ p∈L,¬(u<p/\p<=v))->g u=g v
def ZpC {g:Int->Loc}{M:Int} : ∀ {L:List Int}{a:Int},L.Pairwise (· <= ·)->(∀ x∈L,a<=x)->still g L a M -> ∀ x,a<=x->x<=M->Zdt (g a) (dd (g a) (pts g L)) x=g x
 | [],a,_,_,hc,x,h1,h2=>hc a x (Int.le_refl _) h1 h2 (by simp)
 | p::L,a,hs,ha,hc,x,h1,h2=>by
  have hp:=ha p (by simp)
  rw[List.pairwise_cons] at hs
  have hc':still g L p M:=λu v q1 q2 q3 q4=>hc u v om q2 q3 (λz hz=>by
   rcases List.mem_cons.1 hz with rfl | hz
   .omega
   .exact q4 z hz)
  show Zdt (g a) (if g p=g a then dd (g a) (pts g L) else (p,g p)::dd (g p) (pts g L)) x=g x
  have low:x<p->g a=g x:=λhx=>hc a x (Int.le_refl _) h1 h2 λz hz=>by
   rcases List.mem_cons.1 hz with rfl | hz
   .omega
   .have:=hs.1 z hz;omega
  split
  .rename_i e
   by_cases hx:p<=x
   .have:=ZpC hs.2 hs.1 hc' x hx h2
    rwa [e] at this
   .rw[ZvZ λc hc=>?_]
    .exact low om
    .have:=hs.1 _ (Zo9.1 (ZnX hc)).1;omega
  .rw[Zdt]
   split
   .rename_i hx;exact ZpC hs.2 hs.1 hc' x hx h2
   .rename_i hx;exact low (by have:¬p<=x:=hx;omega)
abbrev tMin:Int := -62135596800
abbrev tMax:Int:=253402300799
def inT (x:Int):Bool:=decide (tMin<x/\x<=tMax)
def Zfc (g:Int->Loc) (L:List Int):Tab:=(g tMin,dd (g tMin) (pts g (L.filter inT)))
def Zm4 (h:still g L tMin tMax):still g (L.filter inT) tMin tMax:=λu v h1 h2 h3 h4=>h u v h1 h2 h3 λp hp hpp=>h4 p (List.mem_filter.2 ⟨hp,by unfold inT;simp only[tMin,tMax] at *;simp;omega⟩) hpp
def ZnQ  : ∀ x∈L.filter inT,tMin<=x:=λx hx=>by
 have:=(List.mem_filter.1 hx).2;unfold inT at this;simp only[tMin,decide_eq_true_eq] at *;omega
def ZkN (hs:L.Pairwise (· <= ·)) (h:still g L tMin tMax) {x:Int}(h1:tMin<=x) (h2:x<=tMax):Zdt (Zfc g L).1 (Zfc g L).2 x=g x :=
 ZpC (hs.filter _) ZnQ (Zm4 h) x h1 h2
def Zi7 (hs:L.Pairwise (· <= ·)):nrm tMin (g tMin) (Zfc g L).2:=Zwv (hs.filter _) ZnQ
def Zm3  : ∀ c∈(Zfc g L).2,c.1<=tMax:=λc hc=>by
 have:=(List.mem_filter.1 (Zo9.1 (ZnX hc)).1).2
 unfold inT at this;simp only[decide_eq_true_eq] at this;exact this.2
def Zr6 {L':List Int}(hs:L.Pairwise (· <= ·)) (h:still g L tMin tMax) (hs':L'.Pairwise (· <= ·)) (h':still g L' tMin tMax):Zfc g L=Zfc g L':=by
 refine Prod.ext rfl (Zq8 (M:=tMax) _ _ tMin (g tMin) (Zi7 hs) (Zi7 hs') Zm3 Zm3 λx h1 h2=>?_)
 have a:=ZkN hs h h1 h2
 have b:=ZkN hs' h' h1 h2
 exact a.trans b.symm
def Zb3:List Chg->Int
 | []=>0
 | c::cs=>if locE c.2≠0 then locE c.2 else Zb3 cs
def ZiT : ∀ {l:List Chg}{F:Loc},locE F=0->Zb3 (dd F l)=Zb3 l
 | [],_,_=>rfl
 | c::l,F,h=>by
  rw[dd]
  split
  .rename_i e
   rw[ZiT h,Zb3,e,h];simp
  .rw[Zb3,Zb3]
   split
   .rfl
   .rename_i h2;exact ZiT (Decidable.of_not_not h2)
def tabR (t:Tab):Tab×Int :=
 if locE t.1≠0 then ((((0,0,⟨#[]⟩):Loc),[]),locE t.1) else if Zb3 t.2≠0 then (((0,0,⟨#[]⟩),[]),Zb3 t.2) else if 1000<t.2.length then (((0,0,⟨#[]⟩),[]),2) else (t,0)
def Zrg : ∀ {l:List Chg},Zb3 l=0 -> ∀ c∈l,locE c.2=0
 | [],_,_,h=>by cases h
 | c::l,h,d,hd=>by
  rw[Zb3] at h
  split at h
  .rename_i h2;exact absurd h h2
  .rename_i h2
   rcases List.mem_cons.1 hd with rfl | hd
   .exact Decidable.of_not_not h2
   .exact Zrg h d hd
def ZwM : ∀ {C:List Chg}{a:Int}{F:Loc},nrm a F C->(∀ c∈C,locE c.2=0/\Zgh c.1=true)->chk a F C=0
 | [],_,_,_,_=>rfl
 | c::cs,a,F,h,hc=>by
  have h1:=hc c (by simp)
  rw[Ze0 h1.2 h.1 h1.1 (ZiU h.2.1)]
  exact ZwM h.2.2 λd hd=>hc d (by simp[hd])
def ZuB {t:Tab}(h:(tabR t).2=0):(tabR t).1=t/\locE t.1=0/\Zb3 t.2=0/\t.2.length<=1000:=by
 unfold tabR at h ⊢
 split at h
 .rename_i h1;exact absurd h h1
 split at h
 .rename_i h1;exact absurd h h1
 split at h
 .cases h
 rename_i h1 h2 h3
 rw[if_neg h1,if_neg h2,if_neg h3]
 exact⟨rfl,Decidable.of_not_not h1,Decidable.of_not_not h2,by omega⟩
def Zr5 {g:Int->Loc}{L:List Int}(hs:L.Pairwise (· <= ·)) (h:(tabR (Zfc g L)).2=0):Za3 (Zfc g L)=0:=by
 obtain⟨_,h2,h3,h4⟩:=ZuB h
 unfold Za3
 rw[if_neg om,if_neg (by simp[h2])]
 have hn:nrm (-62135596801) (Zfc g L).1 (Zfc g L).2:=by
  have:=Zi7 (g:=g) hs
  show nrm (-62135596801) (g tMin) (Zfc g L).2
  cases hC:(Zfc g L).2 with
  | nil=>trivial
  | cons c cs=>rw[hC] at this;exact⟨by have:=this.1;simp only[tMin] at this;omega,this.2⟩
 refine ZwM hn λc hc=>⟨Zrg h3 c hc,Zm0.2 ?_⟩
 have:=(List.mem_filter.1 (Zo9.1 (ZnX hc)).1).2
 unfold inT at this;simp only[tMin,tMax,decide_eq_true_eq] at this;omega
end
section
open Go.Ab Civ
abbrev xSh (x:Era):Int:=x.1
abbrev xRl (x:Era):ByteArray:=x.2.1
abbrev xSv (x:Era):Int:=x.2.2.1
abbrev xFm (x:Era):ByteArray:=x.2.2.2.1
abbrev xOp (x:Era):Bool:=x.2.2.2.2.1
def endV (x:Era):Int:=num x.2.2.2.2.2.1.1 x.2.2.2.2.2.1.2.1 x.2.2.2.2.2.1.2.2*86400+x.2.2.2.2.2.2.1-(if x.2.2.2.2.2.2.2=2 then xSh x else 0)
def ZaO (es:List Era):List Int:=es.dropLast.map endV
def Zf3 (fm lt:ByteArray) (sa:Int):ByteArray :=
 if (cutL fm [47]).2.2=true then (if 0<sa then bA (cutL fm [47]).2.1 else bA (cutL fm [47]).1)
 else if (cutL fm [37,115]).2.2=true then bA ((cutL fm [37,115]).1++aB lt++(cutL fm [37,115]).2.1) else fm
def locV (x:Era) (sa:Int) (lt:ByteArray):Loc:=(xSh x+sa,sa,Zf3 (xFm x) lt sa)
def ZaL (rl:List Rul) (x:Era):List Tim:=if xRl x=⟨#[]⟩ then [] else (Zbf rl (xRl x) (xSh x)).1
def ZcS (sa:Int) (lt:ByteArray):List Tim->Int->Int×ByteArray
 | [],_=>(sa,lt)
 | t::ts,a=>if t.1<=a then ZcS t.2.1 t.2.2 ts a else ZcS sa lt ts a
def Zf4 (rl:List Rul) (x:Era) (a:Int):Loc:=locV x (ZcS (xSv x) ⟨#[]⟩ (ZaL rl x) a).1 (ZcS (xSv x) ⟨#[]⟩ (ZaL rl x) a).2
def locZ:Loc:=(0,0,⟨#[]⟩)
def Za9 (rl:List Rul):List Era->Int->Loc
 | [],_=>locZ
 | [x],a=>Zf4 rl x a
 | x::y::es,a=>if endV x<=a then Za9 rl (y::es) a else Zf4 rl x a
def kAt:List Int->Int->Nat
 | [],_=>0
 | e::es,a=>if e<=a then kAt es a+1 else 0
def Zrm : ∀ (l:List Int) (a:Int),kAt l a<=l.length
 | [],_=>Nat.le_refl _
 | e::es,a=>by
  rw[kAt]
  split
  .have:=Zrm es a;simp only[List.length_cons];omega
  .exact Nat.zero_le _
def Zrl : ∀ {l:List Int}{a:Int}{k:Nat}(h:k<l.length),k<=kAt l a->(l[k]<=a↔k+1<=kAt l a)
 | e::es,a,0,_,_=>by
  rw[kAt]
  simp only[List.getElem_cons_zero]
  split
  .rename_i h;exact⟨λ_=>by omega,λ_=>h⟩
  .rename_i h;exact⟨λh2=>absurd h2 h,λh2=>by omega⟩
 | e::es,a,k+1,h,hk=>by
  rw[kAt] at hk ⊢
  simp only[List.getElem_cons_succ]
  split at hk
  .rename_i h2
   rw[if_pos h2]
   have:=Zrl (l:=es) (a:=a) (k:=k) (by simpa using h) om
   rw[this];omega
  .omega
def Zde (es:List Era):(ZaO es).length=es.length-1:=by simp[ZaO]
def Zfq {y:Era}:ZaO (x::y::es)=endV x::ZaO (y::es):=by simp[ZaO]
def Zmu (h:k<(ZaO es).length) (h2:k<es.length):(ZaO es)[k]=endV es[k]:=by simp[ZaO]
def ZoL {rl:List Rul} : ∀ {es:List Era}{a:Int}(h:kAt (ZaO es) a<es.length),Za9 rl es a=Zf4 rl es[kAt (ZaO es) a] a
 | [],a,h=>by simp at h
 | [x],a,h=>by simp[Za9,ZaO,kAt]
 | x::y::es,a,h=>by
  have e:kAt (ZaO (x::y::es)) a=if endV x<=a then kAt (ZaO (y::es)) a+1 else 0:=by rw[Zfq,kAt]
  rw[Za9]
  split
  .rename_i hx
   rw[if_pos hx] at e
   have h':kAt (ZaO (y::es)) a<(y::es).length:=by have:=Zrm (ZaO (y::es)) a;rw[Zde] at this;simp at this ⊢;omega
   rw[ZoL h']
   simp only[e,List.getElem_cons_succ]
  .rename_i hx
   rw[if_neg hx] at e
   simp only[e,List.getElem_cons_zero]
def kAt_lt (h:es≠[]) (a:Int):kAt (ZaO es) a<es.length:=by
 have:=Zrm (ZaO es) a
 rw[Zde] at this
 have:=List.length_pos_iff.2 h
 omega
def Zev : ∀ (l:List Tim) (t:Tim) (sa:Int) (lt:ByteArray) (a:Int),ZcS sa lt (l++[t]) a=if t.1<=a then (t.2.1,t.2.2) else ZcS sa lt l a
 | [],t,sa,lt,a=>rfl
 | u::l,t,sa,lt,a=>by
  rw[List.cons_append,ZcS,ZcS]
  split
  .exact Zev l t _ _ a
  .exact Zev l t _ _ a
def Zje : ∀ (l:List Tim) (sa:Int) (lt:ByteArray) (u v:Int),u<=v->(∀ t∈l,¬(u<t.1/\t.1<=v))->ZcS sa lt l u=ZcS sa lt l v
 | [],_,_,_,_,_,_=>rfl
 | t::l,sa,lt,u,v,h,hl=>by
  have ih:=λsa lt=>Zje l sa lt u v h λx hx=>hl x (by simp[hx])
  have:=hl t (by simp)
  rw[ZcS,ZcS]
  split
  .rw[if_pos om];exact ih _ _
  .rw[if_neg om];exact ih _ _
def ZkX : ∀ (l:List Tim) (sa:Int) (lt:ByteArray) (a:Int),(∀ t∈l,a<t.1)->ZcS sa lt l a=(sa,lt)
 | [],_,_,_,_=>rfl
 | t::l,sa,lt,a,h=>by
  rw[ZcS,if_neg (by have:=h t (by simp);omega)]
  exact ZkX l sa lt a λx hx=>h x (by simp[hx])
def ZqU : ∀ {l:List Tim}{t:Tim}(sa:Int) (lt:ByteArray),l.Pairwise (λa b=>a.1<b.1)->t∈l->ZcS sa lt l t.1=(t.2.1,t.2.2)
 | u::l,t,sa,lt,hp,ht=>by
  rw[List.pairwise_cons] at hp
  rw[ZcS]
  rcases List.mem_cons.1 ht with rfl | ht
  .rw[if_pos (Int.le_refl _)];exact ZkX l _ _ _ hp.1
  .rw[if_pos (by have:=hp.1 t ht;omega)];exact ZqU _ _ hp.2 ht
def eraG (x:Era) (b:Int) (ts:List Tim):List Chg :=
 (b,locV x (ZcS (xSv x) ⟨#[]⟩ ts b).1 (ZcS (xSv x) ⟨#[]⟩ ts b).2)::(ts.filter λt=>decide (b<t.1)).map λt=>(t.1,locV x t.2.1 t.2.2)
def eraG_low {ts:List Tim}{t:Tim}(h:t.1<=b):eraG x b (ts++[t])=(b,locV x t.2.1 t.2.2)::(eraG x b ts).tail:=by
 unfold eraG
 rw[Zev,if_pos h,List.filter_append]
 simp[show ¬b<t.1 by omega]
def Zwr {ts:List Tim}{t:Tim}(h:¬t.1<=b):eraG x b (ts++[t])=eraG x b ts++[(t.1,locV x t.2.1 t.2.2)]:=by
 unfold eraG
 rw[Zev,if_neg h,List.filter_append]
 simp[show b<t.1 by omega]
def cutV (l:List Chg) (e:Int):List Chg:=l.takeWhile λc=>decide (c.1<e)
def ZbH (prev:Option Int) (f:Int):Int:=match prev with
 | none=>f
 | some e=>max f e
def Za5 (rl:List Rul) (f:Int):Option Int->List Era->List Chg
 | _,[]=>[]
 | prev,[x]=>eraG x (ZbH prev f) (ZaL rl x)
 | prev,x::y::es=>(if endV x<=f then [] else cutV (eraG x (ZbH prev f) (ZaL rl x)) (endV x))++Za5 rl f (some (endV x)) (y::es)
def risL:List Int->Bool
 | a::b::l=>decide (a<b)&&risL (b::l)
 | _=>true
def Zl9 : ∀ l:List Int,risL l=true↔l.Pairwise (· < ·)
 | []=>by simp[risL]
 | [a]=>by simp[risL]
 | a::b::l=>by
  rw[risL,Bool.and_eq_true,Zl9 (b::l),List.pairwise_cons (a:=a)]
  constructor
  .rintro⟨h1,h2⟩
   have h1:a<b:=by simpa using h1
   refine⟨λx hx=>?_,h2⟩
   rcases List.mem_cons.1 hx with rfl | hx
   .exact h1
   .have:=(List.pairwise_cons.1 h2).1 x hx;omega
  .rintro⟨h1,h2⟩
   exact⟨by simpa using h1 b (by simp),h2⟩
def Zni : ∀ {l:List Int},(∀ i (h:i+1<l.length),l[i]<l[i+1])->risL l=true
 | [],_=>rfl
 | [_],_=>rfl
 | a::b::l,h=>by
  rw[risL,Bool.and_eq_true]
  exact⟨by simpa using h 0 (by simp),Zni λi hi=>h (i+1) (by simpa using hi)⟩
def Zse {l:List Int}{i:Nat}(h:i+1<l.length) (hb:¬l[i]<l[i+1]):risL l=false:=by
 cases e:risL l with
 | false=>rfl
 | true=>exact absurd (List.pairwise_iff_getElem.1 ((Zl9 l).1 e) i (i+1) om h om) hb
def risT (rl:List Rul) (x:Era):Prop:=(ZaL rl x).Pairwise λa b=>a.1<b.1
def ZpD {l:List Chg}{e:Int}{c:Chg}(hs:l.Pairwise λa b=>a.1<b.1):c∈cutV l e↔c∈l/\c.1<e:=by
 unfold cutV
 induction l with
 | nil=>simp
 | cons d l ih =>
  rw[List.pairwise_cons] at hs
  rw[List.takeWhile_cons]
  split
  .rename_i h
   rw[List.mem_cons,ih hs.2,List.mem_cons]
   simp only[decide_eq_true_eq] at h
   constructor
   .rintro (rfl | ⟨h1,h2⟩)
    .exact⟨.inl rfl,h⟩
    .exact⟨.inr h1,h2⟩
   .rintro⟨rfl | h1,h2⟩
    .exact .inl rfl
    .exact .inr ⟨h1,h2⟩
  .rename_i h
   simp only[decide_eq_true_eq] at h
   constructor
   .intro h;cases h
   .rintro⟨h1,h2⟩
    rcases List.mem_cons.1 h1 with rfl | h1
    .exact absurd h2 h
    .have:=hs.1 c h1;omega
def ZrD {ts:List Tim}(h:ts.Pairwise λa b=>a.1<b.1):(eraG x b ts).Pairwise λa b=>a.1<b.1:=by
 unfold eraG
 rw[List.pairwise_cons]
 refine⟨λc hc=>?_,?_⟩
 .obtain⟨t,ht,rfl⟩:=List.mem_map.1 hc
  simpa using (List.mem_filter.1 ht).2
 .rw[List.pairwise_map]
  exact h.filter _
def ZrF (h:risT rl x) {c:Chg}(hc:c∈eraG x b (ZaL rl x)):b<=c.1/\c.2=Zf4 rl x c.1:=by
 rcases List.mem_cons.1 hc with rfl | hc
 .exact⟨Int.le_refl _,rfl⟩
 .obtain⟨t,ht,rfl⟩:=List.mem_map.1 hc
  obtain⟨h1,h2⟩:=List.mem_filter.1 ht
  simp only[decide_eq_true_eq] at h2
  refine⟨by show b<=t.1;omega,?_⟩
  show locV x t.2.1 t.2.2=Zf4 rl x t.1
  unfold Zf4
  rw[ZqU _ _ h h1]
def ZeV {u v:Int}(h:u<=v) (ht : ∀ t∈ZaL rl x,¬(u<t.1/\t.1<=v)):Zf4 rl x u=Zf4 rl x v:=by
 unfold Zf4;rw[Zje _ _ _ u v h ht]
def ZsA {u v:Int}(h0:b<=u) (h:u<=v) (hc : ∀ c∈eraG x b (ZaL rl x),¬(u<c.1/\c.1<=v)):Zf4 rl x u=Zf4 rl x v:=by
 refine ZeV h λt ht hh=>?_
 refine hc (t.1,locV x t.2.1 t.2.2) (List.mem_cons_of_mem _ (List.mem_map.2 ⟨t,List.mem_filter.2 ⟨ht,?_⟩,rfl⟩)) hh
 simp;omega
def prevOk (prev:Option Int) (es:List Era):Prop:=match prev with
 | none=>True
 | some e => ∀ x∈ZaO es,e<x
def Zns {rl:List Rul}{f:Int} : ∀ {es:List Era}{prev:Option Int},es≠[]->(∀ x∈es,risT rl x)->(ZaO es).Pairwise (· < ·)->prevOk prev es ->
  (∃ l,Za5 rl f prev es=(ZbH prev f,Za9 rl es (ZbH prev f))::l)/\(Za5 rl f prev es).Pairwise (λa b=>a.1<b.1)/\(∀ c∈Za5 rl f prev es,ZbH prev f<=c.1/\c.2=Za9 rl es c.1) /\
  ∀ u v,ZbH prev f<=u->u<=v->(∀ c∈Za5 rl f prev es,¬(u<c.1/\c.1<=v))->Za9 rl es u=Za9 rl es v
 | [x],prev,_,ht,_,_=>by
  have hx:=ht x (by simp)
  refine⟨⟨_,rfl⟩,ZrD hx,λc hc=>ZrF hx hc,λu v h1 h2 h3=>ZsA h1 h2 h3⟩
 | x::y::es,prev,_,ht,hr,hp=>by
  have hx:=ht x (by simp)
  rw[Zfq,List.pairwise_cons] at hr
  have hp2:prevOk (some (endV x)) (y::es):=hr.1
  obtain⟨i1,i2,i3,i4⟩:=Zns (f:=f) (es:=y::es) (prev:=some (endV x)) (by simp) (λz hz=>ht z (by simp[hz])) hr.2 hp2
  have hbe:prev=none \/ ∃ e,prev=some e/\e<endV x:=by
   cases prev with
   | none=>exact .inl rfl
   | some e=>exact .inr ⟨e,rfl,hp _ (by rw[Zfq];simp)⟩
  by_cases hf:endV x<=f
  .have hb:ZbH prev f=f:=by
    rcases hbe with rfl | ⟨e,rfl,he⟩
    .rfl
    .show max f e=f;omega
   have hb2:ZbH (some (endV x)) f=f:=by show max f (endV x)=f;omega
   have hP:Za5 rl f prev (x::y::es)=Za5 rl f (some (endV x)) (y::es):=by rw[Za5,if_pos hf,List.nil_append]
   have hT : ∀ a,f<=a->Za9 rl (x::y::es) a=Za9 rl (y::es) a:=λa ha=>by rw[Za9,if_pos om]
   rw[hP,hb]
   rw[hb2] at i1 i3 i4
   refine⟨by rw[hT f (Int.le_refl _)];exact i1,i2,λc hc=>?_,λu v h1 h2 h3=>?_⟩
   .obtain⟨j1,j2⟩:=i3 c hc
    exact⟨j1,by rw[hT _ j1];exact j2⟩
   .rw[hT u h1,hT v om];exact i4 u v h1 h2 h3
  .have hb:ZbH prev f<endV x:=by
    rcases hbe with rfl | ⟨e,rfl,he⟩
    .show f<endV x;omega
    .show max f e<endV x;omega
   have hb2:ZbH (some (endV x)) f=endV x:=by show max f (endV x)=endV x;omega
   have hP:Za5 rl f prev (x::y::es)=cutV (eraG x (ZbH prev f) (ZaL rl x)) (endV x)++Za5 rl f (some (endV x)) (y::es):=by rw[Za5,if_neg hf]
   have hT1 : ∀ a,a<endV x->Za9 rl (x::y::es) a=Zf4 rl x a:=λa ha=>by rw[Za9,if_neg om]
   have hT2 : ∀ a,endV x<=a->Za9 rl (x::y::es) a=Za9 rl (y::es) a:=λa ha=>by rw[Za9,if_pos ha]
   rw[hb2] at i1 i3 i4
   have hg:=ZrD (x:=x) (b:=ZbH prev f) hx
   generalize hB:ZbH prev f=b at *
   rw[hP]
   refine⟨?_,?_,?_,?_⟩
   .have:cutV (eraG x b (ZaL rl x)) (endV x)=(b,Zf4 rl x b)::cutV (eraG x b (ZaL rl x)).tail (endV x):=by
     unfold cutV eraG Zf4
     rw[List.takeWhile_cons,if_pos (by simpa using hb)]
     rfl
    rw[this,hT1 b hb]
    exact⟨_,rfl⟩
   .rw[List.pairwise_append]
    refine⟨hg.sublist (List.takeWhile_sublist _),i2,λc hc d hd=>?_⟩
    have h1:=((ZpD hg).1 hc).2
    have h2:=(i3 d hd).1
    omega
   .intro c hc
    rcases List.mem_append.1 hc with hc | hc
    .obtain⟨h1,h2⟩:=(ZpD hg).1 hc
     obtain⟨h3,h4⟩:=ZrF hx h1
     exact⟨h3,by rw[hT1 _ h2];exact h4⟩
    .obtain⟨h1,h2⟩:=i3 c hc
     exact⟨by omega,by rw[hT2 _ h1];exact h2⟩
   .intro u v h1 h2 h3
    by_cases hv:v<endV x
    .rw[hT1 u om,hT1 v hv]
     refine ZeV h2 λt ht hh=>?_
     refine h3 (t.1,locV x t.2.1 t.2.2) (List.mem_append_left _ ((ZpD hg).2 ⟨List.mem_cons_of_mem _ (List.mem_map.2 ⟨t,List.mem_filter.2 ⟨ht,?_⟩,rfl⟩),?_⟩)) hh
     .simp;omega
     .show t.1<endV x;omega
    .by_cases hu:endV x<=u
     .rw[hT2 u hu,hT2 v om]
      exact i4 u v hu h2 λc hc=>h3 c (List.mem_append_right _ hc)
     .obtain⟨l,hl⟩:=i1
      exact absurd ⟨by show u<endV x;omega,by show endV x<=v;omega⟩ (h3 (endV x,_) (List.mem_append_right _ (by rw[hl];exact List.mem_cons_self)))
def Zd5 (rl:List Rul) (es:List Era):List Int:=(es.flatMap λx=>(ZaL rl x).map (·.1))++ZaO es
def Zgi {rl:List Rul} : ∀ {es:List Era}{u v:Int},u<=v->(∀ p∈Zd5 rl es,¬(u<p/\p<=v))->Za9 rl es u=Za9 rl es v
 | [],u,v,_,_=>rfl
 | [x],u,v,h,hp=>ZeV h λt ht=>hp t.1 (by unfold Zd5;simp;exact .inl ⟨_,_,ht⟩)
 | x::y::es,u,v,h,hp=>by
  have hx:¬(u<endV x/\endV x<=v):=hp _ (by unfold Zd5;rw[Zfq];simp)
  have ht : ∀ t∈ZaL rl x,¬(u<t.1/\t.1<=v):=λt ht=>hp t.1 (by unfold Zd5;rw[List.flatMap_cons];simp only[List.append_assoc,List.mem_append,List.mem_map];exact .inl ⟨t,ht,rfl⟩)
  have ih:Za9 rl (y::es) u=Za9 rl (y::es) v:=Zgi h λp hp'=>hp p (by
   unfold Zd5 at hp' ⊢
   rw[Zfq,List.flatMap_cons]
   rcases List.mem_append.1 hp' with h1 | h1
   .exact List.mem_append_left _ (List.mem_append_right _ h1)
   .exact List.mem_append_right _ (List.mem_cons_of_mem _ h1))
  rw[Za9,Za9]
  split
  .rw[if_pos om];exact ih
  .rw[if_neg om];exact ZeV h ht
def ZdR (rl:List Rul) (es:List Era):Tab:=Zfc (Za9 rl es) ((Zd5 rl es).mergeSort λa b=>decide (a<=b))
def ZqH (hs:L.Pairwise (· <= ·)) (hc : ∀ u v,tMin<=u->u<=v->(∀ p∈L,¬(u<p/\p<=v))->Za9 rl es u=Za9 rl es v):Zfc (Za9 rl es) L=ZdR rl es:=by
 refine Zr6 hs (λu v h1 h2 _ h4=>hc u v h1 h2 h4) ?_ λu v h1 h2 _ h4=>Zgi h2 λp hp=>h4 p ?_
 .have h:=List.pairwise_mergeSort (le:=λa b:Int=>decide (a<=b)) (λa b c h1 h2=>by simp at *;omega) (λa b=>by simp;omega) (Zd5 rl es)
  exact h.imp λh=>by simpa using h
 .exact (List.mergeSort_perm _ _).mem_iff.2 hp
def Zvz {f:Int}(hc : ∀ c∈Za5 rl f none es,c.2=Za9 rl es c.1):Za5 rl f none es=pts (Za9 rl es) ((Za5 rl f none es).map (·.1)):=by
 unfold pts
 rw[List.map_map]
 exact (List.map_id' _).symm.trans (List.map_congr_left λc h=>by show c=(c.1,_);rw[<-hc c h])
end
section
open Go.Ab Civ
def stV:List Chg->Tab
 | []=>(locZ,[])
 | c::cs=>(c.2,dd c.2 cs)
def ZeQ (F:Loc) (l:List Chg):Loc:=l.getLast?.elim F (·.2)
def stV_snoc {l:List Chg}{c:Chg}(h:l≠[]):stV (l++[c])=((stV l).1,(stV l).2++if c.2=ZeQ (stV l).1 (stV l).2 then [] else [c]):=by
 cases l with
 | nil=>exact absurd rfl h
 | cons d l =>
  show ((d.2,dd d.2 (l++[c])):Tab)=(d.2,dd d.2 l++_)
  rw[ZrJ]
  rfl
def ZuG : ∀ l:List Chg,(stV l).2.length<=l.length
 | []=>Nat.le_refl _
 | c::l=>by have:=ZrI l c.2;show (dd c.2 l).length<=_;simp only[List.length_cons];omega
def inP (ps:List Chg):List Chg:=ps.takeWhile λc=>decide (c.1<=tMax)
def Zrs {ps:List Chg}{i:Nat}(h1 : ∀ c∈ps.take i,c.1<=tMax) (h2 : ∀ h:i<ps.length,¬ps[i].1<=tMax):inP ps=ps.take i:=by
 unfold inP
 induction ps generalizing i with
 | nil=>simp
 | cons c ps ih =>
  cases i with
  | zero=>rw[List.takeWhile_cons,if_neg (by have:=h2 (by simp);simpa using this)];rfl
  | succ i =>
   rw[List.takeWhile_cons,if_pos (by have:=h1 c (by simp);simpa using this),List.take_succ_cons]
   exact congrArg _ (ih (λd hd=>h1 d (by simp[hd])) λh=>by have:=h2 (by simpa using h);simpa using this)
def inP_pts {g:Int->Loc}{L:List Int}(hs:L.Pairwise (· < ·)):inP (pts g L)=pts g (L.filter λx=>decide (x<=tMax)):=by
 unfold inP
 induction L with
 | nil=>rfl
 | cons a L ih =>
  rw[List.pairwise_cons] at hs
  show List.takeWhile _ ((a,g a)::pts g L)=_
  rw[List.takeWhile_cons]
  by_cases h:a<=tMax
  .rw[if_pos (by simpa using h),List.filter_cons,if_pos (by simpa using h),ih hs.2];rfl
  .rw[if_neg (by simpa using h),List.filter_cons,if_neg (by simpa using h)]
   have:L.filter (λx=>decide (x<=tMax))=[]:=List.filter_eq_nil_iff.2 λx hx=>by have:=hs.1 x hx;simp only[decide_eq_true_eq];omega
   rw[this];rfl
def stV_tab (hs:(tMin::L).Pairwise (· < ·)):stV (inP (pts g (tMin::L)))=Zfc g (tMin::L):=by
 rw[inP_pts hs]
 rw[List.pairwise_cons] at hs
 unfold Zfc
 rw[List.filter_cons,if_pos (by decide)]
 have e:(tMin::L).filter inT=L.filter λx=>decide (x<=tMax):=by
  rw[List.filter_cons,if_neg (by decide)]
  refine List.filter_congr λx hx=>?_
  have:=hs.1 x hx
  unfold inT
  rw[Bool.eq_iff_iff]
  simp only[decide_eq_true_eq]
  exact⟨λh=>h.2,λh=>⟨this,h⟩⟩
 rw[e]
 rfl
def tabR_st : ∀ {l:List Chg},locE locZ=0\/l≠[]->tabR (stV l)=if Zb3 l≠0 then ((((0,0,⟨#[]⟩):Loc),[]),Zb3 l) else if 1000<(stV l).2.length then (((0,0,⟨#[]⟩),[]),2) else (stV l,0)
 | [],h=>by
  have h:=h.resolve_right (λh=>h rfl)
  unfold tabR stV
  simp[Zb3,h]
 | c::l,_=>by
  unfold tabR
  show (if locE c.2≠0 then _ else if Zb3 (dd c.2 l)≠0 then _ else _)=_
  rw[Zb3]
  by_cases h:locE c.2=0
  .have e:(if locE c.2≠0 then locE c.2 else Zb3 l)=Zb3 l:=if_neg (by simp[h])
   rw[e,if_neg (show ¬locE c.2≠0 from λhh=>hh h),ZiT h,show Zb3 (stV (c::l)).2=Zb3 l from ZiT h]
  .have e:(if locE c.2≠0 then locE c.2 else Zb3 l)=locE c.2:=if_pos h
   rw[e,if_pos h,if_pos h];rfl
def ZgO : ∀ {l:List Chg}{c:Chg},Zb3 l=0->Zb3 (l++[c])=locE c.2
 | [],c,_=>by show (if locE c.2≠0 then locE c.2 else 0)=_;split <;> simp_all
 | d::l,c,h=>by
  rw[Zb3] at h
  split at h
  .rename_i h2;exact absurd h h2
  .rename_i h2
   rw[List.cons_append,Zb3,if_neg h2]
   exact ZgO h
def Zjo : ∀ {l m:List Chg},Zb3 l≠0->Zb3 (l++m)=Zb3 l
 | [],_,h=>absurd rfl h
 | d::l,m,h=>by
  rw[List.cons_append,Zb3,Zb3]
  rw[Zb3] at h
  split
  .rfl
  .rename_i h2;rw[if_neg h2] at h;exact Zjo h
end
section
def ZwO : ∀ {a:Int}{l:Loc}{cs:List Chg},chk a l cs=0 -> ∀ c∈cs,Zgh c.1=true/\locE c.2=0
 | a,l,[],_,c,hc=>by simp at hc
 | a,l,d::cs,h,c,hc=>by
  rw[chk] at h
  split at h
  .cases h
  .split at h
   .cases h
   .split at h
    .rename_i h1 _ h3;exact absurd h h3
    .split at h
     .cases h
     .rename_i h1 _ h3 _
      rcases List.mem_cons.1 hc with rfl | hc
      .exact⟨by simpa using h1,Decidable.of_not_not h3⟩
      .exact ZwO h c hc
def ZsH {t:Tab}(h:Za3 t=0):t.2.length<=1000/\locE t.1=0 /\ ∀ c∈t.2,Zgh c.1=true/\locE c.2=0:=by
 unfold Za3 at h
 split at h
 .cases h
 .split at h
  .rename_i h1 h2;exact absurd h h2
  .rename_i h1 h2;exact⟨by omega,Decidable.of_not_not h2,ZwO h⟩
end
section
open Go.Ab Civ
attribute [local simp] Zbl
section
def ZkJ {τ:Operand->AV}:Zal τ [] []=some []:=rfl
end
def k69:=Kx 69 []
def k156:=Kx 156 [.e [] 13 [false,false,false]]
def k108:=Kx 108 []
def ZwL {l:List Chg}{full:Bool}(hl:l.length<=3000000000000):ACalls Tryz.prog 69 [.sl l.length 4 full (rows chgC l)] h λr h' => ∃ v,r=.ret (.own h.length v l.length)/\h'=h++[.mk v 104 4 (rows chgC l)]:=by
 refine tN' k69 λN hn _ _ hbd=>?_
 simp only[tb'] at hbd ⊢
 refine wk'<|Zab<|wm<|?_
 refine ZuX lk (λ_=>pt) (λbn3 hbn3=>?_)
 refine sn' ?_
 refine cd' lk (λhc1=>?_) (λhc1=>?_)
 .refine wr'<|mv' lkn pt2<|Zam<|ZaN (ALe.own0 (d:=2) (st':=4) (ty:=104) rfl)<|Zbh<|Zah<|Zae (rs1 (rr_t gt2))<|?_
  have h0:l=[]:=List.eq_nil_of_length_eq_zero ((Nat.eq_zero_or_pos _).resolve_right (λe=>by have:=hbn3 e;rw[hc1] at this;cases this))
  subst h0
  exact⟨0,by simp,by simp[rows]⟩
 refine za<|wr'<|E' (ZcB ZkJ hl0 ha0) pt<|mw<|?_
 refine E' (Zby (Zgj lk (Za1 _)) lk gx rfl om (Zef _) hs0) pt ?_
 refine mr<|Zae rz<|?_
 exact⟨0+1,by simp[hn],by simp⟩
def rvAt (l m:List Chg) (k:Nat):Prop:=m.length=l.length /\ ∀ t,t<l.length->m[t]?=if t<k\/l.length-k<=t then l[l.length-1-t]? else l[t]?
def Zsa (l:List Chg):rvAt l l 0:=⟨rfl,λt ht=>by rw[if_neg om]⟩
def Zu0 {l m:List Chg}(h:rvAt l m k) (hk:k<l.length-1-k) (h1:k<m.length) (h2:l.length-1-k<m.length):rvAt l ((m.set k m[l.length-1-k]).set (l.length-1-k) m[k]) (k+1):=by
 obtain⟨hl,hm⟩:=h
 refine⟨by simp[hl],λt ht=>?_⟩
 have a:=hm k om
 have b:=hm (l.length-1-k) om
 have c:=hm t ht
 rw[List.getElem?_eq_getElem h1,if_neg om] at a
 rw[List.getElem?_eq_getElem h2,if_neg om] at b
 rw[List.getElem?_set,List.length_set]
 by_cases e1:l.length-1-k=t
 .rw[if_pos e1,if_pos h2,a,if_pos om]
  congr 1;omega
 rw[if_neg e1,List.getElem?_set]
 by_cases e2:k=t
 .rw[if_pos e2,if_pos h1,b,if_pos om]
  congr 1;omega
 rw[if_neg e2,c]
 by_cases e3:t<k\/l.length-k<=t
 .rw[if_pos e3,if_pos om]
 rw[if_neg e3,if_neg om]
def rvAt_end {l m:List Chg}(h:rvAt l m k) (hk:¬k<l.length-1-k):m=l.reverse:=by
 obtain⟨hl,hm⟩:=h
 apply List.ext_getElem?
 intro t
 by_cases ht:t<l.length
 .rw[hm t ht,List.getElem?_reverse ht]
  by_cases e:t<k\/l.length-k<=t
  .rw[if_pos e]
  rw[if_neg e];congr 1;omega
 rw[List.getElem?_eq_none om,List.getElem?_eq_none (by simp;omega)]
def Zu8 {l:List Chg}{id v:Nat}(he:h[id]?=some (.mk v 104 4 (rows chgC l))):ACalls Tryz.prog 156 [.own id v l.length] h λr h'=>r=.ret (.tup [])/\h'=h.set id (.mk v 104 4 (rows chgC l.reverse)):=by
 have hid:id<h.length:=(List.getElem?_eq_some_iff.1 he).1
 refine tJ' k156 λN hn hlt _ hbd=>?_
 simp only[tb'] at hbd ⊢
 refine Zgu (h1:=h.set id (.mk v 104 4 (rows chgC l))++[]) (by rw[ZhB he]) ?_
 refine wm<|Vw (Zcy lk)<|?_
 refine V' (Za2 lk lki (by (try simp only[List.length_set]);omega) (by (try simp only[List.length_set]);omega)) pt ?_
 refine mw<|ms<|Zag<|?_
 refine Zhg (ι:=List Chg×Nat) (λ⟨m,k⟩=>[(2,iv (k:Int)),(3,iv ((l.length:Int)-1-k))]++rn' 7 21) (λ⟨m,k⟩=>h.set id (.mk v 104 4 (rows chgC m))++[]) (λ⟨m,k⟩=>rvAt l m k/\k<=l.length) (λ⟨m,k⟩=>l.length-k) (⟨l,0⟩) (by exact⟨Zsa l,by omega⟩) (by try simp only[sm',Nat.reduceAdd];exact ALe.same wA' rfl) ?_
 rintro⟨m,k⟩ hi1
 try simp only[sm',Nat.reduceAdd]
 obtain⟨hk1,hk2⟩:=hi1
 have hml:m.length=l.length:=hk1.1
 refine Zab<|wm<|mw<|Vw (ZaJ lk lk)<|sn'<|?_
 refine cd' lk (λhc1=>?_) (λhc1=>?_)
 .have hkk:k<l.length-1-k:=by omega
  refine za<|Zab<|Zag<|ZaD<|Dw vm<|Dw vm<|Dw vm<|Dw vm<|Dw vm<|Dw vm<|?_
  refine D' (ZaW (k:=l.length-1-k) lk lk (ZnJ hid) ZaT nb (by first | rfl | (try simp only[List.length_set]);omega) (by (try simp only[List.length_set]);omega) (by first | rfl | (simp;done) | (try simp only[List.length_set]);omega)) pt ?_
  refine D' (Zfh lk (ZnJ hid) ZaT (by (try simp only[List.length_set]);omega) rfl) pt ?_
  refine Dw vm<|Dw vm<|?_
  refine D' (ZaW lk lk (ZnJ hid) ZaT nb (by first | rfl | (try simp only[List.length_set]);omega) (by (try simp only[List.length_set]);omega) (by first | rfl | (simp;done) | (try simp only[List.length_set]);omega)) pt ?_
  refine D' (Zfh lk (ZnJ hid) ZaT (by (try simp only[List.length_set]);omega) rfl) pt ?_
  refine D' (ZaW lk lk (ZnJ hid) ZaT nb (by first | rfl | (try simp only[List.length_set]);omega) (by (try simp only[List.length_set]);omega) (by first | rfl | (simp;done) | (try simp only[List.length_set]);omega)) pt ?_
  refine ZaH ?_
  refine ZaU ?_
  refine E' (ZgV lk cv (ZnJ hid) ZaT rfl (by (try simp only[List.length_set]);omega) (hx_set hid)) ptn ?_
  refine V' (ZaW (k:=l.length-1-k) lk lk (ZnJ hid) ZaT nb (by first | rfl | (try simp only[List.length_set]);omega) (by (try simp only[List.length_set]);omega) (by first | rfl | (simp;done) | (try simp only[List.length_set]);omega)) pt ?_
  refine E' (ZgV lk cv (ZnJ hid) ZaT rfl (by (try simp only[List.length_set]);omega) (hx_set hid)) ptn ?_
  refine Zam<|Zau<|Zan<|Zao<|mw<|?_
  refine V' (Zb0 lk lki (by (try simp only[List.length_set]);omega) (by (try simp only[List.length_set]);omega)) pt ?_
  refine mv' lk pt ?_
  refine V' (Za2 lk lki (by (try simp only[List.length_set]);omega) (by (try simp only[List.length_set]);omega)) pt ?_
  refine mw<|mw<|Zam<|Zaw<|?_
  refine lT' (⟨_,k+1⟩) (by (try dsimp only);exact⟨Zu0 hk1 hkk om om,by omega⟩)
 refine Zax<|Zas<|Zas<|ZaK<|w_end (rs0)<|?_
 exact⟨h.set id (.mk v 104 4 (rows chgC m)),[],rfl,hx_len hn,Zpo hlt (by simp[Ent.lt,Zbl]),rfl,rfl,by rw[rvAt_end hk1 om]⟩
def back_a {l:List Chg}{full:Bool}(hl:l.length<=3000000000000):Ac 108 [.sl l.length 4 full (rows chgC l)] h (chS l.reverse):=by
 refine tI' k108 λN hn _ _ hbd=>?_
 simp only[tb'] at hbd ⊢
 refine wk'<|wm<|?_
 refine ZoU mp (ZwL (by first | assumption | omega)) hl0 (λ_=>ha0) (λ_=>pt) (λva3=>?_)
 refine ms<|wm<|Zi9 mp (Zu8 gx) hs0 pt<|sn'<|wm<|mw<|Zam<|?_
 refine ZaN (ALe.iceR (hga hn rfl) gt2 (List.take_of_length_le (by rw[Za1];simp)) (by rw[Za1];simp) pt2 hs0) ?_
 refine Zbh<|Zae rz<|rT'<|?_
 simp[chS]
end
section
open Go.Ab Civ
attribute [local simp] Zbl
section
def Zqr :((a0::a1::a2::l).drop 0).take 3=[a0,a1,a2]:=rfl
def ZiK {τ:Operand->AV}{y0 y1:Operand}{x0_0 x0_1 x0_2 x1_0:AV}(h0:Zaq (τ y0)=some [x0_0,x0_1,x0_2]) (l0:[x0_0,x0_1,x0_2].all leaf=true) (h1:Zaq (τ y1)=some [x1_0]) (l1:[x1_0].all leaf=true):Zal τ [(0,3,y0),(3,1,y1)] [(iv 0),(iv 0),(.v (.string ⟨#[]⟩)),(iv 0),(iv 0),(.sl 0 0 true [])]=some [x0_0,x0_1,x0_2,x1_0,(iv 0),(.sl 0 0 true [])]:=by
 simp only[Zal,h0,l0,h1,l1]
 rfl
def Zua { e:Ent}:([]:AH)++[e]=[e]:=rfl
def Zqu {e1 e2 d0:Ent}:([e0,e1,e2]:AH)++[d0]=[e0,e1,e2,d0]:=rfl
def Zko :setCells (a0::a1::a2::a3::a4::a5::l) 0 [c0,c1,c2,c3,c4,c5]=c0::c1::c2::c3::c4::c5::l:=rfl
def Zqt :setCells (a0::a1::a2::a3::a4::l) 4 [c0]=a0::a1::a2::a3::c0::l:=rfl
def Zqs :setCells (a0::a1::a2::a3::a4::a5::l) 5 [c0]=a0::a1::a2::a3::a4::c0::l:=rfl
def Zkn :((a0::a1::a2::a3::a4::a5::l).drop 0).take 6=[a0,a1,a2,a3,a4,a5]:=rfl
end
def k56:=Kx 56 [.e [] 9 [false],.e [] 14 [false]]
abbrev Pat:=Loc×Int×Int×List Chg
abbrev patA (p:Pat):AV:=.agg [iv p.1.1,iv p.1.2.1,sv p.1.2.2,iv p.2.1,iv p.2.2.1,chS p.2.2.2]
def hdOf (t u:Tab):Nat:=com t.2 u.2
def tlOf (t u:Tab):Nat:=com (t.2.drop (hdOf t u)).reverse (u.2.drop (hdOf t u)).reverse
def Zb8 (t u:Tab):Pat:=(u.1,hdOf t u,tlOf t u,(u.2.take (u.2.length-tlOf t u)).drop (hdOf t u))
def noPat:Pat:=((0,0,⟨#[]⟩),0,0,[])
def Zdr:Tab:=((0,0,⟨#[]⟩),[])
def hd_le (t u:Tab):hdOf t u<=t.2.length/\hdOf t u<=u.2.length:=ZwC _ _
def tl_le (t u:Tab):tlOf t u<=t.2.length-hdOf t u/\tlOf t u<=u.2.length-hdOf t u:=by
 have:=ZwC (t.2.drop (hdOf t u)).reverse (u.2.drop (hdOf t u)).reverse
 simpa [tlOf] using this
def ZsB (t u:Tab):Int:=if Za3 t≠0 then Za3 t else Za3 u
def ZnV (t u:Tab):Pat:=if ZsB t u=0 then Zb8 t u else noPat
def okT (t:Tab):Prop:=t.1.2.2.size<=maxLen /\ ∀ x∈t.2,x.2.2.2.size<=maxLen
def Zcc {t:Tab}(h:Za3 t=0):t.2.length<=1000:=by
 unfold Za3 at h
 split at h
 .omega
 omega
def Zw3 {t:Tab}(h1:t.2.length<=3000000000000) (h2:u.2.length<=3000000000000) :
  Ac 56 [.agg [iv t.1.1,iv t.1.2.1,sv t.1.2.2,.sl t.2.length 4 f1 (rows chgC t.2)],.agg [iv u.1.1,iv u.1.2.1,sv u.1.2.2,.sl u.2.length 4 f2 (rows chgC u.2)]] h (patA (Zb8 t u)):=by
 have hh:=hd_le t u
 have ht:=tl_le t u
 refine tI' k56 λN hn _ _ hbd=>?_
 simp only[tb'] at hbd ⊢
 refine wr'<|E' (ZaM cv rfl hl0 ha0) pt<|E' (ZaM cv rfl hl1 ha1) pt<|E' (ZaR hl2 ha2) pt<|sn'<|Zab<|ZaD<|dg<|Dw (Zad lk gx Zqr rfl)<|dg<|Dw (Zaa lk gx gt3)<|dg<|?_
 refine D' (Zaa lk gx gt3) pt ?_
 refine ZaB mp (λhE hX=>(ZnZ (f1:=f1) (f2:=f2) rfl:ACalls Tryz.prog 107 _ _ λx h'=>_=_/\x=.ret (iv (hdOf t u)))) pt ?_
 refine Dw (Zat (ZiK cv rfl cv rfl))<|ZcI rfl rfl (hlk hn rfl) (Zix) pt Zua<|ZaH<|?_
 refine ZcH Zqu ?_
 refine E' (Zai lk cv gx rfl nb rfl Zko hs3) ptn<|sn'<|Zab<|ZaD<|dg<|Dw (Zaa lk gx gt3)<|dg<|Dw (Zaa lk gx gt3)<|?_
 refine D' (v_lo (k:=hdOf t u) lk lk ZaT ro om ro) pt ?_
 refine ZaB mp (λhE hX=>back_a (by rw[List.length_drop];omega)) pt ?_
 refine dg<|Dw (Zaa lk gx gt3)<|dg<|Dw (Zaa lk gx gt3)<|?_
 refine D' (v_lo (k:=hdOf t u) lk lk ZaT ro om ro) pt ?_
 refine ZaB mp (λhE hX=>back_a (by rw[List.length_drop];omega)) pt ?_
 refine ZaB mp (λhE hX=>(ZnZ (f1:=false) (f2:=false) rfl:ACalls Tryz.prog 107 _ _ λx h'=>_=_/\x=.ret (iv (tlOf t u)))) pt ?_
 refine dg<|ZaH<|?_
 refine ZaU ?_
 refine E' (Zai lk cv gx rfl nb rfl Zqt hs3) ptn<|sn'<|wr'<|fq<|Vw (Zaa lk gx gt3)<|fq<|Vw (Zaa lk gx gt3)<|fq<|Vw (Zaa lk gx gt3)<|Vw (Zaz lk)<|fq<|Vw (Zaa lk gx gt4)<|?_
 refine V' (Za2 lk lk om om) pt ?_
 have hq:tlOf t u<=u.2.length:=by omega
 refine V' (v_lh (k:=hdOf t u) (m:=u.2.length-tlOf t u) lk lk lk ZaT ro ro om om ro) pt ?_
 refine ZoU mp (ZwL (by simp;omega)) hl4 (λ_=>ha4) (λ_=>pt) (λva40=>?_)
 refine fq<|E' (Zai lk cv gx rfl nb rfl Zqs hs3) ptn<|Zam<|?_
 refine ZaN (ALe.iceCellR (hga hn rfl) (hga hn rfl) om gt5 (List.take_of_length_le (by rw[Zbp ZaT];first | exact Nat.le_refl _ | omega)) (by rw[Zbp ZaT];first | exact Nat.le_refl _ | omega) pt5 hs4 hs3) ?_
 exact wr'<|Vw (Zad lk gx Zkn rfl)<|E' (Zai lk cv gx rfl nb rfl Zko hs2) ptn<|sr<|Zae (rs1 (rr_c gt gx (ld1 Zkn rfl)))<|rT' rfl
end
section
open Go.Ab Civ
attribute [local simp] Zbl
def k157:=Kx 157 []
def k109:=Kx 109 []
def grow_a {m:Nat}(hm:m<=3000000000000):ACalls Tryz.prog 157 [.sl 0 0 true [],iv (m:Int)] h λr h' => ∃ v,r=.ret (.own h.length v 0)/\h'=h++[.mk v 104 4 []]:=by
 refine ACalls.wk (wkw (Wk.nil (st':=4)) (wk1 rfl wk0)) ?_
 refine tN' k157 λN hn _ _ hbd=>?_
 simp only[tb'] at hbd ⊢
 refine wk'<|Zab<|wm<|Vw (ZaJ lk lki)<|sn'<|?_
 refine Zcr lk (by exact decide_eq_false om) ?_
 refine za<|Zab<|wm<|mw<|Vw (v_cap lk)<|mw<|Vw (Zaz lk)<|?_
 refine V' (Za2 lk lk om om) pt ?_
 refine V' (Za2 lk lk om om) pt ?_
 refine ms<|wm<|Vw (Zbr lk lki)<|sn'<|?_
 refine cd' lk (λhc2=>?_) (λhc2=>?_)
 .refine Zao<|mw<|mw<|Vw (v_cap lk)<|?_
  refine V' (v_slc lk on_ (oi lk) om om om) pt ?_
  refine mv' lk pt ?_
  refine E' (e_appz lk lk om nb nb om hl0 ha0) pt ?_
  refine mw<|Vw (Zaz lk)<|?_
  refine V' (v_hiO (m:=0) lk lk ro om) pt ?_
  refine ms<|wm<|mr<|Zae rz<|?_
  exact⟨_,by simp[hn];rfl,by simp⟩
 refine za<|wr'<|mv' lk0 pt26<|mv' lk26 pt4<|Zam<|ZaN (ALe.own0 (d:=4) (st':=4) (ty:=104) rfl)<|Zbh<|Zae (rs1 (rr_t gt4))<|?_
 exact⟨_,by simp[hn];rfl,by simp⟩
abbrev chSC (l:List Chg):List AV:=[chS l]
def ZrO : ∀ x,(chSC x).length=1:=λ_=>rfl
def concat_a {ls:List (List Chg)}{full:Bool}(hm:ls.flatten.length<=3000000000000):Ac 109 [.sl ls.length 1 full (rows chSC ls)] h (chS ls.flatten):=by
 have hpre : ∀ k,(ls.take k).flatten.length<=ls.flatten.length:=λk=>by
  conv=>rhs;rw[<-List.take_append_drop k ls]
  rw[List.flatten_append,List.length_append];omega
 have hst : ∀ k (hk:k<ls.length),(ls.take (k+1)).flatten=(ls.take k).flatten++ls[k]:=λk hk=>by rw[List.take_succ_eq_append_getElem hk,List.flatten_append,List.flatten_cons,List.flatten_nil,List.append_nil]
 have hls : ∀ k (hk:k<ls.length),(ls.take k).flatten.length+ls[k].length<=ls.flatten.length:=λk hk=>by
  have:=hpre (k+1);rw[hst k hk,List.length_append] at this;exact this
 refine tI' k109 λN hn _ _ hbd=>?_
 simp only[tb'] at hbd ⊢
 refine wk'<|wk'<|Zab<|wm<|?_
 refine Vw (Zaz lk)<|ms<|Zag<|?_
 refine w_lp (ι:=Nat) (λ(k:Nat)=>[(3,iv ((ls.take k).flatten.length:Int)),(11,iv (k:Int)),(5,.any)]++rn' 12 11) (λ(k:Nat)=>[]) (λ(k:Nat)=>k<=ls.length) (λ(k:Nat)=>ls.length-k) (0) om ?_
 rintro k hi1
 try simp only[sm',Nat.reduceAdd]
 refine wr'<|Vw (ZaJ lk lk)<|sn'<|Zab<|?_
 refine cd' lk (λhc1=>?_) (λhc1=>?_)
 .have hk:k<ls.length:=by omega
  have hkl:=hls k hk
  refine za<|Zab<|Zag<|wr'<|?_
  refine V' (ZaE lk lk ZrO nb ro om ro rfl) pt ?_
  refine Vw (Zav lk gt)<|ms<|wm<|mw<|?_
  refine V' ((by first | exact Zaz lk | exact Zcy lk)) pt ?_
  refine V' (Zb0 lk lk om om) pt ?_
  refine ms<|wm<|Vw (ZaJ lk lki)<|sn'<|?_
  refine Zcr lk (by exact decide_eq_false om) ?_
  refine Zay<|Zau<|Zan<|Zao<|?_
  refine ad<|mw<|Zam<|Zaw<|?_
  refine lU' (k+1) (by (try dsimp only);omega) (by refine zz ?_;exact ALe.same (by repeat (first | exact wk0 | refine wka ?_ | refine wk1 rfl ?_ | refine wk1 (by first | rfl | exact ivx om | exact ivx (by rw[hst k hk,List.length_append];omega) | (simp;done)) ?_)) rfl)
 refine Zax<|Zas<|Zas<|ZaK<|Zan<|wm<|?_
 refine ZoU mp (grow_a (Nat.le_trans (hpre _) hm)) hl0 (λ_=>ha0) (λ_=>pt) (λva22=>?_)
 refine ms<|Zab<|wm<|Vw (Zaz lk)<|ms<|Zag<|?_
 refine w_lp (ι:=Nat×Nat) (λ⟨k,v⟩=>[(6,.own (N+0) v (ls.take k).flatten.length),(27,iv (k:Int)),(8,.any)]++rn' 28 7) (λ⟨k,v⟩=>[(0,.mk v 104 4 (rows chgC (ls.take k).flatten))]) (λ⟨k,v⟩=>k<=ls.length) (λ⟨k,v⟩=>ls.length-k) (⟨0,va22⟩) (by exact Nat.zero_le _) ?_
 rintro⟨k,v⟩ hi2
 try simp only[sm',Nat.reduceAdd]
 refine wr'<|Vw (ZaJ lk lk)<|sn'<|Zab<|?_
 refine cd' lk (λhc3=>?_) (λhc3=>?_)
 .have hk:k<ls.length:=by omega
  have hkl:=hls k hk
  refine za<|Zab<|Zag<|wr'<|?_
  refine V' (ZaE lk lk ZrO nb ro om ro rfl) pt ?_
  refine Vw (Zav lk gt)<|ms<|Zao<|mw<|mw<|?_
  refine E' (Zby (Zgj lk (Za1 _)) lk gx (Za1 _) om (Zef _) hs0) pt ?_
  refine mw<|Zam<|Zau<|Zan<|Zao<|?_
  refine ad<|mw<|Zam<|Zaw<|?_
  refine lU' (⟨k+1,v+1⟩) (by (try dsimp only);exact hk) (by refine zz ?_;exact ALe.same (by repeat (first | exact wk0 | refine wka ?_ | refine wk1 rfl ?_ | refine wk1 (by first | rfl | exact ivx om | (rw[hst k hk,List.length_append];done) | (simp;done)) ?_)) (by rw[hst k hk,ZaG]))
 refine Zax<|Zas<|Zas<|ZaK<|Zan<|wm<|mw<|Zam<|?_
 refine ZaN (ALe.iceR (hga hn rfl) gt2 (List.take_of_length_le (by rw[Za1];exact Nat.le_refl _)) (by rw[Za1];exact Nat.le_refl _) pt2 hs0) ?_
 refine Zbh<|Zae rz<|rT'<|?_
 rw[List.take_of_length_le (show ls.length<=k by omega)]
end
section
open Go.Ab Civ
attribute [local simp] Zbl
section
def ZcF {τ:Operand->AV}:Zal τ [] [(iv 0),(iv 0),(.v (.string ⟨#[]⟩)),(.sl 0 0 true [])]=some [(iv 0),(iv 0),(.v (.string ⟨#[]⟩)),(.sl 0 0 true [])]:=rfl
def Zcq :setCells (a0::a1::a2::a3::l) 0 [c0,c1,c2,c3]=c0::c1::c2::c3::l:=rfl
def Zb5 :((a0::a1::a2::a3::l).drop 0).take 4=[a0,a1,a2,a3]:=rfl
def ZiJ {τ:Operand->AV}:Zal τ [] [(iv 0),(iv 0),(.v (.string ⟨#[]⟩)),(.sl 0 0 true [])]=some [(iv 0),(iv 0),(.v (.string ⟨#[]⟩)),(.sl 0 0 true [])]:=rfl
def Zqp :((a0::a1::a2::l).drop 0).take 3=[a0,a1,a2]:=rfl
def ZiI {τ:Operand->AV}{y0 y1 y2:Operand}{x0_0 x1_0 x2_0:AV}(h0:Zaq (τ y0)=some [x0_0]) (l0:[x0_0].all leaf=true) (h1:Zaq (τ y1)=some [x1_0]) (l1:[x1_0].all leaf=true) (h2:Zaq (τ y2)=some [x2_0]) (l2:[x2_0].all leaf=true):Zal τ [(0,1,y0),(1,1,y1),(2,1,y2)] [(.sl 0 0 true []),(.sl 0 0 true []),(.sl 0 0 true [])]=some [x0_0,x1_0,x2_0]:=by
 simp only[Zal,h0,l0,h1,l1,h2,l2]
 rfl
def Zt9 { e:Ent}:([]:AH)++[e]=[e]:=rfl
def ZiH {τ:Operand->AV}{y0 y1:Operand}{x0_0 x0_1 x0_2 x1_0:AV}(h0:Zaq (τ y0)=some [x0_0,x0_1,x0_2]) (l0:[x0_0,x0_1,x0_2].all leaf=true) (h1:Zaq (τ y1)=some [x1_0]) (l1:[x1_0].all leaf=true):Zal τ [(0,3,y0),(3,1,y1)] [(iv 0),(iv 0),(.v (.string ⟨#[]⟩)),(.sl 0 0 true [])]=some [x0_0,x0_1,x0_2,x1_0]:=by
 simp only[Zal,h0,l0,h1,l1]
 rfl
def Zt8 {e:Ent}:([e0]:AH)++[e]=[e0,e]:=rfl
def Zqq {e1 e2 d0 d1:Ent}:([e0,e1,e2]:AH)++[d0,d1]=[e0,e1,e2,d0,d1]:=rfl
def ZiG {τ:Operand->AV}:Zal τ [] [(iv 0),(iv 0),(.v (.string ⟨#[]⟩)),(.sl 0 0 true [])]=some [(iv 0),(iv 0),(.v (.string ⟨#[]⟩)),(.sl 0 0 true [])]:=rfl
end
def k57:=Kx 57 [.e [] 20 [false]]
def offP (t:Tab) (p:Pat):Prop:=p.2.1<0\/p.2.2.1<0\/(t.2.length:Int)<p.2.1\/(t.2.length:Int)-p.2.1<p.2.2.1
instance (t:Tab) (p:Pat):Decidable (offP t p):=by unfold offP;infer_instance
abbrev outL (t:Tab) (p:Pat):List (List Chg):=[t.2.take p.2.1.toNat,p.2.2.2,t.2.drop ((t.2.length:Int)-p.2.2.1).toNat]
def outT (t:Tab) (p:Pat):Tab:=(p.1,(outL t p).flatten)
def patE (t:Tab) (p:Pat):Int:=if offP t p then 3 else if 1000<p.2.2.2.length then 2 else Za3 (outT t p)
def patV (t:Tab) (p:Pat):Tab:=if patE t p=0 then outT t p else Zdr
def okP (p:Pat):Prop:=p.1.2.2.size<=maxLen /\ ∀ x∈p.2.2.2,x.2.2.2.size<=maxLen
def Zo5 {t:Tab}{p:Pat}(ht:okT t) (hp:okP p):okT (outT t p):=by
 refine⟨hp.1,λx hx=>?_⟩
 simp only[outT,List.flatten_cons,List.flatten_nil,List.append_nil,List.mem_append] at hx
 rcases hx with h | h | h
 .exact ht.2 x (List.mem_of_mem_take h)
 .exact hp.2 x h
 exact ht.2 x (List.mem_of_mem_drop h)
def ZvE {t:Tab}{p:Pat}:(outL t p).flatten.length<=t.2.length+p.2.2.2.length+t.2.length:=by
 simp only[List.flatten_cons,List.flatten_nil,List.append_nil,List.length_append,List.length_take,List.length_drop]
 omega
def Zvy {t:Tab}{p:Pat}(h1:t.2.length<=1000) (ht:okT t) (hp:okP p) :
  Ac 57 [.agg [iv t.1.1,iv t.1.2.1,sv t.1.2.2,.sl t.2.length 4 f1 (rows chgC t.2)],.agg [iv p.1.1,iv p.1.2.1,sv p.1.2.2,iv p.2.1,iv p.2.2.1,.sl p.2.2.2.length 4 f2 (rows chgC p.2.2.2)]] h (.tup [tabA (patV t p),iv (patE t p)]):=by
 refine ACalls.wk (wkw (Wk.agg (wk1 rfl (wk1 rfl (wk1 rfl (wkw Wk.full wk0))))) (wkw (Wk.agg (wk1 rfl (wk1 rfl (wk1 rfl (wk1 rfl (wk1 rfl (wkw Wk.full wk0))))))) wk0)) ?_
 have hz:Wk (.agg [.v (.int .i64 0),.v (.int .i64 0),.v (.string ⟨#[]⟩),.sl 0 0 true []]) (tabA Zdr):=Wk.agg (wk1 rfl (wk1 rfl (wk1 rfl (wkw Wk.nilF wk0))))
 have ho:=Zo5 ht hp
 have hl:=ZvE (t:=t) (p:=p)
 refine tW' k57 λN hn _ _ hbd=>?_
 simp only[tb'] at hbd ⊢
 refine wr'<|E' (ZaM cv rfl hl0 ha0) pt<|E' (ZaM cv rfl hl1 ha1) pt<|E' (ZaR hl2 ha2) pt<|ms<|wr'<|fq<|Vw (Zaa lk gx gt3)<|Vw (Zaz lk)<|mw<|?_
 refine sn'<|Zab<|Zag<|wr'<|fq<|Vw (Zaa lk gx gt3)<|Vw (ZaJ lk lki)<|mw<|?_
 refine sp' (t:=16) gt pt pt (λhg16=>?_) (λhg16=>?_)
 .refine so<|so<|so<|Vw (Zaj lk lkb)<|mw<|so<|so<|so<|so<|Vw (Zaj lk lkb)<|mw<|so<|so<|so<|?_
  refine so<|so<|so<|so<|Vw (Zaj lk lkb)<|ms<|Za6 lk<|wr'<|Vw (Zat ZcF)<|E' (Zai lk cv gx rfl nb rfl Zcq hs2) ptn<|mw<|?_
  refine sr<|Zap<|Zah<|Zae (rsn (rm1 (rr_c gt gx (ld1 Zb5 rfl)) (rm1 (rr_t gt) rm0)))<|rtW'<|?_
  have hE:patE t p=3:=if_pos (by unfold offP;omega)
  rw[patV,if_neg (by rw[hE];decide),hE]
  exact Wk.tup (wkw hz (wk1 rfl wk0))
 refine sd<|fq<|sd<|Vw (Zaa lk gx gt4)<|sd<|Vw (ZaJ lk lki)<|Vw (Zak lk lk)<|mw<|?_
 refine sp' (t:=21) gt pt pt (λhg21=>?_) (λhg21=>?_)
 .refine so<|so<|so<|so<|Vw (Zaj lk lkb)<|mw<|so<|so<|so<|so<|so<|so<|so<|Vw (Zaj lk lkb)<|?_
  refine ms<|Za6 lk<|wr'<|Vw (Zat ZcF)<|E' (Zai lk cv gx rfl nb rfl Zcq hs2) ptn<|mr<|Zap<|Zah<|?_
  refine Zae (rsn (rm1 (rr_c gt gx (ld1 Zb5 rfl)) (rm1 (rr_t gt) rm0)))<|rtW'<|?_
  have hE:patE t p=3:=if_pos (by unfold offP;omega)
  rw[patV,if_neg (by rw[hE];decide),hE]
  exact Wk.tup (wkw hz (wk1 rfl wk0))
 refine sd<|fq<|sd<|Vw (Zaa lk gx gt3)<|sd<|mw<|sd<|Vw (Zbr lk lk)<|Vw (Zak lk lk)<|mw<|?_
 refine sp' (t:=27) gt pt pt (λhg27=>?_) (λhg27=>?_)
 .refine so<|so<|so<|so<|so<|so<|so<|Vw (Zaj lk lkb)<|ms<|Za6 lk<|wr'<|?_
  refine Vw (Zat ZcF)<|E' (Zai lk cv gx rfl nb rfl Zcq hs2) ptn<|mr<|Zap<|Zah<|Zae (rsn (rm1 (rr_c gt gx (ld1 Zb5 rfl)) (rm1 (rr_t gt) rm0)))<|rtW'<|?_
  have hE:patE t p=3:=if_pos (by unfold offP;omega)
  rw[patV,if_neg (by rw[hE];decide),hE]
  exact Wk.tup (wkw hz (wk1 rfl wk0))
 refine sd<|fq<|sd<|Vw (Zaa lk gx gt4)<|sd<|mw<|sd<|fq<|sd<|Vw (Zaa lk gx gt3)<|sd<|?_
 refine V' (Za2 lk lk om om) pt ?_
 refine sd<|Vw (Zbr lk lk)<|Vw (Zak lk lk)<|ms<|?_
 refine cd' lk (λhc1=>?_) (λhc1=>?_)
 .refine wr'<|Vw (Zat ZcF)<|E' (Zai lk cv gx rfl nb rfl Zcq hs2) ptn<|mr<|Zap<|Zah<|Zae (rsn (rm1 (rr_c gt gx (ld1 Zb5 rfl)) (rm1 (rr_t gt) rm0)))<|rtW'<|?_
  have hE:patE t p=3:=if_pos (by unfold offP;omega)
  rw[patV,if_neg (by rw[hE];decide),hE]
  exact Wk.tup (wkw hz (wk1 rfl wk0))
 refine wr'<|fq<|Vw (Zaa lk gx gt5)<|Vw (Zaz lk)<|Vw (Zbr lk lki)<|ms<|?_
 refine cd' lk (λhc2=>?_) (λhc2=>?_)
 .refine wr'<|Vw (Zat ZiJ)<|E' (Zai lk cv gx rfl nb rfl Zcq hs2) ptn<|mr<|Zap<|Zah<|Zae (rsn (rm1 (rr_c gt gx (ld1 Zb5 rfl)) (rm1 (rr_t gt) rm0)))<|rtW'<|?_
  have hE:patE t p=2:=by rw[patE,if_neg (by unfold offP;omega),if_pos om]
  rw[patV,if_neg (by rw[hE];decide),hE]
  exact Wk.tup (wkw hz (wk1 rfl wk0))
 refine Zay<|Zau<|Zan<|Zab<|ZaD<|dg<|Dw (Zad lk gx Zqp rfl)<|dg<|Dw (Zaa lk gx gt3)<|dg<|Dw (Zaa lk gx gt3)<|?_
 refine D' (v_hi (k:=p.2.1.toNat) lk lk ZaT ro om ro) pt ?_
 refine dg<|Dw (Zaa lk gx gt5)<|dg<|Dw (Zaa lk gx gt3)<|Dw vm<|dg<|Dw (Zaa lk gx gt4)<|?_
 refine D' (Za2 lk lk om om) pt ?_
 refine D' (v_lo (k:=((t.2.length:Int)-p.2.2.1).toNat) lk lk ZaT ro om ro) pt ?_
 refine d_effI rfl rfl (hlk hn rfl) (l_litI (ZiI cv rfl cv rfl cv rfl) rfl) pt Zt9 ?_
 refine ZaB mp (λhE hX=>concat_a (ls:=outL t p) om) pt ?_
 refine Dw (Zat (ZiH cv rfl cv rfl))<|ZcI rfl rfl (hlk hn rfl) (Zix) pt Zt8<|ZaH<|?_
 refine ZcH Zqq ?_
 refine E' (Zai lk cv gx rfl nb rfl Zcq hs4) ptn<|sn'<|Zab<|wr'<|Vw (Zad lk gx Zb5 rfl)<|Zac mp (ZwX (l:=(outL t p).flatten) ho.1 ho.2) pt<|ms<|wm<|?_
 refine Vw (ZaY lk lki)<|sn'<|?_
 refine cd' lk (λhc3=>?_) (λhc3=>?_)
 .refine wr'<|Vw (Zat ZiG)<|mw<|E' (Zai lk cv gx rfl nb rfl Zcq hs2) ptn<|mr<|Zah<|Zae (rsn (rm1 (rr_c gt gx (ld1 Zb5 rfl)) (rm1 (rr_t gt) rm0)))<|rtW'<|?_
  have hE:patE t p=Za3 (outT t p):=by rw[patE,if_neg (by unfold offP;omega),if_neg om]
  rw[patV,if_neg (by rw[hE];exact hc3),hE]
  exact Wk.tup (wkw hz (wk1 rfl wk0))
 refine za<|wr'<|Vw (Zad lk gx Zb5 rfl)<|E' (Zai lk cv gx rfl nb rfl Zcq hs2) ptn<|mr<|Zae (rsn (rm1 (rr_c gt gx (ld1 Zb5 rfl)) (rm1 (rr_t gt) rm0)))<|rtW'<|?_
 have hE:patE t p=0:=by rw[patE,if_neg (by unfold offP;omega),if_neg om];exact Decidable.of_not_not hc3
 rw[patV,if_pos hE,hE]
 exact Wk.refl _
def appE (t:Tab) (p:Pat):Int:=if Za3 t≠0 then Za3 t else patE t p
def appV (t:Tab) (p:Pat):Tab:=if Za3 t≠0 then Zdr else patV t p
end
section
open Go.ChangeShapes Go.WideShapes Go.ChangeAt Go.RowKit
def own:ownKnob Tryz.prog.godebug=none:=by kernel_rfl
def laidOut:laidOutB Tryz.prog=true:=by kernel_rfl
def ZgC {H:Type}{enc:TypeId×Value->H}{P:Program}(hl:laidOutB P=true) {W W':World}(hb:Below W.heap.size W W') :
  ∀ (ts:List TypeId) (vs:List Value) (ds:List (DataW H)) (ps:List MemPlace),(ts.all λt=>P.readableRec t&&decide (t<P.types.size))=true->(∀ x∈ps,x.block<W.heap.size) ->
   DataW.TrodAll enc P W 0 (λ_=>true) true ts vs ds ps->DataW.TrodAll enc P W' 0 (λb=>decide (b<W.heap.size)) true ts vs ds ps
 | [],[],[],ps,_,_,h=>h
 | t::ts,v::vs,d::ds,ps,hr,hlt,h=>by
  obtain⟨p,q,h1,h2,rfl⟩:=h
  simp only[List.all_cons,Bool.and_eq_true,decide_eq_true_eq] at hr
  exact⟨p,q,Below.trod hl hr.1.1 hr.1.2 h1 hb (λx hx=>hlt x (List.mem_append.2 (.inl hx))),
   ZgC hl hb ts vs ds q hr.2 (λx hx=>hlt x (List.mem_append.2 (.inr hx))) h2,rfl⟩
 | [],_::_,_,_,_,_,h=>by simp[DataW.TrodAll] at h
 | [],[],_::_,_,_,_,h=>by simp[DataW.TrodAll] at h
 | _::_,[],_,_,_,_,h=>by simp[DataW.TrodAll] at h
 | _::_,_::_,[],_,_,_,h=>by simp[DataW.TrodAll] at h
def law_post {H:Type}{enc:TypeId×Value->H}{P:Program}{f:Func}{s:ChangeSpec}{handsOn fresh:Bool}{W W':World}{args:Array Value}{ds gs:List (DataW H)}{before:List MemPlace}{tb:TypeId}
  (hl:laidOutB P=true) (hts:(f.params.toList.all λt=>P.readableRec t&&decide (t<P.types.size))=true)
  (hrt:f.resultTypes = #[tb]) (htb:P.underlying tb=some .bool) (hvars:s.vars=[])
  (hs:s.fn H ds={ results:=[.lit (.bool true)],args:=ds })
  (hW:DataW.Whole enc P f.params.toList s.vars false W args.toList ds gs before) (hb:Below W.heap.size W W') :
  s.post enc P f false fresh handsOn false W args (.bool true) W':=by
 have hW':=hW
 obtain⟨p,q,hA,hV,rfl,_,_⟩:=hW
 rw[hvars] at hV
 obtain⟨rfl,rfl⟩:=trodVars_none hV
 have hlt : ∀ x∈p,x.block<W.heap.size:=λx hx=>by simpa using hW'.lt x (List.mem_append.2 (.inl hx))
 have e1:s.fn H (ds++[])={ results:=[.lit (.bool true)],args:=ds }:=by simpa using hs
 refine⟨ds,[],p++[],[],p,[],hW',?_,?_,?_,hb.frame _,λh=>by cases h⟩
 .rw[e1,hrt];exact trodAll_mk1 (shut_bool htb _)
 .rw[e1];exact ZgC hl hb _ _ _ _ hts hlt hA
 .rw[e1,hvars];exact rfl
end
section
open Go.ChangeShapes Go.WideShapes Go.ChangeAt Go.RowKit Go.Deep Go.Ab
inductive Ds where
 | int | str | bool
 | pair (a b:Ds)
 | slice (a:Ds)
@[reducible] def El:Ds->Type
 | .int=>Int
 | .str=>ByteArray
 | .bool=>Bool
 | .pair a b=>El a×El b
 | .slice a=>List (El a)
def Ds.size:Ds->Nat
 | .pair a b=>a.size+b.size
 | _=>1
def Ds.size_pos (d:Ds):0<d.size:=by
 induction d with
 | pair a b iha ihb=>simp only[Ds.size];omega
 | _=>simp[Ds.size]
def Rd (w:World) (B:Nat):(d:Ds)->List Value->El d->Prop
  | .int,cs,n=>cs=[.int .i64 n] /\ -9223372036854775808<=n/\n<=9223372036854775807
  | .str,cs,s=>cs=[.string s]/\s.size<=maxLen
  | .bool,cs,b=>cs=[.bool b]
  | .pair a b,cs,p => ∃ c1 c2,cs=c1++c2/\Rd w B a c1 p.1/\Rd w B b c2 p.2
  | .slice a, cs, l => ∃ A c, cs = [.slice A l.length c] /\ l.length <= c /\ c <= maxLen /\ (A = none -> c = 0) /\
      (0<l.length -> ∃ b off,A=some ⟨b,off,none⟩/\b<B /\ ∀ k (h:k<l.length),∃ r,(∀ j v,r[j]?=some v->w.cell? ⟨b,off+k*a.size+j,none⟩=some v)/\Rd w B a r l[k])
def Rd.length {w:World}{B:Nat} : ∀ {d:Ds}{cs:List Value}{x:El d},Rd w B d cs x->cs.length=d.size
 | .int,cs,x,h=>by rw[h.1];rfl
 | .str,cs,x,h=>by rw[h.1];rfl
 | .bool,cs,x,h=>by rw[show cs=_ from h];rfl
 | .pair a b,cs,x,⟨c1,c2,e,h1,h2⟩=>by rw[e,List.length_append,Rd.length h1,Rd.length h2];rfl
 | .slice a,cs,x,⟨A,c,e,_⟩=>by rw[e];rfl
def Rd.keep {w w':World}{B B':Nat}(hk : ∀ p:Addr,p.block<B->w'.cell? p=w.cell? p) (hB:B<=B') : ∀ {d:Ds}{cs:List Value}{x:El d},Rd w B d cs x->Rd w' B' d cs x
  | .int,cs,x,h=>h
  | .str,cs,x,h=>h
  | .bool,cs,x,h=>h
  | .pair a b,cs,x,⟨c1,c2,e,h1,h2⟩=>⟨c1,c2,e,Rd.keep hk hB h1,Rd.keep hk hB h2⟩
  | .slice a, cs, x, ⟨A, c, e, hl, hm, hA0, h⟩ => ⟨A, c, e, hl, hm, hA0, λh0 => by
      obtain⟨b,off,hA,hb,hi⟩:=h h0
      refine⟨b,off,hA,by omega,λk hk'=>?_⟩
      obtain⟨r,hc,hr⟩:=hi k hk'
      exact⟨r,λj v hv=>(hk _ hb).trans (hc j v hv),Rd.keep hk hB hr⟩⟩
def Rd.below {w':World}{B:Nat}{d:Ds}{cs:List Value}{x:El d}(h:Rd w B d cs x) (hb:Below B w w'):Rd w' B d cs x:=h.keep (λp hp=>hb.cell hp) (Nat.le_refl _)
def Rd.more {B B':Nat}{d:Ds}{cs:List Value}{x:El d}(h:Rd w B d cs x) (hB:B<=B'):Rd w B' d cs x:=h.keep (λp hp=>rfl) hB
def Zpr (P:Program) (f:TypeId->Ds->Bool):List Field->Nat->Ds->Bool
 | [],_,_=>false
 | fd::fs,off,d=>match fs with
  | []=>fd.offset==off&&P.cellsOf fd.type==d.size&&f fd.type d
  | _::_=>match d with
   | .pair a b=>fd.offset==off&&P.cellsOf fd.type==a.size&&f fd.type a&&Zpr P f fs (off+a.size) b
   | _=>false
def fits (P:Program):Nat->TypeId->Ds->Bool
 | 0,_,_=>false
 | n+1,t,d =>
  match P.underlying t with
  | some (.int .i64)=>match d with
   | .int=>true
   | _=>false
  | some .string=>match d with
   | .str=>true
   | _=>false
  | some .bool=>match d with
   | .bool=>true
   | _=>false
  | some (.slice e)=>match d with
   | .slice a=>P.cellsOf e==a.size&&fits P n e a
   | _=>false
  | some (.struct fs)=>P.cellsOf t==d.size&&Zpr P (fits P n) fs.toList 0 d
  | _=>false
section
variable {H : Type} {enc : TypeId × Value -> H} {P : Program} {w : World} {base : Nat} {spare : Nat -> Bool} {held : Bool}
def Zm7 {a:Addr}(h:w.cell? a=some v):a.spot=none:=by
 unfold World.cell? at h
 split at h
 .split at h
  .cases h
  .rename_i hs;simpa using hs
 .cases h
def Zv3 {α β:Type}{Q:Nat->β->α->Prop} : ∀ (n:Nat),(∀ i,i<n -> ∃ r y,Q i r y) -> ∃ l:List α,l.length=n /\ ∀ i (h:i<l.length),∃ r,Q i r l[i]
 | 0,_=>⟨[],rfl,λi h=>absurd h (by simp)⟩
 | n+1,h=>by
  obtain⟨l,hl,hq⟩:=Zv3 n (λi hi=>h i om)
  obtain⟨r,y,hy⟩:=h n om
  refine⟨l++[y],by simp[hl],λi hi=>?_⟩
  by_cases hin:i<l.length
  .obtain⟨r',h'⟩:=hq i hin
   exact⟨r',by rw[List.getElem_append_left hin];exact h'⟩
  .obtain rfl:i=n:=by simp at hi;omega
   exact⟨r,by rw[List.getElem_append_right om];simpa [hl] using hy⟩
def ZfG : ∀ (n:Nat) (t:TypeId) (d:Ds) (fuel:Nat) (cs:List Value) (x:DataW H×List MemPlace),fits P n t d=true->DataW.trod enc P w base spare held fuel t cs=some x -> ∃ e:El d,Rd w w.heap.size d cs e
  | 0,t,d,fuel,cs,x,hf,h=>by simp[fits] at hf
  | n+1,t,d,fuel,cs,x,hf,h=>by
    unfold fits at hf
    split at hf
    . rename_i hu
      split at hf <;> try (cases hf;done)
      obtain⟨m,rfl,_,hw⟩:=DataW.trod_int hu h
      exact⟨m,rfl,by simpa [Lit.wf,IntKind.min,IntKind.max,IntKind.signed,IntKind.bits] using hw⟩
    . rename_i hu
      split at hf <;> try (cases hf;done)
      obtain⟨s,rfl,_,hw⟩:=DataW.trod_string hu h
      exact⟨s,rfl,hw⟩
    . rename_i hu
      split at hf <;> try (cases hf;done)
      obtain⟨b,rfl,_⟩:=DataW.trod_bool hu h
      exact⟨b,rfl⟩
    . rename_i e hu
      split at hf <;> try (cases hf;done)
      rename_i a
      simp only[Bool.and_eq_true,beq_iff_eq] at hf
      rcases open_slice hu h with ⟨rfl,_⟩ | ⟨ad,len,cap,m,k,D,Pl,rfl,hb,hl,hm,hmm,_,hi⟩
      . exact⟨([]:List (El a)),none,0,rfl,Nat.le_refl _,by unfold maxLen;omega,λ_=>rfl,λh0=>absurd h0 (by simp)⟩
      . have hlm:len<=m:=by rw[hmm];split <;> omega
        have hex : ∀ i,i<len -> ∃ (r:List Value) (y:El a),(∀ j v,r[j]?=some v->w.cell? ((ad.add (i*a.size)).add j)=some v)/\r.length=a.size/\Rd w w.heap.size a r y:=by
          intro i hil
          obtain⟨cs',hc,ht⟩:=hi i om
          rw[hf.1] at hc
          obtain⟨_,hcl,hat⟩:=World.cells?_some hc
          obtain⟨y,hy⟩:=ZfG n e a k cs' _ hf.2 ht
          exact⟨cs',y,λj v hv=>by rw[hat j (by have:=(List.getElem?_eq_some_iff.1 hv).1;omega)];exact hv,hcl,hy⟩
        obtain⟨l,hll,hl2⟩:=Zv3 len hex
        refine⟨l,some ad,cap,by rw[hll],by omega,hm,λh=>(by cases h),λh0=>?_⟩
        obtain⟨r0,hr0,hl0,_⟩:=hl2 0 h0
        have hp:=a.size_pos
        have hc0:=hr0 0 r0[0] (List.getElem?_eq_getElem om)
        have hsp:ad.spot=none:=by
          have:=Zm7 hc0
          simpa [Addr.add] using this
        obtain⟨b,off,sp⟩:=ad
        simp only at hsp
        subst hsp
        refine⟨b,off,rfl,?_,λk' hk'=>?_⟩
        . have:=block_lt_of_cell hc0
          simpa [Addr.add] using this
        . obtain⟨r,hr1,_,hr2⟩:=hl2 k' hk'
          exact⟨r,λj v hv=>by have:=hr1 j v hv;simpa [Addr.add_lit] using this,hr2⟩
    . rename_i fs hu
      simp only[Bool.and_eq_true,beq_iff_eq] at hf
      obtain⟨xs,m,_,_,hcl,hxl,hat⟩:=DataW.trod_struct hu h
      have key : ∀ (l : List Field) (off i : Nat) (d : Ds) (cs' : List Value), Zpr P (fits P n) l off d = true -> cs'.length = d.size -> cs.drop off = cs' -> (∀ (j : Nat) (f : Field), l[j]? = some f -> fs.toList[i + j]? = some f) ->
          ∃ e:El d,Rd w w.heap.size d cs' e:=by
        intro l
        induction l with
        | nil=>intro off i d cs' hg;simp[Zpr] at hg
        | cons f l ih =>
          intro off i d cs' hg hcl' hd hj
          have hfi:fs[i]?=some f:=by have:=hj 0 f rfl;simpa using this
          have hlt:i<xs.length:=by rw[hxl];exact (Array.getElem?_eq_some_iff.1 hfi).1
          have ht:=hat i f hfi
          rw[List.getElem?_eq_getElem hlt] at ht
          cases l with
          | nil =>
            simp only[Zpr,Bool.and_eq_true,beq_iff_eq] at hg
            rw[hg.1.1,hg.1.2,hd,List.take_of_length_le om] at ht
            exact ZfG n f.type d m cs' _ hg.2 ht
          | cons g l =>
            cases d with
            | pair a b =>
              simp only[Zpr,Bool.and_eq_true,beq_iff_eq] at hg
              obtain⟨⟨⟨g1,g2⟩,g3⟩,g4⟩:=hg
              rw[g1,g2,hd] at ht
              obtain⟨e1,he1⟩:=ZfG n f.type a m _ _ g3 ht
              obtain⟨e2,he2⟩:=ih (off+a.size) (i+1) b (cs'.drop a.size) g4 (by rw[List.length_drop,hcl'];simp[Ds.size]) (by rw[<-hd,List.drop_drop]) (λj f' hf'=>by have:=hj (j+1) f' (by simpa using hf');rw[<-this];congr 1;omega)
              exact⟨(e1,e2),cs'.take a.size,cs'.drop a.size,(List.take_append_drop _ _).symm,he1,he2⟩
            | _=>simp[Zpr] at hg
      exact key fs.toList 0 0 _ cs hf.2 (by rw[hcl,hf.1]) (by simp) (λj f' hf'=>by simpa using hf')
    . cases hf
def rd_arg {d:Ds}{t:TypeId}{x:DataW H}{p:List MemPlace}(hf:fits P 20 t d=true) (h:DataW.Trod enc P w base spare held t v x p) : ∃ e:El d,Rd w w.heap.size d v.cells.toList e:=by
 obtain⟨fuel,hf'⟩:=h
 exact ZfG 20 t d fuel _ _ hf hf'
end
def avs:(d:Ds)->El d->List AV
 | .int,n=>[iv n]
 | .str,s=>[sv s]
 | .bool,b=>[bv b]
 | .pair a b,p=>avs a p.1++avs b p.2
 | .slice a,l=>[.sl (List.length l) a.size false (rows (avs a) l)]
def ZmE : ∀ (d:Ds) (x:El d),(avs d x).length=d.size
 | .int,_=>rfl
 | .str,_=>rfl
 | .bool,_=>rfl
 | .pair a b,p=>by simp only[avs,List.length_append,ZmE a,ZmE b,Ds.size]
 | .slice a,l=>rfl
def okD:(d:Ds)->El d->Prop
 | .int,n => -9223372036854775808<=n/\n<=9223372036854775807
 | .str,s=>ByteArray.size s<=maxLen
 | .bool,_=>True
 | .pair a b,p=>okD a p.1/\okD b p.2
 | .slice a,l => ∀ (k:Nat) (h:k<List.length l),okD a (l[k])
def Rd.ok {w:World}{B:Nat} : ∀ {d:Ds}{cs:List Value}{x:El d},Rd w B d cs x->okD d x
 | .int,cs,x,h=>h.2
 | .str,cs,x,h=>h.2
 | .bool,cs,x,h=>trivial
 | .pair a b,cs,x,⟨c1,c2,e,h1,h2⟩=>⟨Rd.ok h1,Rd.ok h2⟩
 | .slice a,cs,x,⟨A,c,e,hl,hm,h0,h⟩=>λk hk=>by
  obtain⟨b,off,_,_,hi⟩:=h om
  obtain⟨r,_,hr⟩:=hi k hk
  exact Rd.ok hr
def RepC.append {w:World}{g:Gh} : ∀ {cs ds:List AV}{b off:Nat},RepC w g cs b off->RepC w g ds b (off+cs.length)->RepC w g (cs++ds) b off
 | [],ds,b,off,_,h=>by simpa using h
 | c::cs,ds,b,off,h,k=>by
  simp only[RepC,List.cons_append] at h ⊢
  refine⟨h.1,RepC.append h.2 ?_⟩
  rw[show off+1+cs.length=off+(c::cs).length by simp;omega]
  exact k
def RepC.of_list {w:World}{g:Gh}{b:Nat} : ∀ {cs:List AV}{us:List Value}{off:Nat},RepL w g cs us->(∀ j v,us[j]?=some v->w.cell? ⟨b,off+j,none⟩=some v)->RepC w g cs b off
 | [],us,off,_,_=>by simp only[RepC]
 | c::cs,us,off,h,k=>by
  simp only[RepL] at h
  obtain⟨u,us',rfl,h1,h2⟩:=h
  simp only[RepC]
  refine⟨⟨u,k 0 u rfl,h1⟩,RepC.of_list h2 λj v hv=>?_⟩
  have:=k (j+1) v (by simpa using hv)
  rw[show off+1+j=off+(j+1) by omega]
  exact this
def Znm {w:World}{B:Nat}{g:Gh}(hg : ∀ k,k<B->g.D k) : ∀ (d:Ds) (cs:List Value) (x:El d),Rd w B d cs x->RepL w g (avs d x) cs
 | .int,cs,x,h=>by rw[h.1];simp only[avs,RepL];exact⟨_,[],rfl,by simp only[Rep],rfl⟩
 | .str,cs,x,h=>by rw[h.1];simp only[avs,RepL];exact⟨_,[],rfl,by simp only[Rep],rfl⟩
 | .bool,cs,x,h=>by rw[show cs=_ from h];simp only[avs,RepL];exact⟨_,[],rfl,by simp only[Rep],rfl⟩
 | .pair a b,cs,x,⟨c1,c2,e,h1,h2⟩=>by rw[e];simp only[avs];exact (Znm hg a c1 x.1 h1).append (Znm hg b c2 x.2 h2)
 | .slice a,cs,l,⟨A,c,e,hl,hm,h0,h⟩=>by
  rw[e]
  simp only[avs,RepL]
  refine⟨_,[],rfl,?_,rfl⟩
  simp only[Rep]
  refine⟨Zbp (ZmE a) l,A,c,rfl,hl,hm,λh=>(by cases h),h0,λhne=>?_⟩
  have hpos:0<List.length l:=by
   rcases Nat.eq_zero_or_pos (List.length l) with h' | h'
   .have:l=[]:=List.eq_nil_of_length_eq_zero h'
    subst this;exact absurd rfl hne
   .exact h'
  obtain⟨b,off,eA,hb,hi⟩:=h hpos
  refine⟨b,off,eA,hg b hb,?_⟩
  have key : ∀ (m:List (El a)) (o:Nat),(∀ k (hk:k<m.length),∃ r,(∀ j v,r[j]?=some v->w.cell? ⟨b,o+k*a.size+j,none⟩=some v)/\RepL w g (avs a m[k]) r)->RepC w g (rows (avs a) m) b o:=by
   intro m
   induction m with
   | nil=>intro o _;simp only[rows,List.flatMap_nil,RepC]
   | cons x m ih =>
    intro o hm'
    simp only[rows,List.flatMap_cons]
    obtain⟨r,hr1,hr2⟩:=hm' 0 (by simp)
    refine RepC.append (RepC.of_list hr2 λj v hv=>by have:=hr1 j v hv;simpa using this) ?_
    rw[ZmE]
    refine ih (o+a.size) λk hk=>?_
    obtain⟨r,hr1,hr2⟩:=hm' (k+1) (by simpa using hk)
    refine⟨r,λj v hv=>?_,by simpa using hr2⟩
    have:=hr1 j v hv
    rw[show o+a.size+k*a.size+j=o+(k+1)*a.size+j by rw[Nat.add_mul];omega]
    exact this
  exact key l off λk hk=>by
   obtain⟨r,hr1,hr2⟩:=hi k hk
   exact⟨r,hr1,Znm hg a r _ hr2⟩
def g0 (w:World):Gh:=⟨λk=>k<w.heap.size,λ_ _=>none,[],λ_=>False⟩
def sim0 (w:World) (hG:GlobW w):SimH w (g0 w) [] :=
 ⟨λid ver ty s c h=>(by simp at h),λi j k hi _=>by obtain⟨_,_,_,_,_,_,h,_⟩:=hi;simp at h,λk hk=>hk,λid ver l h=>(by simp[g0] at h),λid ver l h=>(by simp[g0] at h),⟨hG,hG.lt⟩,λi k o T vs h=>(by simp at h),λi j k hi _=>by obtain⟨_,_,_,h⟩:=hi;simp at h,λ_ h=>h.elim⟩
def Zv6 {P:Program}{args:List AV}(hc:ACalls P f args [] λx h'=>h'=[]/\x=.ret (bv true)) (hG:GlobW w) {vs:Array Value}(hr:RepL w (g0 w) args vs.toList) :
  Calls P f vs w λe w'=>e=.returned (.bool true)/\Below w.heap.size w w':=by
 refine (hc.2 w (g0 w) vs (sim0 w hG) hr).mono ?_
 rintro e w' ⟨x,h',g',h1,h2,h3,h4,h5,rfl,rfl⟩
 cases e <;> simp only[EndR] at h1
 simp only[Rep] at h1
 refine⟨by rw[h1],h4.os,h4.tape,h4.output,h4.size,λk hk=>h4.block k hk ?_⟩
 rintro (⟨i,_,_,_,_,_,_,h,_⟩ | ⟨i,_,_,_,h⟩) <;> simp at h
section
variable {H : Type} {enc : TypeId × Value -> H} {P : Program} {w : World} {base : Nat} {spare : Nat -> Bool} {held : Bool}
def ZhM (d:Ds) {t:TypeId}{x:DataW H}{p:List MemPlace}{fs:Array Field}{r:Reach}{b:Nat}(ht:P.underlying t=some (.struct fs)) (hf:fits P 20 t d=true) (hv:Value.okWide P w r b t v) (h:DataW.Trod enc P w base spare held t v x p) :
  ∃ e:El d,okD d e/\Rep w (g0 w) (.agg (avs d e)) v:=by
 obtain⟨e,he⟩:=rd_arg hf h
 obtain⟨cs,rfl,_⟩:=okWide_struct ht hv
 refine⟨e,he.ok,?_⟩
 simp only[Rep]
 exact⟨cs,rfl,Znm (λk hk=>hk) d _ e he⟩
def arg_cell (d:Ds) {t:TypeId}{x:DataW H}{p:List MemPlace}(hf:fits P 20 t d=true) (hv:v.cells = #[v]) (h:DataW.Trod enc P w base spare held t v x p) :
  ∃ e:El d,okD d e/\RepL w (g0 w) (avs d e) [v]:=by
 obtain⟨e,he⟩:=rd_arg hf h
 refine⟨e,he.ok,?_⟩
 have:=Znm (g:=g0 w) (λk hk=>hk) d _ e he
 rwa [hv] at this
def arg_str {t:TypeId}{x:DataW H}{p:List MemPlace}{r:Reach}{b:Nat}(ht:P.underlying t=some .string) (hv:Value.okWide P w r b t v) (h:DataW.Trod enc P w base spare held t v x p) :
  ∃ e:ByteArray,e.size<=maxLen/\Rep w (g0 w) (sv e) v:=by
 obtain⟨n,rfl⟩:=okWide_string ht hv
 obtain⟨e,he,hr⟩:=arg_cell .str (by simp[fits,ht]) rfl h
 simp only[avs,RepL] at hr
 obtain⟨u,us,h1,h2,rfl⟩:=hr
 cases h1
 exact⟨e,he,h2⟩
end
def repL1 {g:Gh}{c:AV}{cs:List AV}{vs:List Value}(h:Rep w g c v) (hs:RepL w g cs vs):RepL w g (c::cs) (v::vs):=by simp only[RepL];exact⟨v,vs,rfl,h,hs⟩
def repL0 {g:Gh}:RepL w g [] []:=by simp only[RepL]
end
section
open Go.Ab Civ
def ZwD : ∀ (l m:List Chg),l.take (com l m)=m.take (com l m)
 | a::l,b::m=>by
  unfold com
  split
  .rename_i h
   rw[List.take_succ_cons,List.take_succ_cons,ZwD l m,h]
  .rfl
 | [],m=>by simp[com]
 | _::_,[]=>by simp[com]
def diffE_0 {t:Tab}(h:ZsB t u=0):Za3 t=0/\Za3 u=0:=by
 unfold ZsB at h
 split at h
 .rename_i h1;exact absurd h h1
 .rename_i h1;exact⟨Decidable.of_not_not h1,h⟩
def diffE_of {t:Tab}(h:Za3 t=0) (k:Za3 u=0):ZsB t u=0:=by rw[ZsB,if_neg (by simpa using h)];exact k
def leads {t:Tab}(h:ZsB t u=0):appE t (ZnV t u)=0/\appV t (ZnV t u)=u:=by
 obtain⟨h1,h2⟩:=diffE_0 h
 have hd:=hd_le t u
 have tl:=tl_le t u
 have hl2:=Zcc h2
 rw[ZnV,if_pos h]
 have e1:t.2.take (hdOf t u)=u.2.take (hdOf t u):=ZwD _ _
 have e2:t.2.drop (t.2.length-tlOf t u)=u.2.drop (u.2.length-tlOf t u):=by
  have:=ZwD (t.2.drop (hdOf t u)).reverse (u.2.drop (hdOf t u)).reverse
  have h3:(t.2.drop (hdOf t u)).reverse.take (tlOf t u)=(u.2.drop (hdOf t u)).reverse.take (tlOf t u):=this
  rw[List.take_reverse,List.take_reverse,List.reverse_inj,List.drop_drop,List.drop_drop,List.length_drop,List.length_drop] at h3
  rw[show hdOf t u+(t.2.length-hdOf t u-tlOf t u)=t.2.length-tlOf t u by omega,show hdOf t u+(u.2.length-hdOf t u-tlOf t u)=u.2.length-tlOf t u by omega] at h3
  exact h3
 have hoff:¬offP t (Zb8 t u):=by simp only[offP,Zb8];omega
 have hout:outT t (Zb8 t u)=u:=by
  refine Prod.ext rfl ?_
  simp only[outT,Zb8,List.flatten_cons,List.flatten_nil,List.append_nil,Int.toNat_natCast]
  rw[show ((t.2.length:Int)-(tlOf t u:Int)).toNat=t.2.length-tlOf t u by omega,e1,e2]
  have e3:(u.2.take (u.2.length-tlOf t u))=u.2.take (hdOf t u)++(u.2.take (u.2.length-tlOf t u)).drop (hdOf t u):=by
   conv=>lhs;rw[<-List.take_append_drop (hdOf t u) (u.2.take (u.2.length-tlOf t u))]
   rw[List.take_take,Nat.min_eq_left om]
  rw[<-List.append_assoc,<-e3,List.take_append_drop]
 have hput:¬1000<(Zb8 t u).2.2.2.length:=by simp only[Zb8,List.length_drop,List.length_take];omega
 have hE:patE t (Zb8 t u)=0:=by rw[patE,if_neg hoff,if_neg hput,hout];exact h2
 exact⟨by rw[appE,if_neg (by simpa using h1)];exact hE,by rw[appV,if_neg (by simpa using h1),patV,if_pos hE,hout]⟩
abbrev LocD:Ds:=.pair .int (.pair .int .str)
abbrev ChgD:Ds:=.pair .int LocD
abbrev TabD:Ds:=.pair LocD (.slice ChgD)
abbrev PatD:Ds:=.pair LocD (.pair .int (.pair .int (.slice ChgD)))
def okT_of {t:El TabD}(h:okD TabD t):okT t:=⟨h.1.2.2,λx hx=>by
 obtain⟨i,hi,rfl⟩:=List.getElem_of_mem hx
 exact (h.2 i hi).2.2.2⟩
def okP_of {p:El PatD}(h:okD PatD p):okP p:=⟨h.1.2.2,λx hx=>by
 obtain⟨i,hi,rfl⟩:=List.getElem_of_mem hx
 exact (h.2.2.2 i hi).2.2.2⟩
end
section
open Go.Ab
abbrev TS:=List ByteArray×Bool
def bind2 {α β:Type}(f:TS->α×TS) (k:α->TS->β×TS) (t:TS):β×TS:=k (f t).1 (f t).2
def ret2 {α:Type}(a:α) (t:TS):α×TS:=(a,t)
abbrev RM (α:Type):=List ByteArray->Option (α×List ByteArray)
def bindR {α β:Type}(f:RM α) (k:α->RM β):RM β:=λl=>match f l with
 | none=>none
 | some p=>k p.1 p.2
def retR {α:Type}(a:α):RM α:=λl=>some (a,l)
def Agr {α:Type}(f:TS->α×TS) (g:RM α):Prop := ∀ l,(f (l,true)).2.2=true/\match g l with
 | none=>(f (l,false)).2.2=true
 | some p=>f (l,false)=(p.1,p.2,false)
def Agr.bind {α β:Type}{f:TS->α×TS}{g:RM α}{k:α->TS->β×TS}{m:α->RM β}(h:Agr f g) (hk : ∀ a,Agr (k a) (m a)):Agr (bind2 f k) (bindR g m):=by
 have stay : ∀ (a:α) (t:TS),t.2=true->(k a t).2.2=true:=by
  rintro a ⟨l,b⟩ rfl;exact (hk a l).1
 intro l
 refine⟨stay _ _ (h l).1,?_⟩
 have h2:=(h l).2
 unfold bindR bind2
 revert h2
 cases hg:g l with
 | none=>exact λh2=>stay _ _ h2
 | some p=>intro h2;simp only at h2;rw[h2];exact (hk p.1 p.2).2
def Agr.ret {α:Type}(a:α):Agr (ret2 a) (retR a):=λl=>⟨rfl,rfl⟩
end
section
open Go.Ab
def refN (n:Int):Bool:=letB n||digB n||decide (n=95)||decide (n=45)||decide (n=47)||decide (n=43)
def ZvN (c:UInt8):Zny c.toNat=refN c.toNat:=by
 have hc:((c.toNat:Int).toNat.toUInt8)=c:=by simp
 unfold Zny refN
 rw[hc,<-Lib.contains_iff_indexByte]
 have e : ∀ x:UInt8,decide ((c.toNat:Int)=(x.toNat:Int))=(c==x):=by
  intro x
  rw[Bool.eq_iff_iff,decide_eq_true_iff,beq_iff_eq]
  exact⟨λh=>UInt8.toNat_inj.1 om,λh=>by rw[h]⟩
 rw[show (95:Int)=((95:UInt8).toNat:Int) from rfl,show (45:Int)=((45:UInt8).toNat:Int) from rfl,show (47:Int)=((47:UInt8).toNat:Int) from rfl,show (43:Int)=((43:UInt8).toNat:Int) from rfl,e,e,e,e]
 simp[List.contains_cons,Bool.or_assoc] <;> rfl
end
section
open Go.Ab Go.RowKit Civ
def k78:=Kx 78 []
def k79:=Kx 79 []
def k36:=Kx 36 []
def k119:=Kx 119 []
def Zgm (h0:0<=n) (h1:n<=255):Ac 78 [uv n] h (bv (letB n)):=by
 refine tI' k78 λN hn _ _ hbd=>?_
 simp only[tb'] at hbd ⊢
 refine wk'<|wm<|?_
 refine V' (ZoF lk om om) pt ?_
 refine Zac mp (ZeL) pt<|mw<|?_
 refine Zbd (t:=6) gt pt pt (λhg6=>?_) (λhg6=>?_)
 .refine so<|so<|so<|Vw (Zaj lk lkb)<|mr<|Zae rz<|rT'<|?_
  refine bvx ?_;unfold wi at *;unfold letB;rw[Bool.eq_iff_iff];simp at *;omega
 refine sd<|mw<|sd<|?_
 refine V' (ZoF lk om om) pt ?_
 refine sd<|Zac mp (ZeL) pt<|Vw (Zak lk lk)<|mr<|Zae rz<|rT'<|?_
 refine bvx ?_;unfold wi at *;unfold letB;rw[Bool.eq_iff_iff];simp at *;omega
def ZkT (h0:0<=n) (h1:n<=255):Ac 79 [uv n] h (bv (digB n)):=by
 refine tI' k79 λN hn _ _ hbd=>?_
 simp only[tb'] at hbd ⊢
 refine wk'<|wm<|?_
 refine V' (ZoF lk om om) pt ?_
 refine Zac mp (ZeL) pt<|mr<|Zae rz<|rT'<|?_
 refine bvx ?_;unfold wi digB;rw[Bool.eq_iff_iff];simp
def ZpK (s:ByteArray) (k:Nat):(0:Int)<=((ZbQ s k).toNat:Int)/\((ZbQ s k).toNat:Int)<=255:=by
 have:=(ZbQ s k).toNat_lt
 omega
def ZoZ (hs:s.size<=maxLen):Ac 119 [sv s] h (bv (allB ZbV s)):=by
 have hm:s.size<=9223372036854775807:=by simpa [maxLen] using hs
 refine tI' k119 λN hn _ _ hbd=>?_
 simp only[tb'] at hbd ⊢
 refine wk'<|Zab<|wk'<|Zag<|?_
 refine w_lp (ι:=Nat) (λ(k:Nat)=>[(3,iv (k:Int)),(2,.any)]++rn' 4 30) (λ(k:Nat)=>[]) (λ(k:Nat)=>k<=s.size /\ ∀ j (hj:j<s.size),j<k->ZbV s[j].toNat=true) (λ(k:Nat)=>s.size-k) (0) (by exact⟨by omega,λj hj h0=>absurd h0 om⟩) ?_
 rintro k hi1
 try simp only[sm',Nat.reduceAdd]
 obtain⟨hk1,hk2⟩:=hi1
 refine Zab<|wm<|mw<|Vw (ZcK lk)<|Vw (ZaJ lk lk)<|sn'<|?_
 refine cd' lk (λhc1=>?_) (λhc1=>?_)
 .have hk:k<s.size:=by omega
  have hb:=ZpK s k
  have hbk:ZbQ s k=s[k]:=ZdH hk
  refine za<|Zab<|Zag<|wm<|mw<|?_
  refine V' (v_ix lk lk om om) pt ?_
  refine Zac mp (Zgm hb.1 hb.2) pt<|Vw (ZaF lk)<|mw<|?_
  refine Zbd (t:=15) gt pt pt (λhg15=>?_) (λhg15=>?_)
  .refine sd<|mw<|sd<|mw<|sd<|?_
   refine V' (v_ix lk lk om om) pt ?_
   refine sd<|Zac mp (ZkT hb.1 hb.2) pt<|sd<|Vw (ZaF lk)<|Vw (Zaj lk lk)<|mw<|?_
   refine Zbd (t:=22) gt pt pt (λhg22=>?_) (λhg22=>?_)
   .refine sd<|mw<|sd<|mw<|sd<|?_
    refine V' (v_ix lk lk om om) pt ?_
    refine sd<|Vw (ZaY lk lki)<|Vw (Zaj lk lk)<|mw<|?_
    refine sp' (t:=28) gt pt pt (λhg28=>?_) (λhg28=>?_)
    .refine sd<|mw<|sd<|mw<|sd<|?_
     refine V' (v_ix lk lk om om) pt ?_
     refine sd<|Vw (ZaY lk lki)<|Vw (Zaj lk lk)<|sn'<|?_
     refine cd' lk (λhc2=>?_) (λhc2=>?_)
     .refine wo<|Zap<|Zah<|Zah<|Zap<|Zah<|Zae rz<|rT'<|?_
      refine bvx ?_;rw[ZpR (k:=k) hk (by rw[<-hbk];unfold ZbV;simp at *;simp_all)]
     refine Zay<|Zau<|Zan<|Zao<|mw<|?_
     refine ad<|mw<|Zam<|Zaw<|?_
     refine lT' (k+1) (by (try dsimp only);refine⟨by omega,λj hj h0=>?_⟩;rcases Nat.lt_or_ge j k with e | e;exact hk2 j hj e;obtain rfl:j=k:=om;rw[<-hbk];unfold ZbV;simp_all)
    refine so<|so<|so<|so<|Vw (Zak lk lkb)<|sn'<|ZaV lk<|Zay<|Zau<|Zan<|Zao<|mw<|?_
    refine ad<|mw<|Zam<|Zaw<|?_
    refine lT' (k+1) (by (try dsimp only);refine⟨by omega,λj hj h0=>?_⟩;rcases Nat.lt_or_ge j k with e | e;exact hk2 j hj e;obtain rfl:j=k:=om;rw[<-hbk];unfold ZbV;simp_all)
   refine so<|so<|so<|so<|Vw (Zak lk lkb)<|mw<|so<|so<|so<|so<|Vw (Zak lk lkb)<|sn'<|ZaV lk<|?_
   refine Zay<|Zau<|Zan<|Zao<|mw<|?_
   refine ad<|mw<|Zam<|Zaw<|?_
   refine lT' (k+1) (by (try dsimp only);refine⟨by omega,λj hj h0=>?_⟩;rcases Nat.lt_or_ge j k with e | e;exact hk2 j hj e;obtain rfl:j=k:=om;rw[<-hbk];unfold ZbV;simp_all)
  refine so<|so<|so<|so<|so<|Vw (Zak lk lkb)<|mw<|so<|so<|so<|so<|Vw (Zak lk lkb)<|mw<|so<|?_
  refine so<|so<|so<|Vw (Zak lk lkb)<|sn'<|ZaV lk<|Zay<|Zau<|Zan<|Zao<|mw<|?_
  refine ad<|mw<|Zam<|Zaw<|?_
  refine lT' (k+1) (by (try dsimp only);refine⟨by omega,λj hj h0=>?_⟩;rcases Nat.lt_or_ge j k with e | e;exact hk2 j hj e;obtain rfl:j=k:=om;rw[<-hbk];unfold ZbV;simp_all)
 refine Zax<|Zas<|Zas<|ZaK<|Zan<|wo<|Zae rz<|rT'<|?_
 refine bvx ?_;rw[ZmG λj hj=>hk2 j hj om]
def Znh (hs:s.size<=maxLen):Ac 36 [sv s] h (bv (Zb2 s)):=by
 have hm:s.size<=9223372036854775807:=by simpa [maxLen] using hs
 have hem:=Zmv (f:=s)
 have hb0:=ZpK s 0
 refine tI' k36 λN hn _ _ hbd=>?_
 simp only[tb'] at hbd ⊢
 refine wk'<|Zab<|wm<|Vw (Ze4 lk lks)<|mw<|?_
 refine sp' (t:=7) gt pt pt (λhg7=>?_) (λhg7=>?_)
 .refine so<|so<|so<|Vw (Zaj lk lkb)<|mw<|so<|so<|so<|so<|Vw (Zaj lk lkb)<|sn'<|Za6 lk<|Zab<|?_
  refine Zao<|mr<|Zah<|Zae rz<|rT'<|?_
  refine bvx ?_;unfold Zb2;simp[hem.1 hg7]
 have hne:s.size≠0:=λe=>hg7 (hem.2 e)
 refine sd<|mw<|sd<|Vw (ZcK lk)<|sd<|Vw (Zbr lk lki)<|Vw (Zak lk lk)<|mw<|?_
 refine sp' (t:=12) gt pt pt (λhg12=>?_) (λhg12=>?_)
 .refine so<|so<|so<|so<|Vw (Zaj lk lkb)<|sn'<|Za6 lk<|wo<|?_
  refine Zah<|Zae rz<|rT'<|?_
  refine bvx ?_;unfold Zb2;simp;omega
 refine sd<|mw<|sd<|?_
 refine V' (v_ix lk lki om om) pt ?_
 refine sd<|Zac mp (Zgm hb0.1 hb0.2) pt<|sd<|Vw (ZaF lk)<|Vw (Zak lk lk)<|sn'<|?_
 refine ZaA lk (λhc1=>?_) (λhc1=>?_)
 .refine wo<|Zah<|Zae rz<|rT'<|?_
  refine bvx ?_;unfold Zb2;simp_all
 have hz:s.size<=24:=by omega
 have hL:letB (ZbQ s 0).toNat=true:=by simpa using hc1
 refine za<|Zab<|wk'<|Zag<|?_
 refine w_lp (ι:=Nat) (λ(k:Nat)=>[(3,iv (k:Int)),(2,.any),(4,.any)]++rn' 18 33) (λ(k:Nat)=>[]) (λ(k:Nat)=>k<=s.size /\ ∀ j (hj:j<s.size),j<k->Zny s[j].toNat=true) (λ(k:Nat)=>s.size-k) (0) (by exact⟨by omega,λj hj h0=>absurd h0 om⟩) ?_
 rintro k hi1
 try simp only[sm',Nat.reduceAdd]
 obtain⟨hk1,hk2⟩:=hi1
 refine Zab<|wm<|mw<|Vw (ZcK lk)<|Vw (ZaJ lk lk)<|sn'<|?_
 refine cd' lk (λhc2=>?_) (λhc2=>?_)
 .have hk:k<s.size:=by omega
  have hb:=ZpK s k
  have hbk:ZbQ s k=s[k]:=ZdH hk
  have hR:=ZvN (ZbQ s k)
  refine za<|Zab<|Zag<|wm<|mw<|?_
  refine V' (v_ix lk lk om om) pt ?_
  refine ms<|wm<|Zac mp (Zgm hb.1 hb.2) pt<|Vw (ZaF lk)<|mw<|?_
  refine Zbd (t:=30) gt pt pt (λhg30=>?_) (λhg30=>?_)
  .refine sd<|mw<|sd<|Zac mp (ZkT hb.1 hb.2) pt<|sd<|Vw (ZaF lk)<|Vw (Zaj lk lk)<|mw<|?_
   refine Zbd (t:=35) gt pt pt (λhg35=>?_) (λhg35=>?_)
   .refine sd<|mw<|sd<|Vw (ZaY lk lki)<|Vw (Zaj lk lk)<|mw<|?_
    refine sp' (t:=39) gt pt pt (λhg39=>?_) (λhg39=>?_)
    .refine sd<|mw<|sd<|Vw (ZaY lk lki)<|Vw (Zaj lk lk)<|mw<|?_
     refine sp' (t:=43) gt pt pt (λhg43=>?_) (λhg43=>?_)
     .refine sd<|mw<|sd<|Vw (ZaY lk lki)<|Vw (Zaj lk lk)<|mw<|?_
      refine sp' (t:=47) gt pt pt (λhg47=>?_) (λhg47=>?_)
      .refine sd<|mw<|sd<|Vw (ZaY lk lki)<|Vw (Zaj lk lk)<|sn'<|?_
       refine cd' lk (λhc3=>?_) (λhc3=>?_)
       .refine wo<|Zap<|Zah<|Zah<|Zap<|Zah<|Zae rz<|rT'<|?_
        refine bvx ?_;unfold Zb2;rw[ZpR (k:=k) hk (by rw[<-hbk,hR];unfold refN;simp_all)];simp
       refine Zay<|Zau<|Zan<|Zao<|mw<|?_
       refine ad<|mw<|Zam<|Zaw<|?_
       refine lT' (k+1) (by (try dsimp only);refine⟨by omega,λj hj h0=>?_⟩;rcases Nat.lt_or_ge j k with e | e;exact hk2 j hj e;obtain rfl:j=k:=om;rw[<-hbk,hR];unfold refN;simp_all)
      refine so<|so<|Vw (Zak lk lkb)<|sn'<|ZaV lk<|Zay<|Zau<|Zan<|Zao<|mw<|?_
      refine ad<|mw<|Zam<|Zaw<|?_
      refine lT' (k+1) (by (try dsimp only);refine⟨by omega,λj hj h0=>?_⟩;rcases Nat.lt_or_ge j k with e | e;exact hk2 j hj e;obtain rfl:j=k:=om;rw[<-hbk,hR];unfold refN;simp_all)
     refine so<|so<|Vw (Zak lk lkb)<|mw<|so<|so<|Vw (Zak lk lkb)<|sn'<|ZaV lk<|Zay<|Zau<|Zan<|Zao<|?_
     refine mv' lk pt ?_
     refine ad<|mw<|Zam<|Zaw<|?_
     refine lT' (k+1) (by (try dsimp only);refine⟨by omega,λj hj h0=>?_⟩;rcases Nat.lt_or_ge j k with e | e;exact hk2 j hj e;obtain rfl:j=k:=om;rw[<-hbk,hR];unfold refN;simp_all)
    refine so<|so<|Vw (Zak lk lkb)<|mw<|so<|so<|Vw (Zak lk lkb)<|mw<|so<|so<|Vw (Zak lk lkb)<|sn'<|ZaV lk<|?_
    refine Zay<|Zau<|Zan<|Zao<|mw<|?_
    refine ad<|mw<|Zam<|Zaw<|?_
    refine lT' (k+1) (by (try dsimp only);refine⟨by omega,λj hj h0=>?_⟩;rcases Nat.lt_or_ge j k with e | e;exact hk2 j hj e;obtain rfl:j=k:=om;rw[<-hbk,hR];unfold refN;simp_all)
   refine so<|so<|Vw (Zak lk lkb)<|mw<|so<|so<|Vw (Zak lk lkb)<|mw<|so<|so<|Vw (Zak lk lkb)<|mw<|so<|so<|?_
   refine Vw (Zak lk lkb)<|sn'<|ZaV lk<|Zay<|Zau<|Zan<|Zao<|mw<|?_
   refine ad<|mw<|Zam<|Zaw<|?_
   refine lT' (k+1) (by (try dsimp only);refine⟨by omega,λj hj h0=>?_⟩;rcases Nat.lt_or_ge j k with e | e;exact hk2 j hj e;obtain rfl:j=k:=om;rw[<-hbk,hR];unfold refN;simp_all)
  refine so<|so<|so<|Vw (Zak lk lkb)<|mw<|so<|so<|Vw (Zak lk lkb)<|mw<|so<|so<|Vw (Zak lk lkb)<|mw<|so<|?_
  refine so<|Vw (Zak lk lkb)<|mw<|so<|so<|Vw (Zak lk lkb)<|sn'<|ZaV lk<|Zay<|Zau<|Zan<|Zao<|mw<|?_
  refine ad<|mw<|Zam<|Zaw<|?_
  refine lT' (k+1) (by (try dsimp only);refine⟨by omega,λj hj h0=>?_⟩;rcases Nat.lt_or_ge j k with e | e;exact hk2 j hj e;obtain rfl:j=k:=om;rw[<-hbk,hR];unfold refN;simp_all)
 refine Zax<|Zas<|Zas<|ZaK<|Zan<|wo<|Zae rz<|rT'<|?_
 refine bvx ?_;unfold Zb2;rw[ZmG λj hj=>hk2 j hj om,hL];simp[hne,hz]
end
section
open Go.Ab Civ
attribute [local simp] Zbl
section
def ZdL :((a0::a1::a2::l).drop 0).take 3=[a0,a1,a2]:=rfl
def ZhP :setCells (a0::a1::a2::l) 0 [c0,c1,c2]=c0::c1::c2::l:=rfl
def ZjU :(a0::a1::a2::a3::l).take 4=[a0,a1,a2,a3]:=rfl
def Zlu :setCells (a0::a1::a2::a3::l) 0 [c0,c1,c2,c3]=c0::c1::c2::c3::l:=rfl
def ZdK :((a0::a1::a2::a3::l).drop 1).take 3=[a1,a2,a3]:=rfl
def Zgw {a0:Int}{a1:Int}{a2 b2:ByteArray}:Za7 [.int,.int,.str] [iv a0,iv a1,sv a2] [iv b0,iv b1,sv b2]=some (decide (a0=b0/\a1=b1/\a2=b2)):=by
 simp only[Za7,ZcY,if_true,ZbP,Option.some.injEq]
 simp only[Bool.decide_and,Bool.and_true]
 try (congr 1 <;> simp)
 try rfl
def Zoa {a0:Int}{a1:Int}{a2 b2:Int}{a3 b3:ByteArray}:Za7 [.int,.int,.int,.str] [iv a0,iv a1,iv a2,sv a3] [iv b0,iv b1,iv b2,sv b3]=some (decide (a0=b0/\a1=b1/\a2=b2/\a3=b3)):=by
 simp only[Za7,ZcY,if_true,ZbP,Option.some.injEq]
 simp only[Bool.decide_and,Bool.and_true]
 try (congr 1 <;> simp)
 try rfl
def ZfT :((a0::a1::a2::a3::l).drop 0).take 4=[a0,a1,a2,a3]:=rfl
def Zkw {τ:Operand->AV}:Zal τ [] [(iv 0),(iv 0),(.v (.string ⟨#[]⟩)),(.sl 0 0 true [])]=some [(iv 0),(iv 0),(.v (.string ⟨#[]⟩)),(.sl 0 0 true [])]:=rfl
end
def k82:=Kx 82 []
def k83:=Kx 83 []
def k80:=Kx 80 []
def c37:AC:=(Sr [Oo 1 (.box 34 4 (t 0)),Mc 2 0] (.seq (Sr [Fa 8 3 1,Ld 9 8,Oo 10 (.len false (t 9)),Bc 11 .gtr 10 1000] (Cd 11 (Sr [Mc 2 2] .ret) .skip)) (Sr [Fa 12 0 1,Oo 13 (.load true 3 (t 12)),Cl 14 80 [(t 13)],Mv 3 14] (.seq (Sr [Mv 15 3,Bc 16 .neq 15 0] (Cd 16 (Sr [Mv 17 3,Mv 2 17] .ret) .skip)) (Sr [Fa 18 0 1,Oo 19 (.load true 3 (t 18)),Oo 4 (.new 31 3 [(iv 0),(iv 0),Ss]),⟨none,none,(.store 3 (t 4) (t 19))⟩] (.seq (Sr [Mc 5 0] (.block 0 (.loop (.seq (Sr [Mv 20 5,Fa 21 3 1,Ld 22 21,Oo 23 (.len false (t 22)),Bn 24 .lss 20 23] (Cd 24 .skip (.exit 0))) (.seq (.block 1 (Sr [Fa 27 3 1,Ld 28 27,Mv 29 5,Oo 30 (.ia 4 (t 28) (t 29)),Oo 31 (.load true 4 (t 30)),Oo 6 (.new 104 4 [(iv 0),(iv 0),(iv 0),Ss]),⟨none,none,(.store 4 (t 6) (t 31))⟩] (.seq (Sd [Fa 32 0 6,Ld 33 32,Cl 34 82 [],Cl 35 83 [],Cl 36 81 [(t 33),(t 34),(t 35)],Oo 37 (.un .not (t 36))] (Cd 37 (Sr [Mc 2 3] .ret) .skip)) (.seq (Sd [Mv 38 5,Bc 39 .gtr 38 0,Mv 40 39,Ot 41 40 (.fa 0 (t 6)),Ot 42 40 (.load false 1 (t 41)),Ot 43 40 (.fa 3 (t 1)),Ot 44 40 (.load false 1 (t 43)),Ot 45 40 (mt 5),Ot 46 40 (.bin .sub (t 45) (Ci 1)),Ot 47 40 (.ia 4 (t 44) (t 46)),Ot 48 40 (.fa 0 (t 47)),Ot 49 40 (.load false 1 (t 48)),Ot 50 40 (.bin .leq (t 42) (t 49)),Oo 51 (.pick (t 40) (t 50) (.const (.bool false)))] (Cd 51 (Sr [Mc 2 4] .ret) .skip)) (Sr [Fa 52 1 6,Oo 53 (.load true 3 (t 52)),Cl 54 80 [(t 53)],Mv 7 54] (.seq (Sr [Mv 55 7,Bc 56 .neq 55 0] (Cd 56 (Sr [Mv 57 7,Mv 2 57] .ret) .skip)) (.seq (Sr [Fa 58 1 6,Oo 59 (.load true 3 (t 58)),Oo 60 (.load true 3 (t 4)),Oo 61 (.eqs false [.int,.int,.str] (t 59) (t 60))] (Cd 61 (Sr [Mc 2 4] .ret) .skip)) (.reg [Fa 62 1 6,Oo 63 (.load true 3 (t 62)),⟨none,none,(.store 3 (t 4) (t 63))⟩])))))))) (.reg [Mv 25 5,Bc 26 .add 25 1,Mv 5 26])))))) (Sr [Mc 2 0] .ret)))))))
def k37:ZbT Tryz.prog 37=some ⟨c37,[(.tmp 2)],64⟩:=by kernel_rfl
def c29:AC:=(Sr [Oo 2 (.box 34 4 (t 0)),Oo 3 (.box 34 4 (t 1)),Mb 4 false] (.seq (Sr [Fa 6 0 2,Oo 7 (.load true 3 (t 6)),Fa 8 0 3,Oo 9 (.load true 3 (t 8)),Oo 10 (.eqs true [.int,.int,.str] (t 7) (t 9)),Mv 11 10,Of 12 11 (.fa 3 (t 2)),Of 13 11 (.load false 1 (t 12)),Of 14 11 (.len false (t 13)),Of 15 11 (.fa 3 (t 3)),Of 16 11 (.load false 1 (t 15)),Of 17 11 (.len false (t 16)),Of 18 11 (.bin .neq (t 14) (t 17)),Oo 19 (.pick (t 11) (.const (.bool true)) (t 18))] (Cd 19 (Sr [Mb 4 false] .ret) .skip)) (.seq (Sr [Mc 5 0] (.block 0 (.loop (.seq (Sr [Mv 20 5,Fa 21 3 2,Ld 22 21,Oo 23 (.len false (t 22)),Bn 24 .lss 20 23] (Cd 24 .skip (.exit 0))) (.seq (.block 1 (Sd [Fa 27 3 2,Ld 28 27,Mv 29 5,Oo 30 (.ia 4 (t 28) (t 29)),Oo 31 (.load true 4 (t 30)),Fa 32 3 3,Ld 33 32,Mv 34 5,Oo 35 (.ia 4 (t 33) (t 34)),Oo 36 (.load true 4 (t 35)),Oo 37 (.eqs true [.int,.int,.int,.str] (t 31) (t 36))] (Cd 37 (Sr [Mb 4 false] .ret) .skip))) (.reg [Mv 25 5,Bc 26 .add 25 1,Mv 5 26])))))) (Sr [Mb 4 true] .ret))))
def k29:ZbT Tryz.prog 29=some ⟨c29,[(.tmp 4)],38⟩:=by kernel_rfl
def k14:=Kx 14 []
def Zv7 (hs:s.size<=maxLen:=by first | assumption | omega):Ac 119 [sv s] h (bv (allB ZbV s)):=ZoZ hs
def Zhn :Ac 82 [] h (iv (-62135596800)):=by
 refine tI' k82 λN hn _ _ hbd=>?_
 simp only[tb'] at hbd ⊢
 refine wk'<|wr'<|Zac mp0 (ZqN) pt<|?_
 refine V' (Zgg lk lki om om) pt ?_
 exact mr<|Zae rz<|rT' rfl
def Znf :Ac 83 [] h (iv 253402300799):=by
 refine tI' k83 λN hn _ _ hbd=>?_
 simp only[tb'] at hbd ⊢
 refine wk'<|wr'<|Zac mp0 (Zu7) pt<|?_
 refine V' (Zgg lk lki om om) pt ?_
 refine V' (Zb0 lk lki om om) pt ?_
 exact mr<|Zae rz<|rT' rfl
def ZcW {a:Int}(hs:s.size<=maxLen:=by first | assumption | omega):Ac 80 [.agg [iv a,iv b,sv s]] h (iv (locE (a,b,s))):=by
 refine tI' k80 λN hn _ _ hbd=>?_
 simp only[tb'] at hbd ⊢
 refine wr'<|E' (ZaM cv rfl hl0 ha0) pt<|ms<|Zab<|wr'<|fq<|Vw (Zaa lk gx gt0)<|Zac mp (ZbI) pt<|Vw (ZaF lk)<|mw<|?_
 refine Zbd (t:=7) gt pt pt (λhg7=>?_) (λhg7=>?_)
 .refine so<|so<|so<|so<|Vw (Zaj lk lkb)<|sn'<|Za6 lk<|wo<|?_
  refine Zah<|Zae rz<|rT'<|?_
  refine ivx ?_;unfold locE;simp_all [wi];try omega
 refine sd<|fq<|sd<|Vw (Zaa lk gx gt1)<|sd<|Zac mp (ZbI) pt<|sd<|Vw (ZaF lk)<|Vw (Zak lk lk)<|sn'<|?_
 refine ZaA lk (λhc1=>?_) (λhc1=>?_)
 .refine wo<|Zah<|Zae rz<|rT'<|?_
  refine ivx ?_;unfold locE;simp_all [wi];try omega
 refine za<|Zab<|wr'<|fq<|Vw (Zaa lk gx gt2)<|Vw (v_eqlE lk)<|mw<|?_
 refine sp' (t:=16) gt pt pt (λhg16=>?_) (λhg16=>?_)
 .refine so<|so<|so<|so<|Vw (Zaj lk lkb)<|mw<|so<|so<|so<|so<|Vw (Zaj lk lkb)<|sn'<|Za6 lk<|?_
  refine wo<|Zah<|Zae rz<|rT'<|?_
  refine ivx ?_;unfold locE;simp_all [wi];try omega
 refine sd<|fq<|sd<|Vw (Zaa lk gx gt2)<|sd<|Vw (ZcK lk)<|sd<|Vw (Zbr lk lki)<|Vw (Zak lk lk)<|mw<|?_
 refine sp' (t:=22) gt pt pt (λhg22=>?_) (λhg22=>?_)
 .refine so<|so<|so<|so<|Vw (Zaj lk lkb)<|sn'<|Za6 lk<|wo<|?_
  refine Zah<|Zae rz<|rT'<|?_
  refine ivx ?_;unfold locE;simp_all [wi];try omega
 refine sd<|fq<|sd<|Vw (Zaa lk gx gt2)<|sd<|Zac mp (Zv7) pt<|sd<|Vw (ZaF lk)<|Vw (Zak lk lk)<|sn'<|?_
 refine ZaA lk (λhc2=>?_) (λhc2=>?_)
 .refine wo<|Zah<|Zae rz<|rT'<|?_
  refine ivx ?_;unfold locE;simp_all [wi];try omega
 refine za<|wo<|Zae rz<|rT'<|?_
 refine ivx ?_;unfold locE;simp_all [wi];try omega
def ZqO {a:Int}{c:ByteArray}{l:List Chg}{full:Bool}(hs:c.size<=maxLen) (hl : ∀ x∈l,x.2.2.2.size<=maxLen) :
  Ac 37 [.agg [iv a,iv b,sv c,.sl l.length 4 full (rows chgC l)]] h (iv (Za3 ((a,b,c),l))):=by
 refine tI' k37 λN hn hlt _ hbd=>?_
 simp only[tb'] at hbd ⊢
 refine wr'<|E' (ZaM cv rfl hl0 ha0) pt<|ms<|Zab<|wr'<|fq<|Vw (Zaa lk gx gt3)<|Vw (Zaz lk)<|Vw (Zbr lk lki)<|Zam<|?_
 refine Zan ?_
 refine cd' lk (λhc1=>?_) (λhc1=>?_)
 .refine wo<|Zah<|Zae rz<|rT'<|?_
  refine ivx ?_;rw[Za3,if_pos (by simp only;omega)]
 refine za<|wr'<|fq<|Vw (Zad lk gx ZdL rfl)<|Zac mp (ZcW) pt<|ms<|Zab<|wm<|?_
 refine Vw (ZaY lk lki)<|sn'<|?_
 refine cd' lk (λhc2=>?_) (λhc2=>?_)
 .refine wm<|mr<|Zah<|Zae rz<|rT'<|?_
  refine ivx ?_;rw[Za3,if_neg (by simp only;omega),if_pos hc2]
 refine za<|?_
 have hE:Za3 ((a,b,c),l)=chk (-62135596801) (a,b,c) l:=by rw[Za3,if_neg (by simp only;omega),if_neg (by simpa using hc2)]
 refine wr'<|fq<|Vw (Zad lk gx ZdL rfl)<|E' (ZaR hl1 ha1) pt<|E' (Zai lk cv gx rfl nb rfl ZhP hs1) ptn<|sn'<|Zab<|wk'<|?_
 refine Zag ?_
 refine w_lp (ι:=Nat×Int×Int×Int×ByteArray) (λ⟨k,wa,ws,wv,wn⟩=>[(5,iv (k:Int)),(2,.any),(6,.any),(7,.any)]++rn' 20 44) (λ⟨k,wa,ws,wv,wn⟩=>[(1,.mk 0 31 3 [iv ws,iv wv,sv wn])]) (λ⟨k,wa,ws,wv,wn⟩=>k<=l.length/\Za3 ((a,b,c),l)=chk wa (ws,wv,wn) (l.drop k)/\(k=0->wa = -62135596801) /\ ∀ (h:0<k) (hk:k-1<l.length),wa=l[k-1].1) (λ⟨k,wa,ws,wv,wn⟩=>l.length-k) (⟨0,-62135596801,a,b,c⟩) (by exact⟨by omega,by rw[hE];simp,λ_=>rfl,λh=>absurd h om⟩) ?_
 rintro⟨k,wa,ws,wv,wn⟩ hi1
 try simp only[sm',Nat.reduceAdd]
 obtain⟨hk1,hk2,hk3,hk4⟩:=hi1
 refine Zab<|wm<|fq<|Vw (Zaa lk gx gt3)<|Vw (Zaz lk)<|Vw (ZaJ lk lk)<|sn'<|?_
 refine cd' lk (λhc3=>?_) (λhc3=>?_)
 .have hk:k<l.length:=by omega
  have hsz:l[k].2.2.2.size<=maxLen:=hl _ (List.getElem_mem hk)
  rw[List.drop_eq_getElem_cons hk] at hk2
  refine za<|Zab<|Zag<|wr'<|fq<|Vw (Zaa lk gx gt3)<|mw<|?_
  refine V' (ZaE lk lk ZaT nb ro om ro rfl) pt ?_
  refine Vw (Zar lk ZjU rfl)<|E' (ZaR hl2 ha2) pt<|E' (Zai lk cv gx rfl nb rfl Zlu hs2) ptn<|sn'<|Zab<|Zab<|ZaD<|dg<|Dw (Zaa lk gx gt0)<|?_
  refine ZaB mp0 (λhE hX=>Zhn) pt ?_
  refine ZaB mp0 (λhE hX=>Znf) pt ?_
  refine ZaB mp (λhE hX=>ZbI) pt ?_
  refine Dw (ZaF lk)<|ZaH<|?_
  refine ZaU ?_
  refine sn' ?_
  refine ZaA lk (λhc4=>?_) (λhc4=>?_)
  .refine wo<|Zah<|Zap<|Zah<|Zah<|Zap<|Zah<|Zae rz<|rT'<|?_
   refine ivx ?_;rw[hk2,Zlc (by simpa [Zgh] using hc4)]
  have hT:Zgh l[k].1=true:=by simpa [Zgh] using hc4
  have hT2:=Zm0.1 hT
  refine za<|Zab<|Zab<|ZaD<|Dw vm<|Dw (Zbr lk lki)<|Dw vm<|?_
  refine dq' (t:=40) gt pt pt (λhg40=>?_) (λhg40=>?_)
  .refine dO<|dg<|dO<|Dw (Zaa lk gx gt0)<|dO<|dg<|dO<|Dw (Zaa lk gx gt3)<|dO<|Dw vm<|dO<|?_
   refine D' (Za2 lk lki om om) pt ?_
   refine d_do gt ?_
   refine D' (ZaE (k:=k-1) lk lk ZaT nb ro om ro rfl) pt ?_
   refine dO<|Dw (ZaZ lk dp0)<|dO<|Dw (Zav lk gt)<|dO<|Dw (ZdO lk lk)<|Dw (Zaj lk lk)<|ZaH<|?_
   refine ZaU ?_
   refine sn' ?_
   refine cd' lk (λhc5=>?_) (λhc5=>?_)
   .refine wo<|Zah<|Zap<|Zah<|Zah<|Zap<|Zah<|Zae rz<|rT'<|?_
    refine ivx ?_;rw[hk2,Zlb hT (by have:=hk4 om om;omega)]
   refine za<|wr'<|fq<|Vw (Zad lk gx ZdK rfl)<|Zac mp (ZcW) pt<|ms<|Zab<|wm<|?_
   refine Vw (ZaY lk lki)<|sn'<|?_
   refine cd' lk (λhc6=>?_) (λhc6=>?_)
   .refine wm<|mr<|Zah<|Zap<|Zah<|Zah<|Zap<|Zah<|Zae rz<|?_
    refine rT' ?_
    refine ivx ?_;rw[hk2,ZhI hT (by rcases Nat.eq_zero_or_pos k with e | e;have:=hk3 e;omega;have:=hk4 e om;omega) hc6]
   refine za<|Zab<|wr'<|fq<|Vw (Zad lk gx ZdK rfl)<|Vw (Zad lk gx ZdL rfl)<|Vw (Zic lk lk Zgw)<|sn'<|?_
   refine cd' lk (λhc7=>?_) (λhc7=>?_)
   .refine wo<|Zah<|Zap<|Zah<|Zah<|Zap<|Zah<|Zae rz<|rT'<|?_
    refine ivx ?_;rw[hk2,ZhH hT (by rcases Nat.eq_zero_or_pos k with e | e;have:=hk3 e;omega;have:=hk4 e om;omega) (by simpa using hc6) (ZgP.2 (by obtain⟨x1,x2,x3⟩:=hc7;exact Prod.ext x1 (Prod.ext x2 x3)))]
   refine za<|Zao<|fq<|Vw (Zad lk gx ZdK rfl)<|E' (Zai lk cv gx rfl nb rfl ZhP hs1) ptn<|Zam<|Zau<|Zan<|Zao<|mw<|?_
   refine ad<|mw<|Zam<|Zaw<|?_
   refine lU' (⟨k+1,l[k].1,l[k].2.1,l[k].2.2.1,l[k].2.2.2⟩) (by (try dsimp only);refine⟨by omega,?_,λe=>by omega,λh h'=>rfl⟩;rw[hk2,Ze0 hT (by rcases Nat.eq_zero_or_pos k with e | e;have:=hk3 e;omega;have:=hk4 e om;omega) (by simpa using hc6) (ZiU (λe=>hc7 (by rw[e];simp)))]) (by refine zz ?_;exact bk' 2 hn hlt)
  refine dn<|dn<|dn<|dn<|dn<|dn<|dn<|dn<|dn<|dn<|Dw (Zak lk lkb)<|ZaH<|?_
  refine ZaU ?_
  refine sn'<|ZaV lk<|za<|wr'<|fq<|Vw (Zad lk gx ZdK rfl)<|Zac mp (ZcW) pt<|ms<|Zab<|?_
  refine wm<|Vw (ZaY lk lki)<|sn'<|?_
  refine cd' lk (λhc6=>?_) (λhc6=>?_)
  .refine wm<|mr<|Zah<|Zap<|Zah<|Zah<|Zap<|Zah<|Zae rz<|?_
   refine rT' ?_
   refine ivx ?_;rw[hk2,ZhI hT (by rcases Nat.eq_zero_or_pos k with e | e;have:=hk3 e;omega;have:=hk4 e om;omega) hc6]
  refine za<|Zab<|wr'<|fq<|Vw (Zad lk gx ZdK rfl)<|Vw (Zad lk gx ZdL rfl)<|Vw (Zic lk lk Zgw)<|sn'<|?_
  refine cd' lk (λhc7=>?_) (λhc7=>?_)
  .refine wo<|Zah<|Zap<|Zah<|Zah<|Zap<|Zah<|Zae rz<|rT'<|?_
   refine ivx ?_;rw[hk2,ZhH hT (by rcases Nat.eq_zero_or_pos k with e | e;have:=hk3 e;omega;have:=hk4 e om;omega) (by simpa using hc6) (ZgP.2 (by obtain⟨x1,x2,x3⟩:=hc7;exact Prod.ext x1 (Prod.ext x2 x3)))]
  refine za<|Zao<|fq<|Vw (Zad lk gx ZdK rfl)<|E' (Zai lk cv gx rfl nb rfl ZhP hs1) ptn<|Zam<|Zau<|Zan<|Zao<|mw<|?_
  refine ad<|mw<|Zam<|Zaw<|?_
  refine lU' (⟨k+1,l[k].1,l[k].2.1,l[k].2.2.1,l[k].2.2.2⟩) (by (try dsimp only);refine⟨by omega,?_,λe=>by omega,λh h'=>rfl⟩;rw[hk2,Ze0 hT (by rcases Nat.eq_zero_or_pos k with e | e;have:=hk3 e;omega;have:=hk4 e om;omega) (by simpa using hc6) (ZiU (λe=>hc7 (by rw[e];simp)))]) (by refine zz ?_;exact bk' 2 hn hlt)
 refine Zax<|Zas<|Zas<|ZaK<|Zan<|wo<|Zae rz<|rT'<|?_
 refine ivx ?_;rw[hk2,List.drop_eq_nil_of_le om,ZwN]
def Zm1 {l m:List Chg}(h1:k<l.length) (h2:k<m.length) (h:l.take k=m.take k) (he:l[k]=m[k]):l.take (k+1)=m.take (k+1):=by
 rw[List.take_succ_eq_append_getElem h1,List.take_succ_eq_append_getElem h2,h,he]
def Zhm {t:Tab} :
  Ac 29 [.agg [iv t.1.1,iv t.1.2.1,sv t.1.2.2,.sl t.2.length 4 f1 (rows chgC t.2)],.agg [iv u.1.1,iv u.1.2.1,sv u.1.2.2,.sl u.2.length 4 f2 (rows chgC u.2)]] h (bv (decide (t=u))):=by
 refine tI' k29 λN hn _ _ hbd=>?_
 simp only[tb'] at hbd ⊢
 refine wr'<|E' (ZaM cv rfl hl0 ha0) pt<|E' (ZaM cv rfl hl1 ha1) pt<|ms<|Zab<|wr'<|fq<|Vw (Zad lk gx ZdL rfl)<|fq<|Vw (Zad lk gx ZdL rfl)<|?_
 refine Vw (Zga lk lk Zgw)<|mw<|?_
 refine sp' (t:=11) gt pt pt (λhg11=>?_) (λhg11=>?_)
 .refine so<|so<|so<|so<|so<|so<|so<|Vw (Zaj lk lkb)<|sn'<|Za6 lk<|wm<|?_
  refine sr<|Zah<|Zae rz<|rT'<|?_
  refine bvx (decide_eq_false (λe=>hg11 (by rw[e];simp))).symm
 refine sd<|fq<|sd<|Vw (Zaa lk gx gt3)<|sd<|Vw (Zaz lk)<|sd<|fq<|sd<|Vw (Zaa lk gx gt3)<|sd<|Vw (Zaz lk)<|sd<|Vw (ZaY lk lk)<|?_
 refine Vw (Zak lk lk)<|sn'<|?_
 refine cd' lk (λhc1=>?_) (λhc1=>?_)
 .refine wo<|Zah<|Zae rz<|rT'<|?_
  refine bvx (decide_eq_false (λe=>hc1 (by rw[e]))).symm
 refine za<|Zab<|wk'<|Zag<|?_
 refine w_lp (ι:=Nat) (λ(k:Nat)=>[(5,iv (k:Int)),(4,.any)]++rn' 20 18) (λ(k:Nat)=>[]) (λ(k:Nat)=>k<=t.2.length/\t.2.length=u.2.length/\t.1=u.1/\t.2.take k=u.2.take k) (λ(k:Nat)=>t.2.length-k) (0) (by exact⟨by omega,by omega,(by obtain⟨x1,x2,x3⟩:=Decidable.of_not_not hg11;exact Prod.ext x1 (Prod.ext x2 x3)),by simp⟩) ?_
 rintro k hi1
 try simp only[sm',Nat.reduceAdd]
 obtain⟨hk1,hk2,hk3,hk4⟩:=hi1
 refine Zab<|wm<|fq<|Vw (Zaa lk gx gt3)<|Vw (Zaz lk)<|Vw (ZaJ lk lk)<|sn'<|?_
 refine cd' lk (λhc2=>?_) (λhc2=>?_)
 .refine za<|Zab<|Zag<|Zab<|ZaD<|dg<|Dw (Zaa lk gx gt3)<|Dw vm<|?_
  refine D' (ZaE lk lk ZaT nb ro om ro rfl) pt ?_
  refine Dw (Zar lk ZjU rfl)<|dg<|Dw (Zaa lk gx gt3)<|Dw vm<|?_
  refine D' (ZaE lk lk ZaT nb ro om ro rfl) pt ?_
  refine Dw (Zar lk ZjU rfl)<|Dw (Zga lk lk Zoa)<|ZaH<|?_
  refine ZaU ?_
  refine sn' ?_
  refine cd' lk (λhc3=>?_) (λhc3=>?_)
  .refine wo<|Zap<|Zah<|Zah<|Zap<|Zah<|Zae rz<|rT'<|?_
   refine bvx (decide_eq_false (λe=>hc3 (by subst e;simp))).symm
  refine Zay<|Zau<|Zan<|Zao<|mw<|?_
  refine ad<|mw<|Zam<|Zaw<|?_
  refine lT' (k+1) (by (try dsimp only);exact⟨by omega,hk2,hk3,Zm1 om om hk4 (ZjH (Decidable.of_not_not hc3))⟩)
 refine Zax<|Zas<|Zas<|ZaK<|Zan<|wo<|Zae rz<|rT'<|?_
 refine bvx (decide_eq_true ?_).symm
 rw[List.take_of_length_le om,List.take_of_length_le om] at hk4
 exact Prod.ext hk3 hk4
def Zuz {t:Tab}{e1 e2:Int} :
  Ac 14 [.agg [iv t.1.1,iv t.1.2.1,sv t.1.2.2,.sl t.2.length 4 f1 (rows chgC t.2)],iv e1,iv e2,.agg [iv u.1.1,iv u.1.2.1,sv u.1.2.2,.sl u.2.length 4 f2 (rows chgC u.2)]] h (bv (decide (e1=e2)&&decide (t=if e2≠0 then Zdr else u))):=by
 refine tI' k14 λN hn _ _ hbd=>?_
 simp only[tb'] at hbd ⊢
 refine wr'<|E' (ZaM cv rfl hl0 ha0) pt<|E' (ZaM cv rfl hl1 ha1) pt<|ms<|Zab<|wm<|Vw (ZaY lk lki)<|sn'<|?_
 refine cd' lk (λhc1=>?_) (λhc1=>?_)
 .refine Zao<|Vw (Zat Zkw)<|E' (Zai lk cv gx rfl nb rfl Zlu hs1) ptn<|sn'<|wm<|mw<|Vw (Za0 lk lk)<|mw<|?_
  refine sp' (t:=15) gt pt pt (λhg15=>?_) (λhg15=>?_)
  .refine sd<|Vw (Zad lk gx ZfT rfl)<|sd<|Vw (Zad lk gx ZfT rfl)<|sd<|?_
   refine Zac mp (ACalls.wk (wkw (Wk.refl _) (wkw (Wk.agg (wk1 rfl (wk1 rfl (wk1 rfl (wkw Wk.nilF wk0))))) wk0))<|Zhm (t:=t) (u:=Zdr) (f1:=f1) (f2:=false)) pt ?_
   refine Vw (Zaj lk lk)<|mr<|Zae rz<|rT'<|?_
   refine bvx ?_;simp_all
  refine so<|so<|so<|Vw (Zak lk lkb)<|mr<|Zae rz<|rT'<|?_
  refine bvx ?_;simp_all
 refine za<|wm<|mw<|Vw (Za0 lk lk)<|mw<|?_
 refine sp' (t:=15) gt pt pt (λhg15=>?_) (λhg15=>?_)
 .refine sd<|Vw (Zad lk gx ZfT rfl)<|sd<|Vw (Zad lk gx ZfT rfl)<|sd<|Zac mp (Zhm (t:=t) (u:=u)) pt<|Vw (Zaj lk lk)<|mr<|Zae rz<|rT'<|?_
  refine bvx ?_;simp_all
 refine so<|so<|so<|Vw (Zak lk lkb)<|mr<|Zae rz<|rT'<|?_
 refine bvx ?_;simp_all
end
section
open Go.Ab
attribute [local simp] ZbR Zcn Zb6 Zbq Zbl
section
def ZxN :(a0::a1::a2::a3::a4::a5::a6::a7::a8::a9::a10::l).take 11=[a0,a1,a2,a3,a4,a5,a6,a7,a8,a9,a10]:=rfl
def ZmO :(a0::a1::l).take 2=[a0,a1]:=rfl
def IxA_tk_4 :(a0::a1::a2::a3::l).take 4=[a0,a1,a2,a3]:=rfl
end
def k249:=Kx 249 []
def k180:=Kx 180 []
def k189:=Kx 189 []
def k127:=Kx 127 []
def k67:=Kx 67 []
def k177:=Kx 177 []
def k263:=Kx 263 []
def ZfL {α:Type}{p:α->Bool}{l:List α}(hk:k<l.length) (h1:p l[k]=true) (h2 : ∀ j (hj:j<k),p (l[j]'(by omega))=false):l.findIdx p=k:=by
 have hlt:l.findIdx p<l.length:=List.findIdx_lt_length.2 ⟨_,List.getElem_mem hk,h1⟩
 rcases Nat.lt_trichotomy (l.findIdx p) k with e | e | e
 .have a:=h2 _ e
  have b:=List.findIdx_getElem (w:=hlt)
  rw[a] at b;cases b
 .exact e
 have:=List.not_of_lt_findIdx e
 rw[h1] at this;cases this
def idxV {α:Type}(p:α->Bool) (l:List α):Int:=if l.findIdx p<l.length then (l.findIdx p:Int) else -1
def ZeS {α:Type}(p:α->Bool) (l:List α):decide (0<=idxV p l)=l.any p:=by
 unfold idxV
 rw[Bool.eq_iff_iff,decide_eq_true_iff,List.any_eq_true]
 split
 .rename_i h
  exact⟨λ_=>⟨_,List.getElem_mem h,List.findIdx_getElem (w:=h)⟩,λ_=>by omega⟩
 rename_i h
 constructor
 .intro h2;omega
 rintro⟨x,hx,hp⟩;exact absurd (List.findIdx_lt_length.2 ⟨x,hx,hp⟩) h
def Zjv {α:Type}{p:α->Bool}{l:List α}:idxV p l<0↔l.any p=false:=by
 rw[<-ZeS];simp
def ixRulC_a {p:Rul->Bool}{l:List Rul}{full:Bool}(hp : ∀ c∈l,∀ E:AH,ACalls Tryz.prog f ([.agg (rulC c)]++caps) (h++E) λx h'=>h'=h++E/\x=.ret (bv (p c))) (hl:l.length<=9223372036854775807) :
  Ac 249 [.sl l.length 11 full (rows rulC l),.clo (.func f) caps] h (iv (idxV p l)):=by
 refine tI' k249 λN hn _ _ hbd=>?_
 simp only[tb'] at hbd ⊢
 refine wk'<|Zab<|wm<|Vw (Zaz lk)<|ms<|Zag<|?_
 refine w_lp (ι:=Nat) (λ(k:Nat)=>[(8,iv (k:Int)),(4,.any),(5,.any)]++rn' 9 10) (λ(k:Nat)=>[]) (λ(k:Nat)=>k<=l.length /\ ∀ j (hj:j<l.length),j<k->p l[j]=false) (λ(k:Nat)=>l.length-k) (0) (by exact⟨by omega,λj hj h0=>absurd h0 om⟩) ?_
 rintro k hi1
 try simp only[sm',Nat.reduceAdd]
 obtain⟨hk1,hk2⟩:=hi1
 refine wr'<|Vw (ZaJ lk lk)<|sn'<|Zab<|?_
 refine cd' lk (λhc1=>?_) (λhc1=>?_)
 .have hk:k<l.length:=by omega
  refine za<|Zab<|Zag<|wm<|ms<|wm<|mw<|?_
  refine mv' lk pt ?_
  refine V' (ZaE lk lk ZcE nb ro om ro rfl) pt ?_
  refine Vw (Zar lk ZxN rfl)<|Zl1 lk mp (hp l[k] (List.getElem_mem hk) _) pt<|sn'<|?_
  refine ZaA lk (λhc2=>?_) (λhc2=>?_)
  .refine wm<|mr<|Zap<|Zah<|Zah<|Zap<|Zah<|Zae rz<|rT'<|?_
   refine ivx ?_
   have hf:l.findIdx p=k:=ZfL hk (by simpa using hc2) (λj hj=>hk2 j om hj)
   rw[idxV,hf,if_pos hk]
  refine Zay<|Zau<|Zan<|Zao<|?_
  refine ad<|mw<|Zam<|Zaw<|?_
  refine lT' (k+1) (by (try dsimp only);refine⟨by omega,λj hj h0=>?_⟩;by_cases e:j=k;subst e;simpa using hc2;exact hk2 j hj om)
 refine Zax<|Zas<|Zas<|ZaK<|Zan<|wo<|Zae rz<|rT'<|?_
 refine ivx ?_
 have hf:l.findIdx p=l.length:=List.findIdx_eq_length.2 (λx hx=>by obtain⟨i,hi,rfl⟩:=List.getElem_of_mem hx;exact hk2 i hi om)
 rw[idxV,hf,if_neg om]
def ZnK {p:Rul->Bool}{l:List Rul}{full:Bool}(hp : ∀ c∈l,∀ E:AH,ACalls Tryz.prog f ([.agg (rulC c)]++caps) (h++E) λx h'=>h'=h++E/\x=.ret (bv (p c))) (hl:l.length<=9223372036854775807) :
  Ac 180 [.sl l.length 11 full (rows rulC l),.clo (.func f) caps] h (bv (l.any p)):=by
 refine tI' k180 λN hn _ _ hbd=>?_
 simp only[tb'] at hbd ⊢
 refine wk'<|wm<|mw<|?_
 refine Zac mp (ixRulC_a (λc hc E=>by have:=hp c hc E;rwa [List.append_nil]) hl) pt ?_
 refine Vw (Zeo lk lki)<|mr<|Zae rz<|rT'<|?_
 exact bvx (by first | exact ZeS p l | (rw[<-ZeS];simp))
def ixZonC_a {p:Zon->Bool}{l:List Zon}{full:Bool}(hp : ∀ c∈l,∀ E:AH,ACalls Tryz.prog f ([.agg (zonC c)]++caps) (h++E) λx h'=>h'=h++E/\x=.ret (bv (p c))) (hl:l.length<=9223372036854775807) :
  Ac 189 [.sl l.length 2 full (rows zonC l),.clo (.func f) caps] h (iv (idxV p l)):=by
 refine tI' k189 λN hn _ _ hbd=>?_
 simp only[tb'] at hbd ⊢
 refine wk'<|Zab<|wm<|Vw (Zaz lk)<|ms<|Zag<|?_
 refine w_lp (ι:=Nat) (λ(k:Nat)=>[(8,iv (k:Int)),(4,.any),(5,.any)]++rn' 9 10) (λ(k:Nat)=>[]) (λ(k:Nat)=>k<=l.length /\ ∀ j (hj:j<l.length),j<k->p l[j]=false) (λ(k:Nat)=>l.length-k) (0) (by exact⟨by omega,λj hj h0=>absurd h0 om⟩) ?_
 rintro k hi1
 try simp only[sm',Nat.reduceAdd]
 obtain⟨hk1,hk2⟩:=hi1
 refine wr'<|Vw (ZaJ lk lk)<|sn'<|Zab<|?_
 refine cd' lk (λhc1=>?_) (λhc1=>?_)
 .have hk:k<l.length:=by omega
  refine za<|Zab<|Zag<|wm<|ms<|wm<|mw<|?_
  refine mv' lk pt ?_
  refine V' (ZaE lk lk ZcD nb ro om ro rfl) pt ?_
  refine Vw (Zar lk ZmO rfl)<|Zl1 lk mp (hp l[k] (List.getElem_mem hk) _) pt<|sn'<|?_
  refine ZaA lk (λhc2=>?_) (λhc2=>?_)
  .refine wm<|mr<|Zap<|Zah<|Zah<|Zap<|Zah<|Zae rz<|rT'<|?_
   refine ivx ?_
   have hf:l.findIdx p=k:=ZfL hk (by simpa using hc2) (λj hj=>hk2 j om hj)
   rw[idxV,hf,if_pos hk]
  refine Zay<|Zau<|Zan<|Zao<|?_
  refine ad<|mw<|Zam<|Zaw<|?_
  refine lT' (k+1) (by (try dsimp only);refine⟨by omega,λj hj h0=>?_⟩;by_cases e:j=k;subst e;simpa using hc2;exact hk2 j hj om)
 refine Zax<|Zas<|Zas<|ZaK<|Zan<|wo<|Zae rz<|rT'<|?_
 refine ivx ?_
 have hf:l.findIdx p=l.length:=List.findIdx_eq_length.2 (λx hx=>by obtain⟨i,hi,rfl⟩:=List.getElem_of_mem hx;exact hk2 i hi om)
 rw[idxV,hf,if_neg om]
def ixZonT_a {p:Zon->Bool}{l:List Zon}{full:Bool}(hp : ∀ c∈l,∀ E:AH,ACalls Tryz.prog f [.agg (zonC c)] (h++E) λx h'=>h'=h++E/\x=.ret (bv (p c))) (hl:l.length<=9223372036854775807) :
  Ac 189 [.sl l.length 2 full (rows zonC l),.v (.func (.func f) #[] #[])] h (iv (idxV p l)):=by
 refine tI' k189 λN hn _ _ hbd=>?_
 simp only[tb'] at hbd ⊢
 refine wk'<|Zab<|wm<|Vw (Zaz lk)<|ms<|Zag<|?_
 refine w_lp (ι:=Nat) (λ(k:Nat)=>[(8,iv (k:Int)),(4,.any),(5,.any)]++rn' 9 10) (λ(k:Nat)=>[]) (λ(k:Nat)=>k<=l.length /\ ∀ j (hj:j<l.length),j<k->p l[j]=false) (λ(k:Nat)=>l.length-k) (0) (by exact⟨by omega,λj hj h0=>absurd h0 om⟩) ?_
 rintro k hi1
 try simp only[sm',Nat.reduceAdd]
 obtain⟨hk1,hk2⟩:=hi1
 refine wr'<|Vw (ZaJ lk lk)<|sn'<|Zab<|?_
 refine cd' lk (λhc1=>?_) (λhc1=>?_)
 .have hk:k<l.length:=by omega
  refine za<|Zab<|Zag<|wm<|ms<|wm<|mw<|?_
  refine mv' lk pt ?_
  refine V' (ZaE lk lk ZcD nb ro om ro rfl) pt ?_
  refine Vw (Zar lk ZmO rfl)<|Zgk lk mp (hp l[k] (List.getElem_mem hk) _) pt<|sn'<|?_
  refine ZaA lk (λhc2=>?_) (λhc2=>?_)
  .refine wm<|mr<|Zap<|Zah<|Zah<|Zap<|Zah<|Zae rz<|rT'<|?_
   refine ivx ?_
   have hf:l.findIdx p=k:=ZfL hk (by simpa using hc2) (λj hj=>hk2 j om hj)
   rw[idxV,hf,if_pos hk]
  refine Zay<|Zau<|Zan<|Zao<|?_
  refine ad<|mw<|Zam<|Zaw<|?_
  refine lT' (k+1) (by (try dsimp only);refine⟨by omega,λj hj h0=>?_⟩;by_cases e:j=k;subst e;simpa using hc2;exact hk2 j hj om)
 refine Zax<|Zas<|Zas<|ZaK<|Zan<|wo<|Zae rz<|rT'<|?_
 refine ivx ?_
 have hf:l.findIdx p=l.length:=List.findIdx_eq_length.2 (λx hx=>by obtain⟨i,hi,rfl⟩:=List.getElem_of_mem hx;exact hk2 i hi om)
 rw[idxV,hf,if_neg om]
def Zwa {p:Zon->Bool}{l:List Zon}{full:Bool}(hp : ∀ c∈l,∀ E:AH,ACalls Tryz.prog f [.agg (zonC c)] (h++E) λx h'=>h'=h++E/\x=.ret (bv (p c))) (hl:l.length<=9223372036854775807) :
  Ac 127 [.sl l.length 2 full (rows zonC l),.v (.func (.func f) #[] #[])] h (bv (l.any p)):=by
 refine tI' k127 λN hn _ _ hbd=>?_
 simp only[tb'] at hbd ⊢
 refine wk'<|wm<|mw<|?_
 refine Zac mp (ixZonT_a (λc hc E=>by have:=hp c hc E;rwa [List.append_nil]) hl) pt ?_
 refine Vw (Zeo lk lki)<|mr<|Zae rz<|rT'<|?_
 exact bvx (by first | exact ZeS p l | (rw[<-ZeS];simp))
def Zrn {p:Lnk->Bool}{l:List Lnk}{full:Bool}(hp : ∀ c∈l,∀ E:AH,ACalls Tryz.prog f ([.agg (lnkC c)]++caps) (h++E) λx h'=>h'=h++E/\x=.ret (bv (p c))) (hl:l.length<=9223372036854775807) :
  Ac 67 [.sl l.length 2 full (rows lnkC l),.clo (.func f) caps] h (iv (idxV p l)):=by
 refine tI' k67 λN hn _ _ hbd=>?_
 simp only[tb'] at hbd ⊢
 refine wk'<|Zab<|wm<|Vw (Zaz lk)<|ms<|Zag<|?_
 refine w_lp (ι:=Nat) (λ(k:Nat)=>[(8,iv (k:Int)),(4,.any),(5,.any)]++rn' 9 10) (λ(k:Nat)=>[]) (λ(k:Nat)=>k<=l.length /\ ∀ j (hj:j<l.length),j<k->p l[j]=false) (λ(k:Nat)=>l.length-k) (0) (by exact⟨by omega,λj hj h0=>absurd h0 om⟩) ?_
 rintro k hi1
 try simp only[sm',Nat.reduceAdd]
 obtain⟨hk1,hk2⟩:=hi1
 refine wr'<|Vw (ZaJ lk lk)<|sn'<|Zab<|?_
 refine cd' lk (λhc1=>?_) (λhc1=>?_)
 .have hk:k<l.length:=by omega
  refine za<|Zab<|Zag<|wm<|ms<|wm<|mw<|?_
  refine mv' lk pt ?_
  refine V' (ZaE lk lk Zbe nb ro om ro rfl) pt ?_
  refine Vw (Zar lk ZmO rfl)<|Zl1 lk mp (hp l[k] (List.getElem_mem hk) _) pt<|sn'<|?_
  refine ZaA lk (λhc2=>?_) (λhc2=>?_)
  .refine wm<|mr<|Zap<|Zah<|Zah<|Zap<|Zah<|Zae rz<|rT'<|?_
   refine ivx ?_
   have hf:l.findIdx p=k:=ZfL hk (by simpa using hc2) (λj hj=>hk2 j om hj)
   rw[idxV,hf,if_pos hk]
  refine Zay<|Zau<|Zan<|Zao<|?_
  refine ad<|mw<|Zam<|Zaw<|?_
  refine lT' (k+1) (by (try dsimp only);refine⟨by omega,λj hj h0=>?_⟩;by_cases e:j=k;subst e;simpa using hc2;exact hk2 j hj om)
 refine Zax<|Zas<|Zas<|ZaK<|Zan<|wo<|Zae rz<|rT'<|?_
 refine ivx ?_
 have hf:l.findIdx p=l.length:=List.findIdx_eq_length.2 (λx hx=>by obtain⟨i,hi,rfl⟩:=List.getElem_of_mem hx;exact hk2 i hi om)
 rw[idxV,hf,if_neg om]
def Zwb {p:Lnk->Bool}{l:List Lnk}{full:Bool}(hp : ∀ c∈l,∀ E:AH,ACalls Tryz.prog f ([.agg (lnkC c)]++caps) (h++E) λx h'=>h'=h++E/\x=.ret (bv (p c))) (hl:l.length<=9223372036854775807) :
  Ac 177 [.sl l.length 2 full (rows lnkC l),.clo (.func f) caps] h (bv (l.any p)):=by
 refine tI' k177 λN hn _ _ hbd=>?_
 simp only[tb'] at hbd ⊢
 refine wk'<|wm<|mw<|?_
 refine Zac mp (Zrn (λc hc E=>by have:=hp c hc E;rwa [List.append_nil]) hl) pt ?_
 refine Vw (Zeo lk lki)<|mr<|Zae rz<|rT'<|?_
 exact bvx (by first | exact ZeS p l | (rw[<-ZeS];simp))
def ixPrtC_a {p:Chg->Bool}{l:List Chg}{full:Bool}(hp : ∀ c∈l,∀ E:AH,ACalls Tryz.prog f ([.agg (chgC c)]++caps) (h++E) λx h'=>h'=h++E/\x=.ret (bv (p c))) (hl:l.length<=9223372036854775807) :
  Ac 263 [.sl l.length 4 full (rows chgC l),.clo (.func f) caps] h (iv (idxV p l)):=by
 refine tI' k263 λN hn _ _ hbd=>?_
 simp only[tb'] at hbd ⊢
 refine wk'<|Zab<|wm<|Vw (Zaz lk)<|ms<|Zag<|?_
 refine w_lp (ι:=Nat) (λ(k:Nat)=>[(8,iv (k:Int)),(4,.any),(5,.any)]++rn' 9 10) (λ(k:Nat)=>[]) (λ(k:Nat)=>k<=l.length /\ ∀ j (hj:j<l.length),j<k->p l[j]=false) (λ(k:Nat)=>l.length-k) (0) (by exact⟨by omega,λj hj h0=>absurd h0 om⟩) ?_
 rintro k hi1
 try simp only[sm',Nat.reduceAdd]
 obtain⟨hk1,hk2⟩:=hi1
 refine wr'<|Vw (ZaJ lk lk)<|sn'<|Zab<|?_
 refine cd' lk (λhc1=>?_) (λhc1=>?_)
 .have hk:k<l.length:=by omega
  refine za<|Zab<|Zag<|wm<|ms<|wm<|mw<|?_
  refine mv' lk pt ?_
  refine V' (ZaE lk lk ZaT nb ro om ro rfl) pt ?_
  refine Vw (Zar lk IxA_tk_4 rfl)<|Zl1 lk mp (hp l[k] (List.getElem_mem hk) _) pt<|sn'<|?_
  refine ZaA lk (λhc2=>?_) (λhc2=>?_)
  .refine wm<|mr<|Zap<|Zah<|Zah<|Zap<|Zah<|Zae rz<|rT'<|?_
   refine ivx ?_
   have hf:l.findIdx p=k:=ZfL hk (by simpa using hc2) (λj hj=>hk2 j om hj)
   rw[idxV,hf,if_pos hk]
  refine Zay<|Zau<|Zan<|Zao<|?_
  refine ad<|mw<|Zam<|Zaw<|?_
  refine lT' (k+1) (by (try dsimp only);refine⟨by omega,λj hj h0=>?_⟩;by_cases e:j=k;subst e;simpa using hc2;exact hk2 j hj om)
 refine Zax<|Zas<|Zas<|ZaK<|Zan<|wo<|Zae rz<|rT'<|?_
 refine ivx ?_
 have hf:l.findIdx p=l.length:=List.findIdx_eq_length.2 (λx hx=>by obtain⟨i,hi,rfl⟩:=List.getElem_of_mem hx;exact hk2 i hi om)
 rw[idxV,hf,if_neg om]
end
section
open Go.Ab Civ
attribute [local simp] Zbl
def k137:=Kx 137 []
def lastL (a:Loc):List Chg->Loc
 | []=>a
 | c::l=>lastL c.2 l
def Zjr : ∀ {a:Loc}{l:List Chg}(h:0<l.length),lastL a l=(l[l.length-1]'(by omega)).2
 | a,[c],_=>rfl
 | a,c::d::l,_=>by
  rw[lastL,Zjr (l:=d::l) (by simp)]
  rfl
end
section
open Go.Ab Civ
attribute [local simp] ZbR ZmX Zd4
section
def Zlz :(a0::a1::a2::a3::a4::a5::a6::a7::a8::a9::a10::l).take 11=[a0,a1,a2,a3,a4,a5,a6,a7,a8,a9,a10]:=rfl
def Zj1 {c10:AV}:setCells (a0::a1::a2::a3::a4::a5::a6::a7::a8::a9::a10::l) 0 [c0,c1,c2,c3,c4,c5,c6,c7,c8,c9,c10]=c0::c1::c2::c3::c4::c5::c6::c7::c8::c9::c10::l:=rfl
def Zj0 :((a0::a1::a2::a3::a4::a5::a6::a7::a8::a9::a10::l).drop 0).take 11=[a0,a1,a2,a3,a4,a5,a6,a7,a8,a9,a10]:=rfl
def Ztj :((a0::a1::a2::a3::a4::a5::a6::l).drop 4).take 3=[a4,a5,a6]:=rfl
def Ztl :setCells (a0::a1::a2::l) 0 [c0,c1,c2]=c0::c1::c2::l:=rfl
def Ztk :((a0::a1::a2::l).drop 0).take 3=[a0,a1,a2]:=rfl
def Zkx {τ:Operand->AV}{y0 y1:Operand}{x0_0 x1_0 x1_1 x1_2 x1_3 x1_4 x1_5 x1_6 x1_7 x1_8 x1_9 x1_10:AV}(h0:Zaq (τ y0)=some [x0_0]) (l0:[x0_0].all leaf=true) (h1:Zaq (τ y1)=some [x1_0,x1_1,x1_2,x1_3,x1_4,x1_5,x1_6,x1_7,x1_8,x1_9,x1_10]) (l1:[x1_0,x1_1,x1_2,x1_3,x1_4,x1_5,x1_6,x1_7,x1_8,x1_9,x1_10].all leaf=true):Zal τ [(0,1,y0),(1,11,y1)] [(iv 0),(.v (.string ⟨#[]⟩)),(iv 0),(iv 0),(iv 0),(iv 0),(iv 0),(iv 0),(iv 0),(iv 0),(iv 0),(.v (.string ⟨#[]⟩))]=some [x0_0,x1_0,x1_1,x1_2,x1_3,x1_4,x1_5,x1_6,x1_7,x1_8,x1_9,x1_10]:=by
 simp only[Zal,h0,l0,h1,l1]
 rfl
end
def k250:=Kx 250 []
def c183:AC:=(Sr [Oo 4 (.box 9 1 (t 1)),Mc 6 0] (.seq (Sr [Mv 10 0,Oo 11 (.len false (t 10)),Bc 12 .gtr 11 40] (Cd 12 (Sr [Mc 6 2] .ret) .skip)) (.seq (Sr [Mv 13 0,Oo 14 (.len false (t 13)),Mc 15 0] (.block 0 (.loop (Sr [Bn 16 .lss 15 14] (.seq (Cd 16 .skip (.exit 0)) (.seq (.block 1 (Sr [Oo 17 (.ia 11 (t 13) (t 15)),Oo 18 (.load true 11 (t 17)),Oo 8 (.new 208 11 [Ss,(iv 0),(iv 0),(iv 0),(iv 0),(iv 0),(iv 0),(iv 0),(iv 0),(iv 0),Ss]),⟨none,none,(.store 11 (t 8) (t 18))⟩] (Sr [Oo 19 (.load true 11 (t 8)),Cl 20 169 [(t 19)],Mv 9 20] (Sr [Mv 21 9,Bc 22 .neq 21 0] (Cd 22 (Sr [Mv 23 9,Mv 6 23] .ret) .skip))))) (.reg [Bc 24 .add 15 1,Mv 15 24]))))))) (.seq (.block 2 (Sr [Mv 26 2,Oo 27 (.bin .lss (t 26) (.const (.int .i64 (-64800)))),Mv 28 27,Of 29 28 (mt 2),Of 30 28 (.bin .gtr (t 29) (Ci 64800)),Oo 31 (.pick (t 28) (.const (.bool true)) (t 30)),Mv 25 31] (Cd 25 (Sr [Mc 6 3] .ret) (Sr [Mv 33 0,Oo 34 (.mkfn 250 [(t 4)]),Cl 35 180 [(t 33),(t 34)],Oo 36 (.un .not (t 35)),Mv 32 36] (Cd 32 (Sr [Mc 6 5] .ret) .skip))))) (Sr [Mc 6 0] .ret)))))
def k183:ZbT Tryz.prog 183=some ⟨c183,[(.tmp 6)],37⟩:=by kernel_rfl
def k188:=Kx 188 []
def k184:=Kx 184 []
def c251:AC:=(Sr [Ld 9 1,Oo 10 (.len false (t 9)),Mc 11 0] (.block 0 (.loop (Sr [Bn 12 .lss 11 10] (.seq (Cd 12 .skip (.exit 0)) (.seq (.block 1 (Sr [Oo 13 (.ia 11 (t 9) (t 11)),Oo 14 (.load true 11 (t 13)),Oo 5 (.new 208 11 [Ss,(iv 0),(iv 0),(iv 0),(iv 0),(iv 0),(iv 0),(iv 0),(iv 0),(iv 0),Ss]),⟨none,none,(.store 11 (t 5) (t 14))⟩] (.seq (Sr [Fa 15 0 5,Ld 16 15,Ld 17 2,Bn 18 .neq 16 17] (Cd 18 (.exit 1) .skip)) (Sr [Fa 19 1 5,Ld 20 19,Mv 6 20] (.block 2 (.loop (.seq (Sr [Mv 21 6,Fa 22 2 5,Ld 23 22,Bn 24 .leq 21 23] (Cd 24 .skip (.exit 2))) (.seq (.block 3 (Sr [Mv 28 6,Fa 29 3 5,Ld 30 29,Fa 31 4 5,Oo 32 (.load true 3 (t 31)),Cl 33 244 [(t 28),(t 30),(t 32)],Mv 27 33,Ex 34 27 0,Ex 35 27 1,Oo 7 (.new 66 3 [(iv 0),(iv 0),(iv 0)]),⟨none,none,(.store 3 (t 7) (t 34))⟩,Mv 8 35] (.seq (.drw [Mv 36 0,Oo 37 (.load true 3 (t 7)),Cl 38 113 [(t 37)],Bc 39 .mul 38 86400,Fa 40 7 5,Ld 41 40,Bn 42 .add 39 41,Oo 43 (.load true 11 (t 5)),Oo 44 (.build [(iv 0),Ss,(iv 0),(iv 0),(iv 0),(iv 0),(iv 0),(iv 0),(iv 0),(iv 0),(iv 0),Ss] [(0,(1,(t 42))),(1,(11,(t 43)))])] [false,false] [Oo 45 (.call (t 36) [(t 44)]),Oo 46 (.un .not (t 45))]) (Cd 46 .ret .skip)))) (.reg [Mv 25 6,Bc 26 .add 25 1,Mv 6 26]))))))))) (.reg [Bc 47 .add 11 1,Mv 11 47])))))))
def k251:ZbT Tryz.prog 251=some ⟨c251,[],48⟩:=by kernel_rfl
def okRs (l:List Rul):Prop := ∀ r∈l,r.1.size<=maxLen/\r.2.2.2.2.2.2.2.2.size<=maxLen
def ready1_a :Ac 250 [.agg (rulC r),.rp [sv nm]] h (bv (decide (r.1=nm))):=by
 obtain⟨n,f,t,m,⟨k,w,d⟩,a,c,s,lt⟩:=r
 refine tI' k250 λN hn _ _ hbd=>?_
 simp only[tb'] at hbd ⊢
 refine wr'<|E' (ZaM cv rfl hl0 ha0) pt<|ms<|wr'<|fq<|Vw (Zaa lk gx gt0)<|Vw (Zav lk gt)<|Vw (Ze4 lk lk)<|mw<|Zam<|?_
 exact Zan<|Zbh<|Zae rz<|rT' rfl
end
end Go.Proofs.YthmgnolcfjiicaaGreatDoor
