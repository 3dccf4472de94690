/-
  Part 5 of the proof: own lemmas and contracts on plain data. No condition beyond those that each lemma states.
-/
import Derived.Test.YthmgnolcfjiicaaGreatDoorRy4
import Derived.SizedLaws
import Derived.Test.YthmgnolcfjiicaaGreatDoorCards
import Derived.Test.YthmgnolcfjiicaaGreatDoorTie
import Derived.Lay
import Derived.Handed
import Derived.Shelf.Vars
import Derived.SevenTiedAt
import Derived.LaidSub
import Derived.MakeChecks
set_option linter.all false
set_option maxRecDepth 1000000
set_option maxHeartbeats 4000000
namespace Go.Proofs.YthmgnolcfjiicaaGreatDoor
open Go.Ab
variable {h:AH}{a0 a1 a2 a3 a4 c0:AV}{l:List AV}
section
open Go.Ab Civ
attribute [local simp] Zbl
def diffOf_a {t u:Tab}{f1 f2:Bool}(h1:t.2.length<=1000) (h2:u.2.length<=1000) :
  Ac 40 [.agg [iv t.1.1,iv t.1.2.1,sv t.1.2.2,.sl t.2.length 4 f1 (rows chgC t.2)],.agg [iv u.1.1,iv u.1.2.1,sv u.1.2.2,.sl u.2.length 4 f2 (rows chgC u.2)]] h (patA (Zb8 t u)):=by
 have hh:=hd_le t u
 have ht:=tl_le t u
 refine tI' k40 λN hn hlt _ hbd=>?_
 simp only[tb'] at hbd ⊢
 refine wr'<|E' (ZaM cv rfl hl0 ha0) pt<|E' (ZaM cv rfl hl1 ha1) pt<|E' (ZaR hl2 ha2) pt<|sn'<|Zab<|ZaD<|dg<|Dw (Zaa lk gx gt3)<|Dw (Zaz lk)<|dg<|Dw (Zaa lk gx gt3)<|?_
 refine Dw (Zaz lk)<|Dw vm<|Dw vm<|ZaH<|?_
 refine ZaU ?_
 refine sn'<|wr'<|fq<|Vw (Zad lk gx Zf1 rfl)<|Vw (Zat (ZkE cv rfl))<|E' (ZaR hl3 ha3) pt<|E' (Zai lk cv gx rfl nb rfl ZlM hs3) ptn<|sn'<|?_
 refine Zfg (ι:=Unit) (λ(x:Unit)=>[]++rn' 18 29) (λ(x:Unit)=>[(3,.mk 0 55 6 [iv u.1.1,iv u.1.2.1,sv u.1.2.2,iv (hdOf t u:Int),iv 0,.sl 0 0 true []])]) (λ(x:Unit)=>True) ?_ ?_
 .try simp only[sm',Nat.reduceAdd]
  refine Zag ?_
  refine w_lp (ι:=Nat) (λ(k:Nat)=>[]++rn' 18 29) (λ(k:Nat)=>[(3,.mk 0 55 6 [iv u.1.1,iv u.1.2.1,sv u.1.2.2,iv (k:Int),iv 0,.sl 0 0 true []])]) (λ(k:Nat)=>k<=t.2.length/\k<=u.2.length/\hdOf t u=k+com (t.2.drop k) (u.2.drop k)) (λ(k:Nat)=>t.2.length-k) (0) (by exact⟨Nat.zero_le _,Nat.zero_le _,by simp[hdOf]⟩) ?_
  rintro k hi1
  try simp only[sm',Nat.reduceAdd]
  obtain⟨hk1,hk2,hkc⟩:=hi1
  refine Zab<|Zab<|ZaD<|dg<|Dw (Zaa lk gx gt3)<|Dw vm<|Dw (ZaJ lk lk)<|Dw vm<|?_
  refine dq' (t:=22) gt pt pt (λhg22=>?_) (λhg22=>?_)
  .refine dO<|dg<|dO<|Dw (Zaa lk gx gt3)<|dO<|Dw vm<|dO<|Dw (ZaJ lk lk)<|Dw (Zaj lk lk)<|Dw vm<|?_
   refine dq' (t:=28) gt pt pt (λhg28=>?_) (λhg28=>?_)
   .refine dO<|dg<|dO<|Dw (Zaa lk gx gt3)<|dO<|dg<|dO<|Dw (Zaa lk gx gt3)<|dO<|?_
    refine D' (ZaE lk lk ZaT nb ro om ro rfl) pt ?_
    refine dO<|Dw (Zar lk ZeD rfl)<|dO<|dg<|dO<|Dw (Zaa lk gx gt3)<|dO<|dg<|dO<|Dw (Zaa lk gx gt3)<|dO<|?_
    refine D' (ZaE lk lk ZaT nb ro om ro rfl) pt ?_
    refine dO<|Dw (Zar lk ZeD rfl)<|dO<|Dw (Zic lk lk Ziw)<|Dw (Zaj lk lk)<|ZaH<|?_
    refine ZaU ?_
    refine sn' ?_
    refine cd' lk (λhc1=>?_) (λhc1=>?_)
    .refine za<|Zag<|Zao<|fq<|Vw (Zaa lk gx gt3)<|?_
     refine ad<|fq<|E' (Zai lk cv gx rfl nb rfl Zf2 hs3) ptn<|Zam<|Zau<|Zaw<|?_
     refine lT' (k+1) (by (try dsimp only);exact⟨by omega,by omega,by rw[hkc,ZmA om om (ZjH hc1)];omega⟩)
    refine Zax<|Zas<|Zas<|ZaK<|Zaw<|?_
    have hk0:hdOf t u=k:=by first | (rw[hkc,ZeZ om];simp;done) | (rw[hkc,ZdE om om (λe=>hc1 (by rw[e];simp))];simp;done)
    exact cT' (()) (by trivial) (by refine zz ?_;exact ALe.same wA' (by rw[hk0]))
   refine dn<|dn<|dn<|dn<|dn<|dn<|dn<|dn<|dn<|dn<|dn<|dn<|dn<|Dw (Zak lk lkb)<|?_
   refine ZaH ?_
   refine ZaU ?_
   refine sn'<|ZaV lk<|Zax<|Zas<|Zas<|ZaK<|Zaw<|?_
   have hk0:hdOf t u=k:=by first | (rw[hkc,ZeZ om];simp;done) | (rw[hkc,ZdE om om (λe=>hc1 (by rw[e];simp))];simp;done)
   exact cT' (()) (by trivial) (by refine zz ?_;exact ALe.same wA' (by rw[hk0]))
  refine dn<|dn<|dn<|dn<|Dw (Zak lk lkb)<|Dw vm<|dn<|dn<|dn<|dn<|dn<|dn<|dn<|dn<|?_
  refine dn<|dn<|dn<|dn<|dn<|Dw (Zak lk lkb)<|ZaH<|?_
  refine ZaU ?_
  refine sn'<|ZaV lk<|Zax<|Zas<|Zas<|ZaK<|Zaw<|?_
  have hk0:hdOf t u=k:=by first | (rw[hkc,ZeZ om];simp;done) | (rw[hkc,ZdE om om (λe=>hc1 (by rw[e];simp))];simp;done)
  exact cT' (()) (by trivial) (by refine zz ?_;exact ALe.same wA' (by rw[hk0]))
 rintro x hq6
 try simp only[sm',Nat.reduceAdd]
 refine Zfg (ι:=Unit) (λ(x:Unit)=>[]++rn' 47 41) (λ(x:Unit)=>[(3,.mk 0 55 6 [iv u.1.1,iv u.1.2.1,sv u.1.2.2,iv (hdOf t u:Int),iv (tlOf t u:Int),.sl 0 0 true []])]) (λ(x:Unit)=>True) ?_ ?_
 .try simp only[sm',Nat.reduceAdd]
  refine Zag ?_
  refine w_lp (ι:=Nat) (λ(j:Nat)=>[]++rn' 47 41) (λ(j:Nat)=>[(3,.mk 0 55 6 [iv u.1.1,iv u.1.2.1,sv u.1.2.2,iv (hdOf t u:Int),iv (j:Int),.sl 0 0 true []])]) (λ(j:Nat)=>hdOf t u+j<=t.2.length/\hdOf t u+j<=u.2.length/\tlOf t u=j+com ((t.2.drop (hdOf t u)).reverse.drop j) ((u.2.drop (hdOf t u)).reverse.drop j)) (λ(j:Nat)=>t.2.length-j) (0) (by exact⟨by omega,by omega,by simp[tlOf]⟩) ?_
  rintro j hi2
  try simp only[sm',Nat.reduceAdd]
  obtain⟨hj1,hj2,hjc⟩:=hi2
  refine Zab<|Zab<|ZaD<|dg<|Dw (Zaa lk gx gt3)<|dg<|Dw (Zaa lk gx gt4)<|?_
  refine D' (Zb0 lk lk om om) pt ?_
  refine Dw vm<|Dw (ZaJ lk lk)<|Dw vm<|?_
  refine dq' (t:=54) gt pt pt (λhg54=>?_) (λhg54=>?_)
  .refine dO<|dg<|dO<|Dw (Zaa lk gx gt3)<|dO<|dg<|dO<|Dw (Zaa lk gx gt4)<|dO<|?_
   refine D' (Zb0 lk lk om om) pt ?_
   refine dO<|Dw vm<|dO<|Dw (ZaJ lk lk)<|Dw (Zaj lk lk)<|Dw vm<|?_
   refine dq' (t:=63) gt pt pt (λhg63=>?_) (λhg63=>?_)
   .refine dO<|dg<|dO<|Dw (Zaa lk gx gt3)<|dO<|Dw vm<|dO<|?_
    refine D' (Za2 lk lki om om) pt ?_
    refine dO<|dg<|dO<|Dw (Zaa lk gx gt4)<|dO<|?_
    refine D' (Za2 lk lk om om) pt ?_
    refine d_do gt ?_
    refine D' (ZaE (k:=t.2.length-1-j) lk lk ZaT nb ro om ro rfl) pt ?_
    refine dO<|Dw (Zar lk ZeD rfl)<|dO<|dg<|dO<|Dw (Zaa lk gx gt3)<|dO<|Dw vm<|dO<|?_
    refine D' (Za2 lk lki om om) pt ?_
    refine dO<|dg<|dO<|Dw (Zaa lk gx gt4)<|dO<|?_
    refine D' (Za2 lk lk om om) pt ?_
    refine d_do gt ?_
    refine D' (ZaE (k:=u.2.length-1-j) lk lk ZaT nb ro om ro rfl) pt ?_
    refine dO<|Dw (Zar lk ZeD rfl)<|dO<|Dw (Zic lk lk Ziw)<|Dw (Zaj lk lk)<|ZaH<|?_
    refine ZaU ?_
    refine sn' ?_
    refine cd' lk (λhc2=>?_) (λhc2=>?_)
    .refine za<|Zag<|Zao<|fq<|Vw (Zaa lk gx gt4)<|?_
     refine ad<|fq<|E' (Zai lk cv gx rfl nb rfl Zt0 hs3) ptn<|Zam<|Zau<|Zaw<|?_
     refine lT' (j+1) (by (try dsimp only);exact⟨by omega,by omega,by rw[hjc,ZmA (by simp;omega) (by simp;omega) (by rw[Zii om,Zii om];exact ZjH hc2)];omega⟩)
    refine Zax<|Zas<|Zas<|ZaK<|Zaw<|?_
    have hj0:tlOf t u=j:=by first | (rw[hjc,ZeZ (by simp;omega)];simp;done) | (rw[hjc,ZdE (by simp;omega) (by simp;omega) (by rw[Zii om,Zii om];exact λe=>hc2 (by rw[e];simp))];simp;done)
    exact cT' (()) (by trivial) (by refine zz ?_;exact ALe.same wA' (by rw[hj0]))
   refine dn<|dn<|dn<|dn<|dn<|dn<|dn<|dn<|dn<|dn<|dn<|dn<|dn<|dn<|?_
   refine dn<|dn<|dn<|dn<|dn<|Dw (Zak lk lkb)<|ZaH<|?_
   refine ZaU ?_
   refine sn'<|ZaV lk<|Zax<|Zas<|Zas<|ZaK<|Zaw<|?_
   have hj0:tlOf t u=j:=by first | (rw[hjc,ZeZ (by simp;omega)];simp;done) | (rw[hjc,ZdE (by simp;omega) (by simp;omega) (by rw[Zii om,Zii om];exact λe=>hc2 (by rw[e];simp))];simp;done)
   exact cT' (()) (by trivial) (by refine zz ?_;exact ALe.same wA' (by rw[hj0]))
  refine dn<|dn<|dn<|dn<|dn<|dn<|dn<|Dw (Zak lk lkb)<|Dw vm<|dn<|dn<|dn<|dn<|dn<|?_
  refine dn<|dn<|dn<|dn<|dn<|dn<|dn<|dn<|dn<|dn<|dn<|dn<|dn<|dn<|?_
  refine Dw (Zak lk lkb)<|ZaH<|?_
  refine ZaU ?_
  refine sn'<|ZaV lk<|Zax<|Zas<|Zas<|ZaK<|Zaw<|?_
  have hj0:tlOf t u=j:=by first | (rw[hjc,ZeZ (by simp;omega)];simp;done) | (rw[hjc,ZdE (by simp;omega) (by simp;omega) (by rw[Zii om,Zii om];exact λe=>hc2 (by rw[e];simp))];simp;done)
  exact cT' (()) (by trivial) (by refine zz ?_;exact ALe.same wA' (by rw[hj0]))
 rintro x hq9
 try simp only[sm',Nat.reduceAdd]
 refine Zab<|wr'<|fq<|Vw (Zaa lk gx gt3)<|mw<|Zam<|?_
 refine ZaN (ALe.own0Cell (st':=4) (ty:=104) gx gt5 hl4 pt5 (Eq.trans (congrArg (λz=>List.set z _ _) ha4) hs3)) ?_
 refine Zag ?_
 refine Zd1 (ι:=Nat×Nat) (λ⟨i,v⟩=>[(8,iv (i:Int))]++rn' 90 18) (λ⟨i,v⟩=>[(3,.mk 0 55 6 [iv u.1.1,iv u.1.2.1,sv u.1.2.2,iv (hdOf t u:Int),iv (tlOf t u:Int),.own (N+4) v ((u.2.take i).drop (hdOf t u)).length]),(4,.mk v 104 4 (rows chgC ((u.2.take i).drop (hdOf t u))))]) (λ⟨i,v⟩=>hdOf t u<=i/\i<=u.2.length-tlOf t u) (λ⟨i,v⟩=>u.2.length-i) (⟨hdOf t u,0⟩) (by exact⟨Nat.le_refl _,by omega⟩) (by try simp only[sm',Nat.reduceAdd];exact ALe.same wA' (by rw[show (u.2.take (hdOf t u)).drop (hdOf t u)=[] from by simp];rfl)) ?_
 rintro⟨i,v⟩ hi3
 try simp only[sm',Nat.reduceAdd]
 obtain⟨hi1,hi2⟩:=hi3
 refine Zab<|wm<|mw<|fq<|Vw (Zaa lk gx gt4)<|?_
 refine V' (Za2 lk lk om om) pt ?_
 refine Vw (ZaJ lk lk)<|sn'<|?_
 refine cd' lk (λhc3=>?_) (λhc3=>?_)
 .have hst:(u.2.take (i+1)).drop (hdOf t u)=(u.2.take i).drop (hdOf t u)++[u.2[i]]:=by rw[List.take_succ_eq_append_getElem om,List.drop_append_of_le_length (by rw[List.length_take];omega)]
  refine za<|Zab<|Zag<|ZaD<|dg<|Dw (Zaa lk gx gt5)<|dg<|Dw (Zaa lk gx gt3)<|Dw vm<|?_
  refine D' (ZaE lk lk ZaT nb ro om ro rfl) pt ?_
  refine Dw (Zar lk ZeD rfl)<|ZcI rfl rfl (hlk hn rfl) (ZeR (Zkf cv rfl)) pt ZxL<|ZaH<|?_
  refine ZcH Zt1 ?_
  refine E' (Zby (Zbm lk (hga hn rfl) rfl ZeD nb) lk (hga hn rfl) (Za1 _) (by rw[List.length_drop,List.length_take];omega) rfl hs4) pt ?_
  refine fq<|E' (Zai lk cv gx rfl nb rfl ZtZ hs3) ptn<|Zam<|Zau<|Zan<|Zao<|mw<|?_
  refine ad<|mw<|Zam<|Zaw<|?_
  refine lU' (⟨i+1,v+1⟩) (by (try dsimp only);exact⟨by omega,by omega⟩) (by refine zz ?_;exact bk' 5 hn hlt (by rw[hst,ZaG,Zbw,List.length_append];rfl))
 refine Zax<|Zas<|Zas<|ZaK<|?_
 have hi0:u.2.length-tlOf t u=i:=by omega
 subst hi0
 refine ZaN (ALe.iceCellR (hga hn rfl) (hga hn rfl) om gt5 (List.take_of_length_le (by rw[Za1];exact Nat.le_refl _)) (by rw[Za1];exact Nat.le_refl _) pt5 hs4 hs3) ?_
 exact wr'<|Vw (Zad lk gx ZlL rfl)<|E' (Zai lk cv gx rfl nb rfl ZlM hs2) ptn<|sr<|Zae (rs1 (rr_c gt gx (ld1 ZlL rfl)))<|rT' rfl
end
section
open Go.Ab Go.RowKit Civ
attribute [local simp] Zbl Zcz Zbq Zgb ZcM
section
def Zj8 {τ:Operand->AV}{y0:Operand}{x0_0:AV}(h0:Zaq (τ y0)=some [x0_0]) (l0:[x0_0].all leaf=true):Zal τ [(3,1,y0)] [(.sl 0 0 true []),(.sl 0 0 true []),(.sl 0 0 true []),(.sl 0 0 true [])]=some [(.sl 0 0 true []),(.sl 0 0 true []),(.sl 0 0 true []),x0_0]:=by
 simp only[Zal,h0,l0]
 rfl
def ZlH {c1 c2 c3:AV}:setCells (a0::a1::a2::a3::l) 0 [c0,c1,c2,c3]=c0::c1::c2::c3::l:=rfl
def ZiE {τ:Operand->AV}{y0:Operand}{x0_0:AV}(h0:Zaq (τ y0)=some [x0_0]) (l0:[x0_0].all leaf=true):Zal τ [(0,1,y0)] [(.v (.string ⟨#[]⟩))]=some [x0_0]:=by
 simp only[Zal,h0,l0]
 rfl
def Zj7 { e:Ent}:([]:AH)++[e]=[e]:=rfl
def Zh1 {e0 e1 e2 e3 e4 e5 e6 d0:Ent}:([e0,e1,e2,e3,e4,e5,e6]:AH)++[d0]=[e0,e1,e2,e3,e4,e5,e6,d0]:=rfl
def ZxE :(a0::l).take 1=[a0]:=rfl
def ZtM :setCells (a0::l) 0 [c0]=c0::l:=rfl
def Zoi :(a0::a1::a2::a3::a4::l).take 5=[a0,a1,a2,a3,a4]:=rfl
def ZiD {τ:Operand->AV}{y0:Operand}{x0_0 x0_1 x0_2 x0_3 x0_4:AV}(h0:Zaq (τ y0)=some [x0_0,x0_1,x0_2,x0_3,x0_4]) (l0:[x0_0,x0_1,x0_2,x0_3,x0_4].all leaf=true):Zal τ [(0,5,y0)] [(.v (.string ⟨#[]⟩)),(iv 0),(iv 0),(.v (.string ⟨#[]⟩)),(.sl 0 0 true [])]=some [x0_0,x0_1,x0_2,x0_3,x0_4]:=by
 simp only[Zal,h0,l0]
 rfl
def ZtL :setCells (a0::a1::l) 1 [c0]=a0::c0::l:=rfl
def Zhd :(a0::a1::a2::a3::l).take 4=[a0,a1,a2,a3]:=rfl
def Zh3 {τ:Operand->AV}{y0 y1:Operand}{x0_0 x1_0 x1_1 x1_2 x1_3 x1_4 x1_5:AV}(h0:Zaq (τ y0)=some [x0_0]) (l0:[x0_0].all leaf=true) (h1:Zaq (τ y1)=some [x1_0,x1_1,x1_2,x1_3,x1_4,x1_5]) (l1:[x1_0,x1_1,x1_2,x1_3,x1_4,x1_5].all leaf=true):Zal τ [(0,1,y0),(1,6,y1)] [(.v (.string ⟨#[]⟩)),(iv 0),(iv 0),(.v (.string ⟨#[]⟩)),(iv 0),(iv 0),(.sl 0 0 true [])]=some [x0_0,x1_0,x1_1,x1_2,x1_3,x1_4,x1_5]:=by
 simp only[Zal,h0,l0,h1,l1]
 rfl
def Zh2 {τ:Operand->AV}{y0:Operand}{x0_0 x0_1 x0_2 x0_3 x0_4 x0_5 x0_6:AV}(h0:Zaq (τ y0)=some [x0_0,x0_1,x0_2,x0_3,x0_4,x0_5,x0_6]) (l0:[x0_0,x0_1,x0_2,x0_3,x0_4,x0_5,x0_6].all leaf=true):Zal τ [(0,7,y0)] [(.v (.string ⟨#[]⟩)),(iv 0),(iv 0),(.v (.string ⟨#[]⟩)),(iv 0),(iv 0),(.sl 0 0 true [])]=some [x0_0,x0_1,x0_2,x0_3,x0_4,x0_5,x0_6]:=by
 simp only[Zal,h0,l0]
 rfl
def ZxD {a5 a6:AV}:(a0::a1::a2::a3::a4::a5::a6::l).take 7=[a0,a1,a2,a3,a4,a5,a6]:=rfl
def ZtK :setCells (a0::a1::a2::l) 2 [c0]=a0::a1::c0::l:=rfl
def ZlG :((a0::a1::a2::a3::l).drop 0).take 4=[a0,a1,a2,a3]:=rfl
def Zoh {a5:AV}:(a0::a1::a2::a3::a4::a5::l).take 6=[a0,a1,a2,a3,a4,a5]:=rfl
def Zoj :(a0::a1::l).take 2=[a0,a1]:=rfl
def ZtN {a0 b0:ByteArray}{a1 b1:ByteArray}:Za7 [.str,.str] [sv a0,sv a1] [sv b0,sv b1]=some (decide (a0=b0/\a1=b1)):=by
 simp only[Za7,ZcY,if_true,ZbP,Option.some.injEq]
 simp only[Bool.decide_and,Bool.and_true]
 try (congr 1 <;> simp)
 try rfl
end
def k10:=Kx 10 [.e [] 10 [],.e [] 9 [false,false,false],.e [] 10 [],.e [] 8 [false,false,false],.e [] 14 [],.e [] 23 [false,false,false]]
def c15:AC:=(Sr [Oo 2 (.box 29 4 (t 0)),Oo 3 (.box 29 4 (t 1)),Mb 4 false] (.seq (Sr [Fa 8 0 2,Ld 9 8,Oo 10 (.len false (t 9)),Fa 11 0 3,Ld 12 11,Oo 13 (.len false (t 12)),Bn 14 .neq 10 13,Mv 15 14,Of 16 15 (.fa 1 (t 2)),Of 17 15 (.load false 1 (t 16)),Of 18 15 (.fa 1 (t 3)),Of 19 15 (.load false 1 (t 18)),Of 20 15 (.call (.func 49) [(t 17),(t 19)]),Of 21 15 (.un .not (t 20)),Oo 22 (.pick (t 15) (.const (.bool true)) (t 21)),Mv 23 22,Of 24 23 (.fa 2 (t 2)),Of 25 23 (.load false 1 (t 24)),Of 26 23 (.len false (t 25)),Of 27 23 (.fa 2 (t 3)),Of 28 23 (.load false 1 (t 27)),Of 29 23 (.len false (t 28)),Of 30 23 (.bin .neq (t 26) (t 29)),Oo 31 (.pick (t 23) (.const (.bool true)) (t 30)),Mv 32 31,Of 33 32 (.fa 3 (t 2)),Of 34 32 (.load false 1 (t 33)),Of 35 32 (.len false (t 34)),Of 36 32 (.fa 3 (t 3)),Of 37 32 (.load false 1 (t 36)),Of 38 32 (.len false (t 37)),Of 39 32 (.bin .neq (t 35) (t 38)),Oo 40 (.pick (t 32) (.const (.bool true)) (t 39))] (Cd 40 (Sr [Mb 4 false] .ret) .skip)) (.seq (Sr [Mc 5 0] (.block 0 (.loop (.seq (Sr [Mv 41 5,Fa 42 0 2,Ld 43 42,Oo 44 (.len false (t 43)),Bn 45 .lss 41 44] (Cd 45 .skip (.exit 0))) (.seq (.block 1 (Sd [Fa 48 0 2,Ld 49 48,Mv 50 5,Oo 51 (.ia 1 (t 49) (t 50)),Ld 52 51,Fa 53 0 3,Ld 54 53,Mv 55 5,Oo 56 (.ia 1 (t 54) (t 55)),Ld 57 56,Bn 58 .neq 52 57] (Cd 58 (Sr [Mb 4 false] .ret) .skip))) (.reg [Mv 46 5,Bc 47 .add 46 1,Mv 5 47])))))) (.seq (Sr [Mc 6 0] (.block 2 (.loop (.seq (Sr [Mv 59 6,Fa 60 2 2,Ld 61 60,Oo 62 (.len false (t 61)),Bn 63 .lss 59 62] (Cd 63 .skip (.exit 2))) (.seq (.block 3 (Sd [Fa 66 2 2,Ld 67 66,Mv 68 6,Oo 69 (.ia 7 (t 67) (t 68)),Fa 70 0 69,Ld 71 70,Fa 72 2 3,Ld 73 72,Mv 74 6,Oo 75 (.ia 7 (t 73) (t 74)),Fa 76 0 75,Ld 77 76,Bn 78 .neq 71 77,Mv 79 78,Of 80 79 (.fa 2 (t 2)),Of 81 79 (.load false 1 (t 80)),Of 82 79 (mt 6),Of 83 79 (.ia 7 (t 81) (t 82)),Of 84 79 (.fa 1 (t 83)),Of 85 79 (.load true 6 (t 84)),Of 86 79 (.fa 2 (t 3)),Of 87 79 (.load false 1 (t 86)),Of 88 79 (mt 6),Of 89 79 (.ia 7 (t 87) (t 88)),Of 90 79 (.fa 1 (t 89)),Of 91 79 (.load true 6 (t 90)),Of 92 79 (.call (.func 50) [(t 85),(t 91)]),Of 93 79 (.un .not (t 92)),Oo 94 (.pick (t 79) (.const (.bool true)) (t 93))] (Cd 94 (Sr [Mb 4 false] .ret) .skip))) (.reg [Mv 64 6,Bc 65 .add 64 1,Mv 6 65])))))) (.seq (Sr [Mc 7 0] (.block 4 (.loop (.seq (Sr [Mv 95 7,Fa 96 3 2,Ld 97 96,Oo 98 (.len false (t 97)),Bn 99 .lss 95 98] (Cd 99 .skip (.exit 4))) (.seq (.block 5 (Sd [Fa 102 3 2,Ld 103 102,Mv 104 7,Oo 105 (.ia 2 (t 103) (t 104)),Oo 106 (.load true 2 (t 105)),Fa 107 3 3,Ld 108 107,Mv 109 7,Oo 110 (.ia 2 (t 108) (t 109)),Oo 111 (.load true 2 (t 110)),Oo 112 (.eqs true [.str,.str] (t 106) (t 111))] (Cd 112 (Sr [Mb 4 false] .ret) .skip))) (.reg [Mv 100 7,Bc 101 .add 100 1,Mv 7 101])))))) (Sr [Mb 4 true] .ret))))))
def k15:ZbT Tryz.prog 15=some ⟨c15,[(.tmp 4)],113⟩:=by kernel_rfl
def ZrV {t:List Nam}{nm:ByteArray}(h:¬atN t nm<0) : ∃ hp:idxN t nm<t.length,atN t nm=(idxN t nm:Int)/\ZaP t nm=some t[idxN t nm].2:=by
 have hh:=Zem h
 obtain⟨hp,e⟩:=Zip hh
 refine⟨hp,?_,by rw[Zmm,List.getElem?_eq_getElem hp];rfl⟩
 exact if_pos hp
def rupd_a {r s:Rel}{f1 f2 f3 f4:Bool}(hr:ZaQ r=0) (hs:ZaQ s=0) :
  Ac 10 [.agg [.sl r.1.length 5 f1 (rows namC r.1),.sl r.2.length 2 f2 (rows lnkC r.2)],.agg [.sl s.1.length 5 f3 (rows namC s.1),.sl s.2.length 2 false (rows lnkC s.2)]] h (.agg (updC (betU r s))):=by
 obtain⟨a1,a2,a3,a4,a5,a6⟩:=ZbJ hr
 obtain⟨b1,b2,b3,b4,b5,b6⟩:=ZbJ hs
 refine tI' k10 λN hn hlt _ hbd=>?_
 simp only[tb'] at hbd ⊢
 refine wr'<|E' (ZaM cv rfl hl0 ha0) pt<|E' (ZaM cv rfl hl1 ha1) pt<|E' (ZaR hl2 ha2) pt<|sn'<|wr'<|fq<|Vw (Zaa lk gx gt1)<|Vw (Zat (Zj8 cv rfl))<|E' (ZaR hl3 ha3) pt<|E' (Zai lk cv gx rfl nb rfl ZlH hs3) ptn<|?_
 refine Zam ?_
 refine ZaN (ALe.trans (ALe.own0Cell (st':=1) (ty:=9) gx gt0 hl4 pt0 (Eq.trans (congrArg (λz=>List.set z _ _) ha4) hs3)) (ALe.trans (ALe.own0Cell (st':=5) (ty:=45) gx gt1 hl5 pt1 (Eq.trans (congrArg (λz=>List.set z _ _) ha5) hs3)) (ALe.own0Cell (st':=7) (ty:=72) gx gt2 hl6 pt2 (Eq.trans (congrArg (λz=>List.set z _ _) ha6) hs3)))) ?_
 refine Zab<|wk'<|Zag<|?_
 refine w_lp (ι:=Nat×Nat) (λ⟨i,v⟩=>[(6,iv (i:Int))]++rn' 12 28) (λ⟨i,v⟩=>[(3,.mk 0 29 4 [.own (N+4) v (betD (r.1.take i) s.1).length,.own (N+5) 0 0,.own (N+6) 0 0,.sl s.2.length 2 false (rows lnkC s.2)]),(4,.mk v 9 1 (rows strC (betD (r.1.take i) s.1)))]) (λ⟨i,v⟩=>i<=r.1.length) (λ⟨i,v⟩=>r.1.length-i) (⟨0,0⟩) (by exact Nat.zero_le _) ?_
 rintro⟨i,v⟩ hi1
 try simp only[sm',Nat.reduceAdd]
 replace hi1:i<=r.1.length:=hi1
 have hdl:=ZrT (r.1.take i) s.1
 rw[List.length_take] at hdl
 refine Zab<|wm<|fq<|Vw (Zaa lk gx gt0)<|Vw (Zaz lk)<|Vw (ZaJ lk lk)<|sn'<|?_
 refine cd' lk (λhc1=>?_) (λhc1=>?_)
 .have hi:i<r.1.length:=by omega
  have hst:=Zn2 (r.1.take i) s.1 r.1[i]
  rw[<-List.take_succ_eq_append_getElem hi] at hst
  refine za<|Zab<|Zag<|Zab<|ZaD<|dg<|Dw (Zaa lk gx gt0)<|dg<|Dw (Zaa lk gx gt0)<|Dw vm<|?_
  refine D' (ZaE lk lk ZaC nb ro om ro rfl) pt ?_
  refine Dw (ZaZ lk dp0)<|Dw (Zav lk gt)<|?_
  refine ZaB mp (λhE hX=>Zcs) pt ?_
  refine Dw (ZaJ lk lki)<|ZaH<|?_
  refine ZaU ?_
  refine sn' ?_
  refine cd' lk (λhc2=>?_) (λhc2=>?_)
  .have hb:hasN s.1 r.1[i].1=false:=Zgd hc2
   rw[if_neg (by rw[hb];simp)] at hst
   refine ZaD<|dg<|Dw (Zaa lk gx gt0)<|dg<|Dw (Zaa lk gx gt0)<|Dw vm<|?_
   refine D' (ZaE lk lk ZaC nb ro om ro rfl) pt ?_
   refine Dw (ZaZ lk dp0)<|Dw (Zav lk gt)<|ZcI rfl rfl (hlk hn rfl) (ZeR (ZiE cv rfl)) pt Zj7<|ZaH<|?_
   refine ZcH Zh1 ?_
   refine E' (Zby (Zbm lk gx rfl ZxE nb) lk gx (Zdp _) om rfl hs4) pt ?_
   refine fq<|E' (Zai lk cv gx rfl nb rfl ZtM hs3) ptn<|Zam<|Zau<|Zan<|Zao<|mw<|?_
   refine ad<|mw<|Zam<|Zaw<|?_
   refine lU' (⟨i+1,v+1⟩) (by (try dsimp only);omega) (by refine zz ?_;exact bk' 7 hn hlt (by rw[hst,List.length_append,ZaG];rfl) (hT:=by simp[AV.lt,AV.ltL,Ent.lt]) (hE:=by simp[AV.lt,AV.ltL,Ent.lt]))
  have hb:hasN s.1 r.1[i].1=true:=Zem hc2
  rw[if_pos hb,List.append_nil] at hst
  refine Zay<|Zau<|Zan<|Zao<|mw<|?_
  refine ad<|mw<|Zam<|Zaw<|?_
  refine lU' (⟨i+1,v⟩) (by (try dsimp only);omega) (by refine zz ?_;exact ALe.same wA' (by (rw[hst];try rfl)))
 rw[List.take_of_length_le (show r.1.length<=i by omega)] at *
 refine Zax<|Zas<|Zas<|ZaK<|Zan<|Zab<|wk'<|Zag<|?_
 refine w_lp (ι:=Nat×Nat×Nat) (λ⟨j,p,q⟩=>[(7,iv (j:Int)),(8,.any)]++rn' 40 67) (λ⟨j,p,q⟩=>[(3,.mk 0 29 4 [.own (N+4) v (betD r.1 s.1).length,.own (N+5) p (betP r.1 (s.1.take j)).length,.own (N+6) q (betT Zb8 r.1 (s.1.take j)).length,.sl s.2.length 2 false (rows lnkC s.2)]),(5,.mk p 45 5 (rows namC (betP r.1 (s.1.take j)))),(6,.mk q 72 7 (rows nptC (betT Zb8 r.1 (s.1.take j))))]) (λ⟨j,p,q⟩=>j<=s.1.length) (λ⟨j,p,q⟩=>s.1.length-j) (⟨0,0,0⟩) (by exact Nat.zero_le _) ?_
 rintro⟨j,p,q⟩ hi2
 try simp only[sm',Nat.reduceAdd]
 replace hi2:j<=s.1.length:=hi2
 have hpl:=ZmC r.1 (s.1.take j)
 have hql:=ZrS r.1 (s.1.take j)
 rw[List.length_take] at hpl hql
 refine Zab<|wm<|fq<|Vw (Zaa lk gx gt0)<|Vw (Zaz lk)<|Vw (ZaJ lk lk)<|sn'<|?_
 refine cd' lk (λhc3=>?_) (λhc3=>?_)
 .have hj:j<s.1.length:=by omega
  have hsP:=Zn1 r.1 (s.1.take j) s.1[j]
  have hsT:=Zn0 r.1 (s.1.take j) s.1[j]
  rw[<-List.take_succ_eq_append_getElem hj] at hsP hsT
  have hlu:=Zcc (b3 _ (List.getElem_mem hj)).2
  refine za<|Zab<|Zag<|Zab<|ZaD<|dg<|Dw (Zaa lk gx gt0)<|dg<|Dw (Zaa lk gx gt0)<|Dw vm<|?_
  refine D' (ZaE lk lk ZaC nb ro om ro rfl) pt ?_
  refine Dw (ZaZ lk dp0)<|Dw (Zav lk gt)<|?_
  refine ZaB mp (λhE hX=>Zcs) pt ?_
  refine Dw vm<|ZaH<|?_
  refine ZaU ?_
  refine sn'<|wm<|Vw (ZaJ lk lki)<|sn'<|?_
  refine cd' lk (λhc4=>?_) (λhc4=>?_)
  .have hb:hasN r.1 s.1[j].1=false:=Zgd hc4
   have hF:=Zw4 hb
   rw[if_neg (by rw[hb];simp)] at hsP
   rw[hF] at hsT
   replace hsT:betT Zb8 r.1 (s.1.take (j+1))=betT Zb8 r.1 (s.1.take j):=hsT.trans (List.append_nil _)
   refine ZaD<|dg<|Dw (Zaa lk gx gt1)<|dg<|Dw (Zaa lk gx gt0)<|Dw vm<|?_
   refine D' (ZaE lk lk ZaC nb ro om ro rfl) pt ?_
   refine Dw (Zar lk Zoi rfl)<|ZcI rfl rfl (hlk hn rfl) (ZeR (ZiD cv rfl)) pt Zj7<|ZaH<|?_
   refine ZcH Zh1 ?_
   refine E' (Zby (Zbm lk gx rfl Zoi nb) lk gx (Zba _) om rfl hs5) pt ?_
   refine fq<|E' (Zai lk cv gx rfl nb rfl ZtL hs3) ptn<|Zam<|Zau<|Zan<|Zao<|mw<|?_
   refine ad<|mw<|Zam<|Zaw<|?_
   refine lU' (⟨j+1,p+1,q⟩) (by (try dsimp only);omega) (by refine zz ?_;exact bk' 7 hn hlt (by rw[hsP,hsT,List.length_append,ZaG];rfl) (hT:=by simp[AV.lt,AV.ltL,Ent.lt]) (hE:=by simp[AV.lt,AV.ltL,Ent.lt]))
  have hb:hasN r.1 s.1[j].1=true:=Zem hc4
  obtain⟨hp,hpe,hkl⟩:=ZrV hc4
  have hlr:=Zcc (a3 _ (List.getElem_mem hp)).2
  rw[if_pos hb,List.append_nil] at hsP
  rw[hpe]
  refine Zab<|ZaD<|dg<|Dw (Zaa lk gx gt0)<|Dw vm<|?_
  refine D' (ZaE (k:=idxN r.1 s.1[j].1) lk lk ZaC nb ro om ro rfl) pt ?_
  refine Dw (ZaZ lk dp1)<|Dw (Zar lk Zhd rfl)<|dg<|Dw (Zaa lk gx gt0)<|Dw vm<|?_
  refine D' (ZaE lk lk ZaC nb ro om ro rfl) pt ?_
  refine Dw (ZaZ lk dp1)<|Dw (Zar lk Zhd rfl)<|?_
  refine ZaB mp (λhE hX=>Zhm (t:=r.1[idxN r.1 s.1[j].1].2) (u:=s.1[j].2)) pt ?_
  refine Dw (ZaF lk)<|ZaH<|?_
  refine ZaU ?_
  refine sn' ?_
  refine ZaA lk (λhc5=>?_) (λhc5=>?_)
  .have hne:¬r.1[idxN r.1 s.1[j].1].2=s.1[j].2:=by simpa using hc5
   have hF:betF Zb8 r.1 s.1[j]=some (s.1[j].1,Zb8 r.1[idxN r.1 s.1[j].1].2 s.1[j].2):=by unfold betF;rw[hkl];dsimp only;rw[if_neg hne]
   rw[hF] at hsT
   refine ZaD<|dg<|Dw (Zaa lk gx gt2)<|dg<|Dw (Zaa lk gx gt0)<|Dw vm<|?_
   refine D' (ZaE lk lk ZaC nb ro om ro rfl) pt ?_
   refine Dw (ZaZ lk dp0)<|Dw (Zav lk gt)<|dg<|Dw (Zaa lk gx gt0)<|Dw vm<|?_
   refine D' (ZaE (k:=idxN r.1 s.1[j].1) lk lk ZaC nb ro om ro rfl) pt ?_
   refine Dw (ZaZ lk dp1)<|Dw (Zar lk Zhd rfl)<|dg<|Dw (Zaa lk gx gt0)<|Dw vm<|?_
   refine D' (ZaE lk lk ZaC nb ro om ro rfl) pt ?_
   refine Dw (ZaZ lk dp1)<|Dw (Zar lk Zhd rfl)<|?_
   refine ZaB mp (λhE hX=>diffOf_a (t:=r.1[idxN r.1 s.1[j].1].2) (u:=s.1[j].2) om om) pt ?_
   refine Dw (Zat (Zh3 cv rfl cv rfl))<|ZcI rfl rfl (hlk hn rfl) (ZeR (Zh2 cv rfl)) pt Zj7<|ZaH<|?_
   refine ZcH Zh1 ?_
   refine E' (Zby (Zbm lk gx rfl ZxD nb) lk gx (Zhu _) om rfl hs6) pt ?_
   refine fq<|E' (Zai lk cv gx rfl nb rfl ZtK hs3) ptn<|Zam<|Zau<|Zan<|Zao<|mw<|?_
   refine ad<|mw<|Zam<|Zaw<|?_
   refine lU' (⟨j+1,p,q+1⟩) (by (try dsimp only);omega) (by refine zz ?_;exact bk' 7 hn hlt (by rw[hsP,hsT,List.length_append,ZaG];rfl) (hT:=by simp[AV.lt,AV.ltL,Ent.lt]) (hE:=by simp[AV.lt,AV.ltL,Ent.lt]))
  have hne:r.1[idxN r.1 s.1[j].1].2=s.1[j].2:=by simpa using hc5
  have hF:betF Zb8 r.1 s.1[j]=none:=by unfold betF;rw[hkl];dsimp only;rw[if_pos hne]
  rw[hF] at hsT
  replace hsT:betT Zb8 r.1 (s.1.take (j+1))=betT Zb8 r.1 (s.1.take j):=hsT.trans (List.append_nil _)
  refine Zay<|Zau<|Zan<|Zao<|mw<|?_
  refine ad<|mw<|Zam<|Zaw<|?_
  refine lU' (⟨j+1,p,q⟩) (by (try dsimp only);omega) (by refine zz ?_;exact ALe.same wA' (by (rw[hsP,hsT];try rfl)))
 rw[List.take_of_length_le (show s.1.length<=j by omega)] at *
 refine Zax<|Zas<|Zas<|ZaK<|?_
 refine ZaN (ALe.trans (ALe.iceCellR (hga hn rfl) (hga hn rfl) om gt0 (List.take_of_length_le (by rw[Zdp];exact Nat.le_refl _)) (by rw[Zdp];exact Nat.le_refl _) pt0 hs4 hs3) (ALe.trans (ALe.iceCellR (hga hn rfl) (hga hn rfl) om gt1 (List.take_of_length_le (by rw[Zba];exact Nat.le_refl _)) (by rw[Zba];exact Nat.le_refl _) pt1 hs5 hs3) (ALe.iceCellR (hga hn rfl) (hga hn rfl) om gt2 (List.take_of_length_le (by rw[Zhu];exact Nat.le_refl _)) (by rw[Zhu];exact Nat.le_refl _) pt2 hs6 hs3))) ?_
 exact wr'<|Vw (Zad lk gx ZlG rfl)<|E' (Zai lk cv gx rfl nb rfl ZlH hs2) ptn<|sr<|Zae (rs1 (rr_c gt gx (ld1 ZlG rfl)))<|rT' rfl
def sameN_r {t:List Nam}:Ac 49 [.sl t.length 5 false (rows namC t),.sl t.length 5 false (rows namC t)] h (bv true):=by
 have:=Zih (t:=t) (u:=t) (f1:=false) (f2:=false) (h:=h)
 rw[decide_eq_true rfl] at this
 exact this
def sameP_r {p:Pat}:Ac 50 [.agg [iv p.1.1,iv p.1.2.1,sv p.1.2.2,iv p.2.1,iv p.2.2.1,chS p.2.2.2],.agg [iv p.1.1,iv p.1.2.1,sv p.1.2.2,iv p.2.1,iv p.2.2.1,chS p.2.2.2]] h (bv true):=by
 have:=sameP_a (p:=p) (q:=p) (f1:=false) (f2:=false) (h:=h)
 rw[decide_eq_true rfl] at this
 exact this
def ZuU {u:Upd}:Ac 15 [.agg (updC u),.agg (updC u)] h (bv true):=by
 refine tI' k15 λN hn _ _ hbd=>?_
 simp only[tb'] at hbd ⊢
 refine wr'<|E' (ZaM cv rfl hl0 ha0) pt<|E' (ZaM cv rfl hl1 ha1) pt<|ms<|Zab<|wr'<|fq<|Vw (Zaa lk gx gt0)<|Vw (Zaz lk)<|fq<|?_
 refine Vw (Zaa lk gx gt0)<|Vw (Zaz lk)<|Vw (ZaY lk lk)<|mw<|?_
 refine Zeh (t:=15) gt (b:=false) (by exact decide_eq_false (by simp)) pt ?_
 refine sd<|fq<|sd<|Vw (Zaa lk gx gt1)<|sd<|fq<|sd<|Vw (Zaa lk gx gt1)<|sd<|Zac mp (sameN_r) pt<|sd<|Vw (ZaF lk)<|Vw (Zak lk lk)<|mw<|?_
 refine sd<|fq<|sd<|Vw (Zaa lk gx gt2)<|sd<|Vw (Zaz lk)<|sd<|fq<|sd<|Vw (Zaa lk gx gt2)<|sd<|Vw (Zaz lk)<|sd<|Vw (ZaY lk lk)<|?_
 refine Vw (Zak lk lk)<|mw<|?_
 refine Zeh (t:=32) gt (b:=false) (by exact decide_eq_false (by simp)) pt ?_
 refine sd<|fq<|sd<|Vw (Zaa lk gx gt3)<|sd<|Vw (Zaz lk)<|sd<|fq<|sd<|Vw (Zaa lk gx gt3)<|sd<|Vw (Zaz lk)<|sd<|Vw (ZaY lk lk)<|?_
 refine Vw (Zak lk lk)<|sn'<|?_
 refine Zcr lk (by exact decide_eq_false (by simp)) ?_
 refine za<|Zab<|wk'<|Zag<|?_
 refine w_lp (ι:=Nat) (λ(i:Nat)=>[(5,iv (i:Int)),(4,.any)]++rn' 41 18) (λ(i:Nat)=>[]) (λ(i:Nat)=>i<=u.1.length) (λ(i:Nat)=>u.1.length-i) (0) (by exact Nat.zero_le _) ?_
 rintro i hi1
 try simp only[sm',Nat.reduceAdd]
 replace hi1:i<=u.1.length:=hi1
 refine Zab<|wm<|fq<|Vw (Zaa lk gx gt0)<|Vw (Zaz lk)<|Vw (ZaJ lk lk)<|sn'<|?_
 refine cd' lk (λhc2=>?_) (λhc2=>?_)
 .have hi:i<u.1.length:=by omega
  refine za<|Zab<|Zag<|Zab<|ZaD<|dg<|Dw (Zaa lk gx gt0)<|Dw vm<|?_
  refine D' (ZaE lk lk ZgF nb ro om ro rfl) pt ?_
  refine Dw (Zav lk gt)<|dg<|Dw (Zaa lk gx gt0)<|Dw vm<|?_
  refine D' (ZaE lk lk ZgF nb ro om ro rfl) pt ?_
  refine D' (Zav lk gt) pt ?_
  refine D' ((by first | exact ZaY lk lk | exact Zd2 lk lk)) pt ?_
  refine ZaH ?_
  refine ZaU ?_
  refine sn' ?_
  refine Zcr lk (by exact decide_eq_false (by simp)) ?_
  refine Zay<|Zau<|Zan<|Zao<|mw<|?_
  refine ad<|mw<|Zam<|Zaw<|?_
  refine lT' (i+1) (by (try dsimp only);omega)
 refine Zax<|Zas<|Zas<|ZaK<|Zan<|Zab<|wk'<|Zag<|?_
 refine w_lp (ι:=Nat) (λ(j:Nat)=>[(6,iv (j:Int)),(4,.any)]++rn' 59 36) (λ(j:Nat)=>[]) (λ(j:Nat)=>j<=u.2.2.1.length) (λ(j:Nat)=>u.2.2.1.length-j) (0) (by exact Nat.zero_le _) ?_
 rintro j hi2
 try simp only[sm',Nat.reduceAdd]
 replace hi2:j<=u.2.2.1.length:=hi2
 refine Zab<|wm<|fq<|Vw (Zaa lk gx gt2)<|Vw (Zaz lk)<|Vw (ZaJ lk lk)<|sn'<|?_
 refine cd' lk (λhc4=>?_) (λhc4=>?_)
 .have hj:j<u.2.2.1.length:=by omega
  refine za<|Zab<|Zag<|Zab<|ZaD<|dg<|Dw (Zaa lk gx gt2)<|Dw vm<|?_
  refine D' (ZaE lk lk Zea nb ro om ro rfl) pt ?_
  refine Dw (ZaZ lk dp0)<|Dw (Zav lk gt)<|dg<|Dw (Zaa lk gx gt2)<|Dw vm<|?_
  refine D' (ZaE lk lk Zea nb ro om ro rfl) pt ?_
  refine Dw (ZaZ lk dp0)<|Dw (Zav lk gt)<|?_
  refine D' ((by first | exact ZaY lk lk | exact Zd2 lk lk)) pt ?_
  refine D' vm pt ?_
  refine Zfr (t:=79) gt (b:=false) (by exact decide_eq_false (by simp)) pt ?_
  refine dO<|dg<|dO<|Dw (Zaa lk gx gt2)<|dO<|Dw vm<|dO<|?_
  refine D' (ZaE lk lk Zea nb ro om ro rfl) pt ?_
  refine dO<|Dw (ZaZ lk dp1)<|dO<|Dw (Zar lk Zoh rfl)<|dO<|dg<|dO<|Dw (Zaa lk gx gt2)<|dO<|Dw vm<|dO<|?_
  refine D' (ZaE lk lk Zea nb ro om ro rfl) pt ?_
  refine dO<|Dw (ZaZ lk dp1)<|dO<|Dw (Zar lk Zoh rfl)<|dO<|?_
  refine ZaB mp (λhE hX=>sameP_r) pt ?_
  refine dO<|Dw (ZaF lk)<|Dw (Zak lk lk)<|ZaH<|?_
  refine ZaU ?_
  refine sn'<|ZaV lk<|Zay<|Zau<|Zan<|Zao<|mw<|?_
  refine ad<|mw<|Zam<|Zaw<|?_
  refine lT' (j+1) (by (try dsimp only);omega)
 refine Zax<|Zas<|Zas<|ZaK<|Zan<|Zab<|wk'<|Zag<|?_
 refine w_lp (ι:=Nat) (λ(k:Nat)=>[(7,iv (k:Int)),(4,.any)]++rn' 95 18) (λ(k:Nat)=>[]) (λ(k:Nat)=>k<=u.2.2.2.length) (λ(k:Nat)=>u.2.2.2.length-k) (0) (by exact Nat.zero_le _) ?_
 rintro k hi3
 try simp only[sm',Nat.reduceAdd]
 replace hi3:k<=u.2.2.2.length:=hi3
 refine Zab<|wm<|fq<|Vw (Zaa lk gx gt3)<|Vw (Zaz lk)<|Vw (ZaJ lk lk)<|sn'<|?_
 refine cd' lk (λhc6=>?_) (λhc6=>?_)
 .have hk:k<u.2.2.2.length:=by omega
  refine za<|Zab<|Zag<|Zab<|ZaD<|dg<|Dw (Zaa lk gx gt3)<|Dw vm<|?_
  refine D' (ZaE lk lk Zbe nb ro om ro rfl) pt ?_
  refine Dw (Zar lk Zoj rfl)<|dg<|Dw (Zaa lk gx gt3)<|Dw vm<|?_
  refine D' (ZaE lk lk Zbe nb ro om ro rfl) pt ?_
  refine Dw (Zar lk Zoj rfl)<|Dw (Zga lk lk ZtN)<|ZaH<|?_
  refine ZaU ?_
  refine sn' ?_
  refine Zcr lk (by exact decide_eq_false (by simp)) ?_
  refine Zay<|Zau<|Zan<|Zao<|mw<|?_
  refine ad<|mw<|Zam<|Zaw<|?_
  refine lT' (k+1) (by (try dsimp only);omega)
 exact Zax<|Zas<|Zas<|ZaK<|Zan<|wo<|Zae rz<|rT' rfl
end
end Go.Proofs.YthmgnolcfjiicaaGreatDoor
namespace Go.Ab
section
open Go.RowKit
section
variable {P : Program} {n0 : Nat}
def ALe.moveCell {T:List AV}{h H:AH}{id v ty0 s0 ver ty st n j k vj tj sj L:Nat}{c0 cells cj cj':List AV}(hf:h[id]?=some (.mk v ty0 s0 c0)) (hj:h[j]?=some (.mk vj tj sj cj)) (hne:j≠id) (hL:h.length=L) (hk:cj[k]?=some (.own L ver n)) (hp:aPut cj (some k) (.own id (v+1) n)=cj') (hH:(h.set id (.mk (v+1) ty st cells)).set j (.mk vj tj sj cj')++[.gone]=H):ALe n0 T (h++[.mk ver ty st cells]) T H:=λw0 S0 g0 a w g s=>by
 subst hL hp hH
 have hid:id<h.length:=(List.getElem?_eq_some_iff.1 hf).1
 have hjd:j<h.length:=(List.getElem?_eq_some_iff.1 hj).1
 have hlast:(h++[Ent.mk ver ty st cells])[h.length]?=some (.mk ver ty st cells):=by rw[List.getElem?_append_right (Nat.le_refl _),Nat.sub_self];rfl
 have hfr:(h++[Ent.mk ver ty st cells])[id]?=some (.mk v ty0 s0 c0):=by rw[List.getElem?_append_left hid];exact hf
 obtain⟨A,cap,e1,e2,e3⟩:=s.sim.ent _ _ _ _ _ hlast
 have hold : ∀ x l,g.loc id x=some l->x<=v:=λx l hl=>(s.sim.fresh id x l hl).2 _ _ _ _ hfr
 have hno : ∀ l,g.loc id (v+1)=some l->False:=λl hl=>by have:=hold _ _ hl;omega
 have hloc : ∀ i x l,g.loc i x=some l->(g.add id (v+1) (A,cap)).loc i x=some l:=by
  intro i x l hi
  simp only[Gh.add]
  rw[if_neg]
  .exact hi
  .rintro⟨rfl,rfl⟩;exact hno _ hi
 have hle:g.le (g.add id (v+1) (A,cap)):=⟨λk hk=>hk,hloc,rfl⟩
 have hback : ∀ i x l,(g.add id (v+1) (A,cap)).loc i x=some l->(i=id/\x=v+1/\l=(A,cap))\/(¬(i=id/\x=v+1)/\g.loc i x=some l):=by
  intro i x l hl
  simp only[Gh.add] at hl
  split at hl
  .rename_i he;exact .inl ⟨he.1,he.2,(Option.some.inj hl).symm⟩
  .rename_i he;exact .inr ⟨he,hl⟩
 have hget : ∀ (i:Nat) (e:Ent),(h.set id (.mk (v+1) ty st cells)++[.gone])[i]?=some e->(i=id/\e=.mk (v+1) ty st cells)\/(i≠id/\i<h.length/\h[i]?=some e)\/e=.gone:=by
  intro i e he
  rcases Nat.lt_or_ge i h.length with hi | hi
  .rw[List.getElem?_append_left (by simpa using hi)] at he
   by_cases hii:i=id
   .subst hii
    rw[List.getElem?_set_self hi] at he
    exact .inl ⟨rfl,(Option.some.inj he).symm⟩
   .rw[List.getElem?_set_ne (Ne.symm hii)] at he
    exact .inr (.inl ⟨hii,hi,he⟩)
  .rw[List.getElem?_append_right (by simpa using hi)] at he
   cases hk:i-(h.set id (Ent.mk (v+1) ty st cells)).length with
   | zero=>rw[hk] at he;simp at he;exact .inr (.inr he.symm)
   | succ k=>rw[hk] at he;simp at he
 have hmk : ∀ (i x t s':Nat) (c:List AV),(h.set id (.mk (v+1) ty st cells)++[.gone])[i]?=some (Ent.mk x t s' c)->(i=id/\x=v+1/\t=ty/\s'=st/\c=cells)\/(i≠id/\i<h.length/\(h++[Ent.mk ver ty st cells])[i]?=some (Ent.mk x t s' c)):=by
  intro i x t s' c he
  rcases hget i _ he with ⟨h1,h2⟩ | ⟨h1,h2,h3⟩ | h1
  .cases h2;exact .inl ⟨h1,rfl,rfl,rfl,rfl⟩
  .exact .inr ⟨h1,h2,by rw[List.getElem?_append_left h2];exact h3⟩
  .cases h1
 have hrw : ∀ (i k:Nat) (o:Obj) (X:List AV) (vs:List Value),(h.set id (.mk (v+1) ty st cells)++[.gone])[i]?=some (Ent.raw k o X vs)->(h++[Ent.mk ver ty st cells])[i]?=some (Ent.raw k o X vs):=by
  intro i k o X vs he
  rcases hget i _ he with ⟨h1,h2⟩ | ⟨h1,h2,h3⟩ | h1
  .cases h2
  .rw[List.getElem?_append_left h2];exact h3
  .cases h1
 have hent : ∀ t s' c A' cap',EntAt w g t s' c A' cap'->EntAt w (g.add id (v+1) (A,cap)) t s' c A' cap':=by
  rintro t s' c A' cap' (h1 | ⟨b,arr,q1,q2,q3,q4,q5,q6,q7⟩)
  .exact .inl h1
  .exact .inr ⟨b,arr,q1,q2,q3,q4,q5,q6,RepL.mono hle (λ_ _=>rfl) _ _ q7⟩
 have how : ∀ i k,OwAt (g.add id (v+1) (A,cap)) (h.set id (.mk (v+1) ty st cells)++[.gone]) i k->OwAt g (h++[.mk ver ty st cells]) (if i=id then h.length else i) k/\(i≠id->i<h.length):=by
  rintro i k ⟨x,t,s',c,b,cap',q1,q2,q3,q4⟩
  rcases hmk _ _ _ _ _ q1 with ⟨rfl,rfl,rfl,rfl,rfl⟩ | ⟨hne,hlt,hh⟩
  .rw[if_pos rfl]
   rcases hback _ _ _ q2 with ⟨_,_,e⟩ | ⟨h1,_⟩
   .cases e;exact⟨⟨_,_,_,_,b,cap,hlast,e1,q3,q4⟩,λh=>absurd rfl h⟩
   .exact absurd ⟨rfl,rfl⟩ h1
  .rw[if_neg hne]
   rcases hback _ _ _ q2 with ⟨h1,_⟩ | ⟨_,h1⟩
   .exact absurd h1 hne
   .exact⟨⟨_,_,_,_,b,cap',hh,h1,q3,q4⟩,λ_=>hlt⟩
 have htm:=RepL.mono hle (λ_ _=>rfl) _ _ s.tmps
 have hS:SimH w (g.add id (v+1) (A,cap)) (h.set id (.mk (v+1) ty st cells)++[.gone]):=by
  refine⟨λi x t s' c he=>?_,λi j k x y=>?_,s.sim.lt,λi x l hl=>?_,λi x l hl hfree=>?_,s.sim.glob.mono (λ_ h=>h) (λ_ _=>rfl),λi k o X vs he=>?_,λi j k x y=>?_,s.sim.xw (Nat.le_refl _) rfl (λ_=>.inl) (λk hk=>.inl (hk.imp (λ⟨i,hk⟩=>⟨_,(how _ _ hk).1⟩) (λ⟨i,o,X,vs,hk⟩=>⟨i,o,X,vs,hrw _ _ _ _ _ hk⟩)))⟩
  .rcases hmk _ _ _ _ _ he with ⟨rfl,rfl,rfl,rfl,rfl⟩ | ⟨hne,_,hh⟩
   .exact⟨A,cap,by simp[Gh.add],e2,hent _ _ _ _ _ e3⟩
   .obtain⟨A',cap',q1,q2,q3⟩:=s.sim.ent _ _ _ _ _ hh
    exact⟨A',cap',hloc _ _ _ q1,q2,hent _ _ _ _ _ q3⟩
  .obtain⟨x1,x2⟩:=how _ _ x
   obtain⟨y1,y2⟩:=how _ _ y
   have:=s.sim.inj _ _ _ x1 y1
   by_cases hi:i=id
   .by_cases hj:j=id
    .rw[hi,hj]
    .rw[if_pos hi,if_neg hj] at this
     have:=y2 hj;omega
   .by_cases hj:j=id
    .rw[if_neg hi,if_pos hj] at this
     have:=x2 hi;omega
    .rw[if_neg hi,if_neg hj] at this;exact this
  .rcases hback _ _ _ hl with ⟨rfl,rfl,rfl⟩ | ⟨hne,h1⟩
   .refine⟨by simp;omega,λv' t s' c he=>?_⟩
    rcases hmk _ _ _ _ _ he with ⟨_,rfl,_⟩ | ⟨hn2,_⟩
    .exact Nat.le_refl _
    .exact absurd rfl hn2
   .obtain⟨q1,q2⟩:=s.sim.fresh i x l h1
    refine⟨by simpa using q1,λv' t s' c he=>?_⟩
    rcases hmk _ _ _ _ _ he with ⟨rfl,rfl,_⟩ | ⟨_,_,hh⟩
    .exact Nat.le_succ_of_le (hold _ _ h1)
    .exact q2 _ _ _ _ hh
  .rcases hget _ _ hfree with ⟨_,h2⟩ | ⟨h1,h2,h3⟩ | h1
   .cases h2
   .rcases hback _ _ _ hl with ⟨h4,_⟩ | ⟨_,h4⟩
    .exact h1 h4
    .exact s.sim.free i x l h4 (by rw[List.getElem?_append_left h2];exact h3)
   .cases h1
  .obtain⟨q1,q2,q3,q4⟩:=s.sim.raw _ _ _ _ _ (hrw _ _ _ _ _ he)
   exact⟨q1,q2,q3,RepL.mono hle (λ_ _=>rfl) _ _ q4⟩
  .obtain⟨o,X,vs,x⟩:=x
   obtain⟨o',X',vs',y⟩:=y
   exact s.sim.rinj i j k ⟨o,X,vs,hrw _ _ _ _ _ x⟩ ⟨o',X',vs',hrw _ _ _ _ _ y⟩
 have hj2:(h.set id (.mk (v+1) ty st cells)++[Ent.gone])[j]?=some (.mk vj tj sj cj):=by
  rw[List.getElem?_append_left (by simpa using hjd),List.getElem?_set_ne (Ne.symm hne)];exact hj
 obtain⟨k1,k2⟩:=hS.tell hj2 hk (c':=.own id (v+1) n) (λu hu=>by
  simp only[Rep] at hu ⊢
  obtain⟨A',cap',q1,q2,q3,q4⟩:=hu
  rcases hback _ _ _ q1 with ⟨h1,_⟩ | ⟨_,h1⟩
  .omega
  .rw[e1] at h1;cases h1
   exact⟨A,cap,by simp[Gh.add],q2,q3,q4⟩)
 rw[List.set_append_left _ _ (by simpa using hjd)] at k1 k2
 exact⟨_,htm,s.defers,k1,s.fr,s.le.trans hle,s.bd,λk hk=>s.ow k (by
  rcases k2 k hk with ⟨i,hk⟩ | ⟨i,o,X,vs,hk⟩
  .exact .inl ⟨_,(how _ _ hk).1⟩
  .exact .inr ⟨i,o,X,vs,hrw _ _ _ _ _ hk⟩)⟩
def ALe.moveCellK {T:List AV}{h h1 h2 h3:AH}{id v ty0 s0 ver ty st n j k vj tj sj L:Nat}{c0 cells cj cj':List AV}(hl:h[L]?=some (.mk ver ty st cells)) (hL:h.length=L+1) (hf:h[id]?=some (.mk v ty0 s0 c0)) (hj:h[j]?=some (.mk vj tj sj cj)) (hi:id<L) (hjd:j<L) (hne:j≠id) (hk:cj[k]?=some (.own L ver n)) (hp:aPut cj (some k) (.own id (v+1) n)=cj') (e1:h.set L .gone=h1) (e2:h1.set id (.mk (v+1) ty st cells)=h2) (e3:h2.set j (.mk vj tj sj cj')=h3):ALe n0 T h T h3:=by
 subst e1 e2 e3
 obtain⟨y,rfl⟩ : ∃ y,h=y++[.mk ver ty st cells]:=⟨h.take L,by
  have h1:=List.take_append_drop L h
  have h2:h.drop L=[.mk ver ty st cells]:=by
   obtain⟨hlt,he⟩:=List.getElem?_eq_some_iff.1 hl
   rw[List.drop_eq_getElem_cons hlt,he,List.drop_of_length_le om]
  rw[h2] at h1;exact h1.symm⟩
 have hy:y.length=L:=by simpa using hL
 subst hy
 rw[List.getElem?_append_left hi] at hf
 rw[List.getElem?_append_left hjd] at hj
 refine ALe.moveCell hf hj hne rfl hk hp ?_
 rw[List.set_append_right _ _ (Nat.le_refl _),Nat.sub_self,List.set_cons_zero,List.set_append_left _ _ hi,List.set_append_left _ _ (by simpa using hjd)]
end
end
end Go.Ab
namespace Go.Proofs.YthmgnolcfjiicaaGreatDoor
open Go.Ab
variable {h:AH}{a0 a1 a2 a3 a4 c0 c1:AV}{l:List AV}{R:Nat}{r:Rel}{u:Upd}
section
open Go.Ab Go.RowKit Civ
attribute [local simp] Zbl Zcz Zbq Zgb ZcM
section
def ZiC {τ:Operand->AV}:Zal τ [] []=some []:=rfl
def Zh0 {τ:Operand->AV}{y0 y1:Operand}{x0_0 x1_0:AV}(h0:Zaq (τ y0)=some [x0_0]) (l0:[x0_0].all leaf=true) (h1:Zaq (τ y1)=some [x1_0]) (l1:[x1_0].all leaf=true):Zal τ [(0,1,y0),(1,1,y1)] [(.sl 0 0 true []),(.sl 0 0 true [])]=some [x0_0,x1_0]:=by
 simp only[Zal,h0,l0,h1,l1]
 rfl
def Zc9 :setCells (a0::a1::l) 0 [c0,c1]=c0::c1::l:=rfl
def ZhZ {τ:Operand->AV}:Zal τ [] [(.sl 0 0 true []),(.sl 0 0 true [])]=some [(.sl 0 0 true []),(.sl 0 0 true [])]:=rfl
def ZcQ :((a0::a1::l).drop 0).take 2=[a0,a1]:=rfl
def ZhY {τ:Operand->AV}:Zal τ [] []=some []:=rfl
def ZlF :setCells (a0::l) 0 [c0]=c0::l:=rfl
def ZhX {τ:Operand->AV}:Zal τ [] [(.sl 0 0 true []),(.sl 0 0 true [])]=some [(.sl 0 0 true []),(.sl 0 0 true [])]:=rfl
def ZtB :((a0::a1::a2::a3::a4::l).drop 1).take 4=[a1,a2,a3,a4]:=rfl
def Zxz {a5:AV}:(a0::a1::a2::a3::a4::a5::l).take 6=[a0,a1,a2,a3,a4,a5]:=rfl
def ZxB { e:Ent}:([]:AH)++[e]=[e]:=rfl
def ZtE {e0 e1 e2 e3 e4 d0:Ent}:([e0,e1,e2,e3,e4]:AH)++[d0]=[e0,e1,e2,e3,e4,d0]:=rfl
def ZtD {c2 c3:AV}:setCells (a0::a1::a2::a3::l) 0 [c0,c1,c2,c3]=c0::c1::c2::c3::l:=rfl
def ZhW {τ:Operand->AV}:Zal τ [] [(.sl 0 0 true []),(.sl 0 0 true [])]=some [(.sl 0 0 true []),(.sl 0 0 true [])]:=rfl
def ZtC :((a0::a1::a2::a3::l).drop 0).take 4=[a0,a1,a2,a3]:=rfl
def Zhc {τ:Operand->AV}:Zal τ [] [(.sl 0 0 true []),(.sl 0 0 true [])]=some [(.sl 0 0 true []),(.sl 0 0 true [])]:=rfl
def ZxA :(a0::a1::a2::a3::a4::l).take 5=[a0,a1,a2,a3,a4]:=rfl
def Zhb {τ:Operand->AV}:Zal τ [] [(.sl 0 0 true []),(.sl 0 0 true [])]=some [(.sl 0 0 true []),(.sl 0 0 true [])]:=rfl
end
def k11:=Ku (some [10]) 11 [.u [[],[0],[0],[],[0,1,2,3],[0,1,2,3],[],[0,1,2,3,4,5,6],[]],.e [] 9 [],.u [[],[0],[0],[0,1,2],[0],[],[0,1,2,3,4,5],[0,1,2,3,4,5],[0,1,2,3,4,5,6,7],[0,1,2,3,4,5,6,7],[0,1,2,3,4,5],[],[],[]],.u [[],[],[0,1],[0,1],[0,1,2,3],[0,1],[0,1],[0,1],[],[]],.e [] 17 [false,false],.u [[],[],[0,1],[0,1],[0,1,2,3],[0,1],[0,1],[0,1],[],[]],.u [[],[],[0,1],[0,1],[0,1,2,3],[0,1],[0,1],[],[],[]]]
def Zu5 {l:List Nam}{nm:ByteArray}{v ty:Nat}(hR:h[R]?=some (.mk v ty 5 (rows namC l))):Ac 39 [.own R v l.length,sv nm] h (iv (atN l nm)) :=
 (Zcs (f1:=false) (h:=[])).thaw rfl (ThwL.cons (Thw.own hR (Zba l) (Zcz l)) (ThwL.cons (Thw.same rfl) ThwL.nil))
def rchr_o {t:List Nam}{k:List Lnk}{v ty:Nat}{f2:Bool}(hR:h[R]?=some (.mk v ty 5 (rows namC t))) (hok:Zfd (t,k)):Ac 8 [.agg [.own R v t.length,.sl k.length 2 f2 (rows lnkC k)]] h (iv (ZaQ (t,k))) :=
 (Zgo (f1:=false) (f2:=f2) (h:=[]) hok).thaw rfl (ThwL.cons (Thw.agg (ThwL.cons (Thw.own hR (Zba t) (Zcz t)) (ThwL.cons (Thw.same (by simp[AV.lt,Zbq])) ThwL.nil))) ThwL.nil)
def Zu1 (hr:Zfd r) (h0:ZaQ r=0) (hu:Zsl u) :
  Ac 11 [.agg (relC r),.agg (updC u)] h (.tup [.agg (relC (updV r u).1),iv (updV r u).2]):=by
 obtain⟨a1,a2,a3,a4,a5,a6⟩:=ZbJ h0
 obtain⟨u1,u2,u3,u4,u5⟩:=hu
 refine tUW' k11 λN hn hlt _ hbd=>?_
 simp only[tb'] at hbd ⊢
 refine wr'<|E' (ZaM cv rfl hl0 ha0) pt<|E' (ZaM cv rfl hl1 ha1) pt<|E' (ZaR hl2 ha2) pt<|ms<|Zab<|Zf9<|?_
 refine u_al rfl (ZcB ZiC hl3 ha3) hl3 nh pt ?_
 refine u_fr rfl (ZbU lk) pt ?_
 refine Zfi rfl (Zaa lk gx gt0) (hx_l rfl) hl3 nh pt ?_
 refine u_apS (Zby (Zgj lk (Zba _)) lk gx rfl om (ZdU (λ_=>rfl) _) hs3) lk lk nh pt ?_
 refine u_fr rfl (ZbU lk) pt ?_
 refine Zfi rfl (Zaa lk gx gt3) (hx_l rfl) hl3 nh pt ?_
 refine u_fr rfl (Zat (Zh0 cv rfl cv rfl)) pt ?_
 refine u_al rfl (ZaR hl4 ha4) hl4 nh pt ?_
 refine u_st (Zai lk cv gx rfl nb rfl Zc9 hs4) lk nh ptn ?_
 refine Zkp<|Zan<|Zab<|wk'<|Zag<|?_
 refine Zd1 (ι:=Nat×Nat×List Nam) (λ⟨i,v,l⟩=>[(7,iv (i:Int)),(5,.any),(8,.any)]++rn' 22 31) (λ⟨i,v,l⟩=>[(3,.mk v 45 5 (rows namC l)),(4,.mk 0 25 2 [.own (N+3) v l.length,.sl u.2.2.2.length 2 false (rows lnkC u.2.2.2)])]) (λ⟨i,v,l⟩=>i<=u.1.length/\Za8 r.1 u.1=Za8 l (u.1.drop i)/\okTs (v,l)) (λ⟨i,v,l⟩=>u.1.length-i) (⟨0,1,r.1⟩) (by exact⟨Nat.zero_le _,rfl,⟨a4,λn hn=>⟨hr.1 n hn,(a3 n hn).2⟩⟩,a1⟩) (by try simp only[sm',Nat.reduceAdd];exact ALe.same wA' (by rw[Nat.zero_add])) ?_
 rintro⟨i,v,l⟩ hi1
 try simp only[sm',Nat.reduceAdd]
 obtain⟨hi1,hd2,hi3⟩:=hi1
 refine Zab<|wm<|fq<|Vw (Zaa lk gx gt0)<|Vw (Zaz lk)<|Vw (ZaJ lk lk)<|sn'<|?_
 refine cd' lk (λhc1=>?_) (λhc1=>?_)
 .have hi:i<u.1.length:=by omega
  have hll:l.length<=20:=hi3.2
  rw[List.drop_eq_getElem_cons hi,Za8] at hd2
  refine za<|Zab<|Zag<|Zab<|ZaD<|dg<|Dw (Zaa lk gx gt0)<|dg<|Dw (Zaa lk gx gt0)<|Dw vm<|?_
  refine D' (ZaE lk lk ZgF nb ro om ro rfl) pt ?_
  refine D' (Zav lk gt) pt ?_
  refine ZaB mp (λhE hX=>Zu5 (hX _ _ gx)) pt ?_
  refine Dw vm<|ZaH<|?_
  refine ZaU ?_
  refine sn'<|Zab<|wm<|Vw (ZaJ lk lki)<|sn'<|?_
  refine cd' lk (λhc2=>?_) (λhc2=>?_)
  .have hb:hasN l u.1[i]=false:=Zgd hc2
   rw[if_neg (by rw[hb];simp)] at hd2
   have hV:Zcf r u=(l,5):=by unfold Zcf;rw[hd2];exact if_pos (by simp)
   have hE:=Zd3 (r:=r) (u:=u) (by rw[hV];simp)
   rw[hV] at hE
   refine wr'<|Vw (Zat ZhZ)<|E' (Zai lk cv gx rfl nb rfl Zc9 hs2) ptn<|mr<|Zah<|Zap<|Zah<|Zah<|Zap<|Zah<|?_
   refine Zae (rsn (rm1 (rr_c gt gx (ld1 ZcQ rfl)) (rm1 (rr_t gt) rm0)))<|rtW'<|?_
   rw[hE];exact ZcU
  have hb:hasN l u.1[i]=true:=Zem hc2
  obtain⟨hp,hat,_⟩:=ZrV hc2
  rw[if_pos hb] at hd2
  have hok:=Zo4 (d:=u.1[i]) hi3
  rw[ZpB hb] at hok
  have htk:(l.take (idxN l u.1[i])).length=idxN l u.1[i]:=by rw[List.length_take];omega
  have hdk:(l.drop (idxN l u.1[i]+1)).length=l.length-(idxN l u.1[i]+1):=List.length_drop
  have her:l.eraseIdx (idxN l u.1[i])=l.take (idxN l u.1[i])++l.drop (idxN l u.1[i]+1):=List.eraseIdx_eq_take_drop_succ ..
  rw[hat]
  refine Zay ?_
  refine ZaN (ALe.iceCellNew (ty2:=45) (st2:=5) (hga hn rfl) (hga hn rfl) om gt0 (List.take_of_length_le (by rw[Zba];exact Nat.le_refl _)) (by rw[Zba];exact Nat.le_refl _) pt0 hs3 hs4) ?_
  refine Zf9 ?_
  refine u_al rfl (ZcB ZhY hl5 ha5) hl5 nh pt ?_
  refine u_fr rfl (ZbU lk) pt ?_
  refine Zfi rfl (Zaa lk gx gt0) (hx_l rfl) hl5 nh pt ?_
  refine u_fr rfl vm pt ?_
  refine u_fr rfl (v_hi lk lk ZaC ro om ro) pt ?_
  refine u_apS (Zby (Zgj lk (Zba _)) lk gx rfl om (ZiS _) hs5) lk lk nh pt ?_
  refine u_fr rfl (ZbU lk) pt ?_
  refine Zfi rfl (Zaa lk gx gt0) (hx_l rfl) hl5 nh pt ?_
  refine u_fr rfl vm pt ?_
  refine u_fr rfl (Zb0 lk lki om om) pt ?_
  refine u_fr rfl (v_lo (k:=idxN l u.1[i]+1) lk lk ZaC ro om ro) pt ?_
  refine u_apS (Zby (Zgj lk (Zba _)) lk (hga hn rfl) (by rw[List.nil_append,Nat.zero_add];exact Zba _) om (ZiS _) hs5) lk lk nh pt ?_
  refine u_fr rfl (ZbU lk) pt ?_
  refine u_st (Zai lk cv gx rfl nb rfl ZlF hs4) lk nh ptn ?_
  refine Zkp<|Zau<|?_
  refine ZaN (ALe.moveCellK (L:=N+5) (id:=N+3) (j:=N+4) gx hl6 gx gx om om om gt0 pt0 hs5 hs3 hs4) ?_
  refine Zao<|mw<|?_
  refine ad<|mw<|Zam<|Zaw<|?_
  refine lU' (⟨i+1,v+2,l.eraseIdx (idxN l u.1[i])⟩) (by (try dsimp only);exact⟨by omega,hd2,hok.1,hok.2⟩) (by refine zz ?_;exact bk' 5 hn hlt (by rw[her,ZaG,List.length_append,Nat.zero_add];rfl) (hT:=by simp[AV.lt,AV.ltL,Ent.lt]) (hE:=by simp[AV.lt,AV.ltL,Ent.lt]))
 obtain rfl:i=u.1.length:=by omega
 rw[List.drop_of_length_le (Nat.le_refl _),Za8] at hd2
 have hn0:l.length<=20:=hi3.2
 refine Zax<|Zas<|Zas<|ZaK<|Zan<|Zab<|wk'<|Zag<|?_
 refine w_lp (ι:=Nat×List Nam) (λ⟨j,m⟩=>[(9,iv (j:Int)),(5,.any)]++rn' 10 3++rn' 53 45) (λ⟨j,m⟩=>[(3,.mk v 45 5 (rows namC m)),(4,.mk 0 25 2 [.own (N+3) v m.length,.sl u.2.2.2.length 2 false (rows lnkC u.2.2.2)])]) (λ⟨j,m⟩=>j<=u.2.2.1.length/\Zbj patE patV l u.2.2.1=Zbj patE patV m (u.2.2.1.drop j)/\okTs (v,m)) (λ⟨j,m⟩=>u.2.2.1.length-j) (⟨0,l⟩) (by exact⟨Nat.zero_le _,rfl,hi3⟩) ?_
 rintro⟨j,m⟩ hi2
 try simp only[sm',Nat.reduceAdd]
 obtain⟨hj1,hj2,hj3⟩:=hi2
 refine Zab<|wm<|fq<|Vw (Zaa lk gx gt2)<|Vw (Zaz lk)<|Vw (ZaJ lk lk)<|sn'<|?_
 refine cd' lk (λhc3=>?_) (λhc3=>?_)
 .have hj:j<u.2.2.1.length:=by omega
  have hml:m.length<=20:=hj3.2
  have hpu:=u2 _ (List.getElem_mem hj)
  rw[List.drop_eq_getElem_cons hj,Zbj] at hj2
  refine za<|Zab<|Zag<|Zab<|Zf9<|uf (ZbU lk)<|?_
  refine Zfi rfl (Zaa lk gx gt0) (hx_l rfl) hl5 nh pt ?_
  refine u_fr rfl (ZbU lk) pt ?_
  refine Zfi rfl (Zaa lk gx gt2) (hx_l rfl) hl5 nh pt ?_
  refine u_fr rfl vm pt ?_
  refine u_fr rfl (ZaE lk lk Zea nb ro om ro rfl) pt ?_
  refine uf (ZaZ lk dp0)<|uf (Zav lk gt)<|?_
  refine Zuk mp (λhU hX=>Zu5 (hX _ _ gx)) (hx_l rfl) hl5 nh pt ?_
  refine uf vm<|Zkp<|Zan<|Zab<|wm<|Vw (ZaJ lk lki)<|sn'<|?_
  refine cd' lk (λhc4=>?_) (λhc4=>?_)
  .have hb:ZaP m u.2.2.1[j].1=none:=by have:=Zgd hc4;rw[ZbO] at this;simpa using this
   rw[hb] at hj2
   have hV:Zcf r u=(m,5):=by unfold Zcf;rw[hd2];dsimp only;rw[if_neg (by simp),hj2];exact if_pos (by simp)
   have hE:=Zd3 (r:=r) (u:=u) (by rw[hV];simp)
   rw[hV] at hE
   refine wr'<|Vw (Zat ZhX)<|E' (Zai lk cv gx rfl nb rfl Zc9 hs2) ptn<|mr<|Zah<|Zap<|Zah<|Zah<|Zap<|Zah<|?_
   refine Zae (rsn (rm1 (rr_c gt gx (ld1 ZcQ rfl)) (rm1 (rr_t gt) rm0)))<|rtW'<|?_
   rw[hE];exact ZcU
  obtain⟨hp,hat,hlk_⟩:=ZrV hc4
  have hb:hasN m u.2.2.1[j].1=true:=Zem hc4
  rw[hlk_] at hj2
  have htk:=hj3.1.2 _ (List.getElem_mem hp)
  have htl:=Zcc htk.2
  have hokp:=Zmf (p:=u.2.2.1[j]) hj3 hpu
  have hnm:=(Zip hb).2
  rw[hat]
  refine za<|Zab<|ZaD<|dg<|Dw (Zaa lk gx gt0)<|Dw vm<|?_
  refine D' (ZaW lk lk gx ZaC nb ro om (by first | rfl | (simp;done) | omega)) pt ?_
  refine D' (Zbu lk) pt ?_
  refine D' (ZoE lk gx ZaC om nb ZtB rfl) pt ?_
  refine dg<|Dw (Zaa lk gx gt2)<|Dw vm<|?_
  refine D' (ZaE lk lk Zea nb ro om ro rfl) pt ?_
  refine Dw (ZaZ lk dp1)<|Dw (Zar lk Zxz rfl)<|?_
  refine ZaB mp (λhE hX=>Zxe (t:=m[idxN m u.2.2.1[j].1].2) (p:=u.2.2.1[j].2) (f1:=false) (f2:=false) htl htk.1.2 hpu.2) pt ?_
  refine Dw vm<|Dw (ZaS lk gt)<|Dw (ZaS lk gt)<|ZcI rfl rfl (hlk hn rfl) (Zix) pt ZxB<|ZaH<|?_
  refine ZcH ZtE ?_
  refine E' (Zai lk cv gx rfl nb rfl ZtD hs5) ptn<|ms<|Zab<|wm<|Vw (ZaY lk lki)<|sn'<|?_
  refine cd' lk (λhc5=>?_) (λhc5=>?_)
  .have he_:patE m[idxN m u.2.2.1[j].1].2 u.2.2.1[j].2≠0:=hc5
   simp only[] at hj2
   rw[if_pos he_] at hj2
   have hV:Zcf r u=(m,patE m[idxN m u.2.2.1[j].1].2 u.2.2.1[j].2):=by unfold Zcf;rw[hd2];dsimp only;rw[if_neg (by simp),hj2];exact if_pos he_
   have hE:=Zd3 (r:=r) (u:=u) (by rw[hV];exact he_)
   rw[hV] at hE
   refine wr'<|Vw (Zat ZhW)<|mw<|E' (Zai lk cv gx rfl nb rfl Zc9 hs2) ptn<|mr<|Zah<|Zap<|Zah<|Zah<|Zap<|?_
   refine Zah<|Zae (rsn (rm1 (rr_c gt gx (ld1 ZcQ rfl)) (rm1 (rr_t gt) rm0)))<|rtW'<|?_
   rw[hE];exact ZcU
  have he_:patE m[idxN m u.2.2.1[j].1].2 u.2.2.1[j].2=0:=Decidable.of_not_not hc5
  simp only[] at hj2
  rw[if_neg (by simpa using he_)] at hj2
  rw[Zme hlk_ he_] at hokp
  refine za<|Zao<|fq<|Vw (Zaa lk gx gt0)<|mw<|Vw (Zad lk gx ZtC rfl)<|?_
  refine V' (ZaW lk lk gx ZaC nb ro om (by first | rfl | (simp;done) | omega)) pt ?_
  refine V' (Zbu lk) pt ?_
  refine E' (e_stNT (tb:=patV m[idxN m u.2.2.1[j].1].2 u.2.2.1[j].2) lk cv gx om hs3) ptn ?_
  refine Zam<|Zau<|Zan<|Zao<|mw<|?_
  refine ad<|mw<|Zam<|Zaw<|?_
  refine lU' (⟨j+1,m.set (idxN m u.2.2.1[j].1) (u.2.2.1[j].1,patV m[idxN m u.2.2.1[j].1].2 u.2.2.1[j].2)⟩) (by (try dsimp only);exact⟨by omega,hj2,hokp⟩) (by refine zz ?_;exact bk' 5 hn hlt (by rw[hnm,List.length_set];rfl) (hT:=by simp[AV.lt,AV.ltL,Ent.lt]) (hE:=by simp[AV.lt,AV.ltL,Ent.lt]))
 obtain rfl:j=u.2.2.1.length:=by omega
 rw[List.drop_of_length_le (Nat.le_refl _),Zbj] at hj2
 have hm0:m.length<=20:=hj3.2
 have hS2:Zcf r u=Zcw m u.2.1:=by unfold Zcf;rw[hd2];dsimp only;rw[if_neg (by simp),hj2];exact if_neg (by simp)
 refine Zax<|Zas<|Zas<|ZaK<|Zan<|Zab<|wk'<|Zag<|?_
 refine w_lp (ι:=Nat×Nat×List Nam) (λ⟨k,w,t⟩=>[(13,iv (k:Int)),(5,.any)]++rn' 98 27) (λ⟨k,w,t⟩=>[(3,.mk w 45 5 (rows namC t)),(4,.mk 0 25 2 [.own (N+3) w t.length,.sl u.2.2.2.length 2 false (rows lnkC u.2.2.2)])]) (λ⟨k,w,t⟩=>k<=u.2.1.length/\Zcw m u.2.1=Zcw t (u.2.1.drop k)/\Znu k (w,t)) (λ⟨k,w,t⟩=>u.2.1.length-k) (⟨0,v,m⟩) (by exact⟨Nat.zero_le _,rfl,Zq3 hj3⟩) ?_
 rintro⟨k,w,t⟩ hi3
 try simp only[sm',Nat.reduceAdd]
 obtain⟨hk1,hk2,hk3⟩:=hi3
 have htl3:t.length<=20+k:=hk3.2.2
 refine Zab<|wm<|fq<|Vw (Zaa lk gx gt1)<|Vw (Zaz lk)<|Vw (ZaJ lk lk)<|sn'<|?_
 refine cd' lk (λhc6=>?_) (λhc6=>?_)
 .have hk:k<u.2.1.length:=by omega
  have hnk:=u1 _ (List.getElem_mem hk)
  have hsz : ∀ x∈t,x.1.size<=maxLen:=λx hx=>(hk3.2.1 x hx).1
  rw[List.drop_eq_getElem_cons hk,Zcw] at hk2
  refine za<|Zab<|Zag<|Zab<|Zab<|Zf9<|uf (ZbU lk)<|?_
  refine Zfi rfl (Zaa lk gx gt0) (hx_l rfl) hl5 nh pt ?_
  refine u_fr rfl (ZbU lk) pt ?_
  refine Zfi rfl (Zaa lk gx gt1) (hx_l rfl) hl5 nh pt ?_
  refine u_fr rfl vm pt ?_
  refine u_fr rfl (ZaE lk lk ZaC nb ro om ro rfl) pt ?_
  refine uf (ZaZ lk dp0)<|uf (Zav lk gt)<|?_
  refine Zuk mp (λhU hX=>Zu5 (hX _ _ gx)) (hx_l rfl) hl5 nh pt ?_
  refine uf (Zeo lk lki)<|Zkp<|Zan<|?_
  refine cd' lk (λhc7=>?_) (λhc7=>?_)
  .have hb:hasN t u.2.1[k].1=true:=Zem om
   rw[if_pos hb] at hk2
   have hV:Zcf r u=(t,6):=hS2.trans hk2
   have hE:=Zd3 (r:=r) (u:=u) (by rw[hV];simp)
   rw[hV] at hE
   refine wr'<|Vw (Zat Zhc)<|E' (Zai lk cv gx rfl nb rfl Zc9 hs2) ptn<|mr<|Zah<|Zap<|Zah<|Zah<|Zap<|Zah<|?_
   refine Zae (rsn (rm1 (rr_c gt gx (ld1 ZcQ rfl)) (rm1 (rr_t gt) rm0)))<|rtW'<|?_
   rw[hE];exact ZcU
  have hb:hasN t u.2.1[k].1=false:=Zgd om
  rw[if_neg (by rw[hb];simp)] at hk2
  have hokp:=ZvG (n:=u.2.1[k]) hk3 hnk.1
  rw[ZqS (by rw[hb];simp)] at hokp
  have hiq:=Zrr (n:=u.2.1[k]) hb
  have hil:=Zpl t u.2.1[k]
  refine za<|Zf9<|uf (ZbU lk)<|?_
  refine Zfi rfl (Zaa lk gx gt0) (hx_l rfl) hl5 nh pt ?_
  refine u_fr rfl (ZbU lk) pt ?_
  refine Zfi rfl (Zaa lk gx gt1) (hx_l rfl) hl5 nh pt ?_
  refine u_fr rfl vm pt ?_
  refine u_fr rfl (ZaE lk lk ZaC nb ro om ro rfl) pt ?_
  refine u_fr rfl (Zar lk ZxA rfl) pt ?_
  refine Zhi mp gx (λhU hUe=>rput_t (n:=u.2.1[k]) hUe om hsz) nh hs3 pt ?_
  refine u_fr rfl (ZbU lk) pt ?_
  refine u_st (Zai lk cv gx rfl nb rfl ZlF hs4) lk nh ptn ?_
  refine Zkp<|Zau<|Zan<|Zao<|mw<|?_
  refine ad<|mw<|Zam<|Zaw<|?_
  refine lU' (⟨k+1,w+1,insN t u.2.1[k]⟩) (by (try dsimp only);exact⟨by omega,hk2,hokp⟩) (by refine zz ?_;exact ALe.same wA' (by rw[hiq,hil]))
 obtain rfl:k=u.2.1.length:=by omega
 rw[List.drop_of_length_le (Nat.le_refl _),Zcw] at hk2
 have hV:Zcf r u=(t,0):=hS2.trans hk2
 have hE:=ZoG (r:=r) (u:=u) (by rw[hV])
 rw[hV] at hE
 have hok:Zfd (t,u.2.2.2):=⟨hk3.2.1,u3⟩
 refine Zax<|Zas<|Zas<|ZaK<|Zan<|wr'<|Vw (Zad lk gx ZcQ rfl)<|Zac mp (rchr_o gx hok) pt<|ms<|Zab<|Zab<|?_
 refine Zao<|mw<|Vw (ZaY lk lki)<|sn'<|?_
 refine cd' lk (λhc8=>?_) (λhc8=>?_)
 .rw[if_pos hc8] at hE
  refine wr'<|Vw (Zat Zhb)<|mw<|E' (Zai lk cv gx rfl nb rfl Zc9 hs2) ptn<|mr<|Zah<|Zae (rsn (rm1 (rr_c gt gx (ld1 ZcQ rfl)) (rm1 (rr_t gt) rm0)))<|rtW'<|?_
  rw[hE];exact ZcU
 have h9:ZaQ (t,u.2.2.2)=0:=Decidable.of_not_not hc8
 rw[if_neg hc8] at hE
 refine Zay ?_
 refine ZaN (ALe.iceCellR (hga hn rfl) (hga hn rfl) om gt0 (List.take_of_length_le (by rw[Zba];exact Nat.le_refl _)) (by rw[Zba];exact Nat.le_refl _) pt0 hs3 hs4) ?_
 refine wr'<|Vw (Zad lk gx ZcQ rfl)<|mw<|E' (Zai lk cv gx rfl nb rfl Zc9 hs2) ptn<|mr<|Zae (rsn (rm1 (rr_c gt gx (ld1 ZcQ rfl)) (rm1 (rr_t gt) rm0)))<|rtW'<|?_
 rw[hE,h9];exact Wk.refl _
end
section
open Go.Ab Go.RowKit Civ
attribute [local simp] Zbl Zcz Zbq Zgb ZcM
section
def Zbc :((a0::a1::l).drop 0).take 2=[a0,a1]:=rfl
def Zf0 {c2 c3:AV}:setCells (a0::a1::a2::a3::l) 0 [c0,c1,c2,c3]=c0::c1::c2::c3::l:=rfl
def Zbt :((a0::a1::a2::a3::l).drop 0).take 4=[a0,a1,a2,a3]:=rfl
def ZhV :setCells (a0::a1::l) 0 [c0,c1]=c0::c1::l:=rfl
def Zxy :(a0::a1::a2::a3::l).take 4=[a0,a1,a2,a3]:=rfl
end
def k3:=Kx 3 []
def ZuV (hu:u=upd0):Ac 15 [.agg (updC u),.agg [.sl 0 0 true [],.sl 0 0 true [],.sl 0 0 true [],.sl 0 0 true []]] h (bv true):=by
 subst hu
 exact ACalls.wk (wk1 rfl (wkw (Wk.agg (wkw Wk.nilF (wkw Wk.nilF (wkw Wk.nilF (wkw Wk.nilF wk0))))) wk0)) ZuU
def ZuC {t:Tab}{e:Int}{c:AV}(he:e≠0->t=Zdr) (hc:Wk c (chS t.2)):Ac 14 [tabA t,iv e,iv e,.agg [iv t.1.1,iv t.1.2.1,sv t.1.2.2,c]] h (bv true):=by
 have h1:=Zuz (t:=t) (u:=t) (e1:=e) (e2:=e) (f1:=false) (f2:=false) (h:=h)
 rw[show (decide (e=e)&&decide (t=if e≠0 then Zdr else t))=true by
  rw[decide_eq_true rfl,Bool.true_and,decide_eq_true_eq]
  split
  .rename_i h;exact he h
  rfl] at h1
 exact ACalls.wk (wkw (Wk.refl _) (wk1 rfl (wk1 rfl (wkw (Wk.agg (wk1 rfl (wk1 rfl (wk1 rfl (wkw hc wk0))))) wk0)))) h1
def sameU_e {v:Upd}(e:v=u):Ac 15 [.agg (updC u),.agg (updC v)] h (bv true):=by
 subst e;exact ZuU
def Zvc {x y:Rel}{e f:Int}(hx:y=x) (hf:f=e) (he:e≠0->x=rel0):Ac 16 [.agg (relC x),iv e,iv f,.agg (relC y)] h (bv true):=by
 subst hx hf;exact Zvd he
def relIs_0 {x:Rel}{e f:Int}(hx:x=rel0) (hf:f=e):Ac 16 [.agg (relC x),iv e,iv f,.agg [.sl 0 0 true [],.sl 0 0 true []]] h (bv true):=by
 subst hx hf
 exact ACalls.wk (wk1 rfl (wk1 rfl (wk1 rfl (wkw (Wk.agg (wkw Wk.nilF (wkw Wk.nilF wk0))) wk0)))) (Zvd λ_=>rfl)
def Zuj (h:(updV r u).2≠0):(updV r u).1=rel0:=by
 by_cases h1:(Zcf r u).2=0
 .rw[ZoG h1] at h ⊢
  split
  .rfl
  rename_i h2;rw[if_neg h2] at h;exact absurd rfl h
 rw[Zd3 h1]
def Zjy {nm:ByteArray}(h:(ZdD r nm).2≠0):(ZdD r nm).1=Zdr:=by
 unfold ZdD at h ⊢
 split
 .rfl
 rename_i h1
 rw[if_neg h1] at h
 split
 .rfl
 rename_i h2;rw[h2] at h;exact absurd rfl h
def tells_w {s:Rel}{nm:ByteArray}(hr:Zfd r) (hs:Zfd s) (hu:Zsl u):Ac 3 [.agg (relC r),.agg (relC s),.agg (updC u),sv nm] h (bv true):=by
 refine tI' k3 λN hn _ _ hbd=>?_
 simp only[tb'] at hbd ⊢
 refine wr'<|E' (ZaM cv rfl hl0 ha0) pt<|E' (ZaM cv rfl hl1 ha1) pt<|E' (ZaM cv rfl hl2 ha2) pt<|ms<|wr'<|Vw (Zad lk gx Zbc rfl)<|mw<|?_
 refine Zac mp (Zpt (t:=r.1) (k:=r.2) hr om) pt ?_
 refine mw<|Vw (ZaS lk gt)<|Vw (ZaS lk gt)<|E' (ZaR hl3 ha3) pt<|E' (Zai lk cv gx rfl nb rfl Zf0 hs3) ptn<|ms<|wr'<|Vw (Zad lk gx Zbc rfl)<|Vw (Zad lk gx Zbc rfl)<|Zac mp (Zwu hr hs) pt<|mw<|?_
 refine Vw (ZaS lk gt)<|Vw (ZaS lk gt)<|E' (ZaR hl4 ha4) pt<|E' (Zai lk cv gx rfl nb rfl Zf0 hs4) ptn<|ms<|wr'<|Vw (Zad lk gx Zbc rfl)<|Vw (Zad lk gx Zbt rfl)<|Zac mp (Zxd hr hu) pt<|mw<|Vw (ZaS lk gt)<|?_
 refine Vw (ZaS lk gt)<|E' (ZaR hl5 ha5) pt<|E' (Zai lk cv gx rfl nb rfl ZhV hs5) ptn<|ms<|wr'<|Vw (Zad lk gx Zbc rfl)<|Zac mp (Zgo hr) pt<|ms<|Zab<|?_
 refine Zao<|mw<|mw<|mw<|mw<|mw<|ms<|wr'<|E' (ZaR hl6 ha6) pt<|sn'<|?_
 refine Zfg (ι:=AV) (λ(c:AV)=>[(16,iv (ZdD r nm).2),(20,.any)]++rn' 46 13) (λ(c:AV)=>[(6,.mk 0 34 4 [iv (ZdD r nm).1.1.1,iv (ZdD r nm).1.1.2.1,sv (ZdD r nm).1.1.2.2,c])]) (λ(c:AV)=>Wk c (chS (ZdD r nm).1.2)) ?_ ?_
 .try simp only[sm',Nat.reduceAdd]
  refine wm<|Vw (Za0 lk lki)<|sn'<|?_
  refine cd' lk (λhc1=>?_) (λhc1=>?_)
  .have hv0:ZaQ r=0:=hc1
   have hF0:ZdD r nm=match ZaP r.1 (tgtR r.2 nm) with | none=>(Zdr,5) | some t=>(t,0):=if_neg (by rw[hv0];simp)
   refine wr'<|Vw (Zad lk gx Zbc rfl)<|mw<|Zac mp (Zsd) pt<|ms<|wm<|Vw (ZaJ lk lki)<|sn'<|?_
   refine cd' lk (λhc2=>?_) (λhc2=>?_)
   .have hF:ZdD r nm=(Zdr,5):=by rw[hF0];have:=Zgd hc2;rw[ZbO] at this;rw[show ZaP r.1 (tgtR r.2 nm)=none by simpa using this]
    refine Zao<|mw<|Zam<|Zaw<|?_
    exact cT' ((.sl 0 0 true [])) (by rw[hF];exact Wk.nilF) (by refine zz ?_;exact ALe.same (by repeat (first | exact wk0 | refine wka ?_ | refine wk1 rfl ?_ | refine wk1 (by first | (rw[hF];done) | (rw[hF];exact ivx hv0.symm)) ?_)) (by first | (rw[hF];done) | (rw[hF];rfl)))
   obtain⟨hp,hat,hlk_⟩:=ZrV hc2
   have hF:ZdD r nm=(r.1[idxN r.1 (tgtR r.2 nm)].2,0):=by rw[hF0,hlk_]
   rw[show lookI (r.1,r.2) nm=_ from hat]
   refine Zao<|fq<|Vw (Zaa lk gx gt0)<|mw<|?_
   refine V' (ZaE lk lk ZaC nb ro om ro rfl) pt ?_
   refine Vw (ZaZ lk dp1)<|Vw (Zar lk Zxy rfl)<|E' (Zai lk cv gx rfl nb rfl Zf0 hs6) ptn<|Zam<|Zaw<|?_
   exact cT' ((chS (ZdD r nm).1.2)) (by exact Wk.refl _) (by refine zz ?_;exact ALe.same (by repeat (first | exact wk0 | refine wka ?_ | refine wk1 rfl ?_ | refine wk1 (by first | (rw[hF];done) | (rw[hF];exact ivx hv0.symm)) ?_)) (by first | (rw[hF];done) | (rw[hF];rfl)))
  have hF:ZdD r nm=(Zdr,ZaQ r):=if_pos hc1
  refine Zay<|Zaw<|?_
  exact cT' ((.sl 0 0 true [])) (by rw[hF];exact Wk.nilF) (by refine zz ?_;exact ALe.same (by repeat (first | exact wk0 | refine wka ?_ | refine wk1 rfl ?_ | refine wk1 (by first | (rw[hF];done) | (rw[hF];exact ivx hv0.symm)) ?_)) (by first | (rw[hF];done) | (rw[hF];rfl)))
 rintro c hq11
 try simp only[sm',Nat.reduceAdd]
 refine Zab<|wm<|Vw (Za0 lk lki)<|sn'<|?_
 refine cd' lk (λhc3=>?_) (λhc3=>?_)
 .have h0:ZaQ r=0:=hc3
  have hA:ZjN r u=updV r u:=if_neg (by simpa using h0)
  refine Zao<|Vw (Zad lk gx Zbc rfl)<|Zac mp (Zgo hs) pt<|ms<|wr'<|E' (ZaR hl7 ha7) pt<|sn'<|Zab<|wr'<|?_
  refine mw<|Vw (Za0 lk lki)<|sn'<|?_
  refine cd' lk (λhc4=>?_) (λhc4=>?_)
  .have hD:ZhF r s=(betU r s,0):=by unfold ZhF;rw[if_neg (by simpa using h0),if_neg (by simpa using hc4)]
   refine Zao<|Vw (Zad lk gx Zbc rfl)<|Vw (Zad lk gx Zbc rfl)<|Zac mp (rupd_a (r:=r) (s:=s) (f1:=false) (f2:=false) (f3:=false) (f4:=false) h0 hc4) pt<|E' (Zai lk cv gx rfl nb rfl Zf0 hs7) ptn<|sn'<|wr'<|E' (ZaR hl8 ha8) pt<|sn'<|Zab<|Zab<|?_
   refine Zao<|mw<|Vw (Za0 lk lki)<|sn'<|?_
   refine Zeg lk (by exact decide_eq_true hc3) ?_
   refine Zao<|Vw (Zad lk gx Zbc rfl)<|Vw (Zad lk gx Zbt rfl)<|Zac mp (Zu1 hr h0 hu) pt<|mw<|Vw (ZaS lk gt)<|Vw (ZaS lk gt)<|E' (Zai lk cv gx rfl nb rfl ZhV hs8) ptn<|ms<|wr'<|Zac mp0 (Zhp) pt<|?_
   refine mw<|sd<|Vw (Zad lk gx Zbc rfl)<|sd<|Zac mp (Zij hr) pt<|sd<|mw<|sd<|Vw (Za0 lk lk)<|Vw (Zaj lk lk)<|mw<|?_
   refine Zeh (t:=83) gt (b:=true) (by exact decide_eq_true rfl) pt ?_
   refine sd<|Vw (Zad lk gx Zbt rfl)<|sd<|mw<|sd<|mw<|sd<|Vw (Zad lk gx Zbt rfl)<|sd<|Zac mp (ZuC Zjy hq11) pt<|Vw (Zaj lk lk)<|mw<|sd<|mw<|?_
   refine sd<|mw<|sd<|Vw (Za0 lk lk)<|Vw (Zaj lk lk)<|mw<|?_
   refine Zeh (t:=95) gt (b:=true) (by exact decide_eq_true (by first | (rw[hD];done) | (rw[hD];exact hc4.symm))) pt ?_
   refine sd<|Vw (Zad lk gx Zbt rfl)<|sd<|Vw (Zad lk gx Zbt rfl)<|sd<|?_
   refine Zac mp (sameU_e (by rw[hD])) pt ?_
   refine Vw (Zaj lk lk)<|mw<|sd<|Vw (Zad lk gx Zbc rfl)<|sd<|mw<|sd<|mw<|sd<|Vw (Zad lk gx Zbc rfl)<|sd<|?_
   refine Zac mp (Zvc (by rw[hA]) (by rw[hA]) (λh=>by rw[hA] at h ⊢;exact Zuj h)) pt ?_
   exact Vw (Zaj lk lk)<|mr<|Zae rz<|rT' rfl
  have hD:ZhF r s=(upd0,ZaQ s):=by unfold ZhF;rw[if_neg (by simpa using h0),if_pos hc4]
  refine za<|wr'<|E' (ZaR hl8 ha8) pt<|sn'<|Zab<|wm<|Vw (Za0 lk lki)<|sn'<|?_
  refine Zeg lk (by exact decide_eq_true hc3) ?_
  refine Zao<|Vw (Zad lk gx Zbc rfl)<|Vw (Zad lk gx Zbt rfl)<|Zac mp (Zu1 hr h0 hu) pt<|mw<|Vw (ZaS lk gt)<|Vw (ZaS lk gt)<|E' (Zai lk cv gx rfl nb rfl ZhV hs8) ptn<|ms<|wr'<|Zac mp0 (Zhp) pt<|?_
  refine mw<|sd<|Vw (Zad lk gx Zbc rfl)<|sd<|Zac mp (Zij hr) pt<|sd<|mw<|sd<|Vw (Za0 lk lk)<|Vw (Zaj lk lk)<|mw<|?_
  refine Zeh (t:=83) gt (b:=true) (by exact decide_eq_true rfl) pt ?_
  refine sd<|Vw (Zad lk gx Zbt rfl)<|sd<|mw<|sd<|mw<|sd<|Vw (Zad lk gx Zbt rfl)<|sd<|Zac mp (ZuC Zjy hq11) pt<|Vw (Zaj lk lk)<|mw<|sd<|mw<|?_
  refine sd<|mw<|sd<|Vw (Za0 lk lk)<|Vw (Zaj lk lk)<|mw<|?_
  refine Zeh (t:=95) gt (b:=true) (by exact decide_eq_true (by first | (rw[hD];done) | (rw[hD];exact hc4.symm))) pt ?_
  refine sd<|Vw (Zad lk gx Zbt rfl)<|sd<|Vw (Zad lk gx Zbt rfl)<|sd<|?_
  refine Zac mp (ZuV (by rw[hD])) pt ?_
  refine Vw (Zaj lk lk)<|mw<|sd<|Vw (Zad lk gx Zbc rfl)<|sd<|mw<|sd<|mw<|sd<|Vw (Zad lk gx Zbc rfl)<|sd<|?_
  refine Zac mp (Zvc (by rw[hA]) (by rw[hA]) (λh=>by rw[hA] at h ⊢;exact Zuj h)) pt ?_
  exact Vw (Zaj lk lk)<|mr<|Zae rz<|rT' rfl
 have hD:ZhF r s=(upd0,ZaQ r):=if_pos hc3
 have hA:ZjN r u=(rel0,ZaQ r):=if_pos hc3
 refine za<|wr'<|E' (ZaR hl7 ha7) pt<|sn'<|Zab<|wm<|Vw (Za0 lk lki)<|sn'<|?_
 refine Zcr lk (by exact decide_eq_false hc3) ?_
 refine za<|wr'<|E' (ZaR hl8 ha8) pt<|sn'<|Zab<|wm<|Vw (Za0 lk lki)<|sn'<|?_
 refine Zcr lk (by exact decide_eq_false hc3) ?_
 refine za<|wr'<|Zac mp0 (Zhp) pt<|mw<|sd<|Vw (Zad lk gx Zbc rfl)<|sd<|Zac mp (Zij hr) pt<|sd<|mw<|sd<|Vw (Za0 lk lk)<|?_
 refine Vw (Zaj lk lk)<|mw<|?_
 refine Zeh (t:=83) gt (b:=true) (by exact decide_eq_true rfl) pt ?_
 refine sd<|Vw (Zad lk gx Zbt rfl)<|sd<|mw<|sd<|mw<|sd<|Vw (Zad lk gx Zbt rfl)<|sd<|Zac mp (ZuC Zjy hq11) pt<|Vw (Zaj lk lk)<|mw<|sd<|mw<|?_
 refine sd<|mw<|sd<|Vw (Za0 lk lk)<|Vw (Zaj lk lk)<|mw<|?_
 refine Zeh (t:=95) gt (b:=true) (by exact decide_eq_true (by first | (rw[hD];done) | (rw[hD];exact hc4.symm))) pt ?_
 refine sd<|Vw (Zad lk gx Zbt rfl)<|sd<|Vw (Zad lk gx Zbt rfl)<|sd<|?_
 refine Zac mp (ZuV (by rw[hD])) pt ?_
 refine Vw (Zaj lk lk)<|mw<|sd<|Vw (Zad lk gx Zbc rfl)<|sd<|mw<|sd<|mw<|sd<|Vw (Zad lk gx Zbc rfl)<|sd<|?_
 refine Zac mp (relIs_0 (by rw[hA]) (by rw[hA])) pt ?_
 exact Vw (Zaj lk lk)<|mr<|Zae rz<|rT' rfl
end
section
open Go.Ab Go.RowKit Go.Deep
section
variable {H : Type} {enc : TypeId × Value -> H} {P : Program} {w : World} {base : Nat} {spare : Nat -> Bool} {held : Bool}
def part_len {t e:TypeId}{fs:Array Field}{cs:Array Value}{x:DataW H}{p:List MemPlace}{ts:List TypeId}{ds:List (DataW H)}{j i:Nat}{f:Field}{A:Option Addr}{l c:Nat}
  (hw:(DataW.weightsEach P ts ds).all (· <= reachBytes)=true) (ht:ts[j]?=some t) (hd:ds[j]?=some x) (hu:P.underlying t=some (.struct fs)) (h:DataW.Trod enc P w base spare held t (.agg cs) x p)
  (hf:fs[i]?=some f) (ho:f.offset=i) (hc:P.cellsOf f.type=1) (he:P.underlying f.type=some (.slice e)) (hv:cs.toList[i]?=some (.slice A l c)):l*P.bytesOf e<=reachBytes:=by
 obtain⟨fuel,h⟩:=h
 obtain⟨xs,n,rfl,hx,hcl,hxl,hat⟩:=DataW.trod_struct hu h
 have hi:=hat i f hf
 have hlt:i<xs.length:=by rw[hxl];exact (Array.getElem?_eq_some_iff.1 hf).1
 have hit:i<cs.toList.length:=(List.getElem?_eq_some_iff.1 hv).1
 have hd1:((cs.toList.drop f.offset).take (P.cellsOf f.type))=[.slice A l c]:=by
  rw[ho,hc,List.drop_eq_getElem_cons hit,(List.getElem?_eq_some_iff.1 hv).2];rfl
 have hi2:DataW.trod enc P w base spare held n f.type [.slice A l c]=some xs[i]:=by
  rw[<-hd1,<-List.getElem?_eq_getElem hlt];exact hi
 have hx1:x=.agg (xs.map (·.1)):=congrArg (·.1) hx
 rcases open_slice he hi2 with ⟨e0,_⟩ | ⟨ad,len,cap,m,k,D,Pl,e0,_,hl,_,hmm,ex,_⟩
 .simp only[List.cons.injEq,Value.slice.injEq,and_true] at e0
  obtain⟨_,rfl,_⟩:=e0
  simp
 .simp only[List.cons.injEq,Value.slice.injEq,and_true] at e0
  obtain⟨_,rfl,_⟩:=e0
  have ex1:xs[i].1=.slice ((List.range l).map D) ((List.range (m-l)).map λj=>D (l+j)):=congrArg (·.1) ex
  have m1:(l+(m-l))*P.bytesOf e∈DataW.weights P f.type xs[i].1:=by
   rw[ex1];simp[DataW.weights,he]
  have m2:(l+(m-l))*P.bytesOf e∈DataW.weights P t x:=by
   rw[hx1]
   simp only[DataW.weights,hu]
   refine DataW.weights_mem_each (j:=i) (t:=f.type) (d:=xs[i].1) ?_ ?_ _ m1
   .have hfl:fs.toList[i]?=some f:=by simpa using hf
    simp[hfl]
   .simp[List.getElem?_eq_getElem hlt]
  have:=List.all_eq_true.1 hw _ (DataW.weights_mem_each ht hd _ m2)
  have h2:(l+(m-l))*P.bytesOf e<=reachBytes:=by simpa using this
  exact Nat.le_trans (Nat.mul_le_mul_right _ (Nat.le_add_right _ _)) h2
end
end
section
open Go.Ab Go.RowKit Go.Deep
section
variable {H : Type} {enc : TypeId × Value -> H} {P : Program} {w : World} {base : Nat} {spare : Nat -> Bool} {held : Bool}
def ZvU {P:Program}{e:TypeId}{d:DataW H}{m:Nat} : ∀ {l:List (DataW H)},d∈l->m∈DataW.weights P e d->m∈DataW.weightsAll P e l
 | x::l,h,hm=>by
  simp only[DataW.weightsAll]
  rcases List.mem_cons.1 h with rfl | h
  .exact List.mem_append_left _ hm
  .exact List.mem_append_right _ (ZvU h hm)
def Wd (enc:TypeId×Value->H) (P:Program) (w:World) (base:Nat) (spare:Nat->Bool) (held:Bool) (R:Nat) (t:TypeId) (cs:List Value):Prop :=
 ∃ fuel x,DataW.trod enc P w base spare held fuel t cs=some x /\ ∀ m∈DataW.weights P t x.1,m<=R
def Wd.field {t:TypeId}{cs:List Value}{fs:Array Field}{i:Nat}{f:Field}(h:Wd enc P w base spare held R t cs) (hu:P.underlying t=some (.struct fs)) (hf:fs[i]?=some f) :
  Wd enc P w base spare held R f.type ((cs.drop f.offset).take (P.cellsOf f.type)):=by
 obtain⟨fuel,x,h,hm⟩:=h
 obtain⟨xs,n,_,hx,hcl,hxl,hat⟩:=DataW.trod_struct hu h
 have hi:=hat i f hf
 have hlt:i<xs.length:=by rw[hxl];exact (Array.getElem?_eq_some_iff.1 hf).1
 rw[List.getElem?_eq_getElem hlt] at hi
 refine⟨n,xs[i],hi,λm hm1=>hm m ?_⟩
 rw[hx]
 simp only[DataW.weights,hu]
 refine DataW.weights_mem_each (j:=i) (t:=f.type) (d:=xs[i].1) ?_ ?_ _ hm1
 .have hfl:fs.toList[i]?=some f:=by simpa using hf
  simp[hfl]
 .simp[List.getElem?_eq_getElem hlt]
def Wd.part {t:TypeId}{cs cs1:List Value}{fs:Array Field}{i o k:Nat}{f:Field}(h:Wd enc P w base spare held R t cs) (hu:P.underlying t=some (.struct fs)) (hf:fs[i]?=some f) (ho:f.offset=o) (hc:P.cellsOf f.type=k) (he:(cs.drop o).take k=cs1):Wd enc P w base spare held R f.type cs1:=by
 subst ho hc he;exact h.field hu hf
def Wd.slice {t e:TypeId}{A:Option Addr}{l c:Nat}(h:Wd enc P w base spare held R t [.slice A l c]) (hu:P.underlying t=some (.slice e)) :
  l*P.bytesOf e<=R /\ ∀ i,i<l -> ∃ ad cs',A=some ad/\(∀ j v,cs'[j]?=some v->w.cell? ((ad.add (i*P.cellsOf e)).add j)=some v)/\cs'.length=P.cellsOf e/\Wd enc P w base spare held R e cs':=by
 obtain⟨fuel,x,h,hm⟩:=h
 rcases open_slice hu h with ⟨e0,_⟩ | ⟨ad,len,cap,m,k,D,Pl,e0,_,hl,_,hmm,ex,hat⟩
 .simp only[List.cons.injEq,Value.slice.injEq,and_true] at e0
  obtain⟨_,rfl,_⟩:=e0
  exact⟨by simp,λi hi=>by omega⟩
 .simp only[List.cons.injEq,Value.slice.injEq,and_true] at e0
  obtain⟨rfl,rfl,rfl⟩:=e0
  have hlm:l<=m:=by rw[hmm];split <;> omega
  have ex1:x.1=.slice ((List.range l).map D) ((List.range (m-l)).map λj=>D (l+j)):=congrArg (·.1) ex
  rw[ex1] at hm
  simp only[DataW.weights,hu] at hm
  refine⟨Nat.le_trans (Nat.mul_le_mul_right _ (Nat.le_add_right l (m-l))) (hm _ (by simp)),λi hi=>?_⟩
  obtain⟨cs',hc,ht⟩:=hat i om
  obtain⟨_,hcl,hcat⟩:=World.cells?_some hc
  refine⟨ad,cs',rfl,λj v hv=>?_,hcl,k,_,ht,λm' hm'=>hm m' ?_⟩
  .rw[hcat j (by have:=(List.getElem?_eq_some_iff.1 hv).1;omega)];exact hv
  .exact List.mem_cons_of_mem _ (List.mem_append_left _ (ZvU (List.mem_map.2 ⟨i,List.mem_range.2 hi,rfl⟩) hm'))
def Zxt {g:Gh} : ∀ {cs:List AV}{b off:Nat},RepC w g cs b off -> ∀ {k:Nat}{c:AV},cs[k]?=some c -> ∃ u,w.cell? ⟨b,off+k,none⟩=some u/\Rep w g c u
 | [],_,_,_,k,c,hk=>by simp at hk
 | d::cs,b,off,h,0,c,hk=>by
  simp only[RepC] at h
  simp only[List.getElem?_cons_zero,Option.some.injEq] at hk
  subst hk;exact h.1
 | d::cs,b,off,h,k+1,c,hk=>by
  simp only[RepC] at h
  obtain⟨u,h1,h2⟩:=Zxt h.2 (k:=k) (c:=c) (by simpa using hk)
  exact⟨u,by rw[<-h1];congr 2;omega,h2⟩
end
open Civ in
def upd_lens {H:Type}{enc:TypeId×Value->H}{W:World}{base:Nat}{spare:Nat->Bool}{held:Bool}{ts:List TypeId}{ds:List (DataW H)}{j:Nat}{v:Value}{x:DataW H}{p:List MemPlace}{u:Upd}
  (hw:(DataW.weightsEach Tryz.prog ts ds).all (· <= reachBytes)=true) (ht:ts[j]?=some 29) (hd:ds[j]?=some x) (h:DataW.Trod enc Tryz.prog W base spare held 29 v x p) (k:Rep W (g0 W) (.agg (updC u)) v) :
  u.2.1.length*72<=reachBytes/\u.2.2.2.length*32<=reachBytes /\ ∀ n∈u.2.1,n.2.2.length*40<=reachBytes:=by
 simp only[Rep,RepL] at k
 obtain⟨cs,rfl,u1,us1,e1,⟨_,A1,c1,rfl,_⟩,u2,us2,rfl,⟨_,A2,c2,rfl,hq1,hq2,hq3,hq4,hq5⟩,u3,us3,rfl,⟨_,A3,c3,rfl,_⟩,u4,us4,rfl,⟨_,A4,c4,rfl,_⟩,rfl⟩:=k
 have z4:=part_len hw ht hd Tryz.underlying29 h (i:=3) (e:=81) rfl rfl (by kernel_rfl) (by kernel_rfl) (by rw[e1];rfl)
 obtain⟨fuel,h⟩:=h
 have hW:Wd enc Tryz.prog W base spare held reachBytes 29 cs.toList:=⟨fuel,_,h,λm hm=>by
  have:=List.all_eq_true.1 hw _ (DataW.weights_mem_each ht hd _ hm)
  simpa using this⟩
 have h1:=hW.part (cs1:=[.slice A2 u.2.1.length c2]) Tryz.underlying29 (i:=1) (o:=1) (k:=1) rfl rfl (by kernel_rfl) (by rw[e1];rfl)
 obtain⟨z2,hel⟩:=h1.slice (e:=45) (by kernel_rfl)
 rw[show Tryz.prog.bytesOf 45=72 by kernel_rfl] at z2
 rw[show Tryz.prog.bytesOf 81=32 by kernel_rfl] at z4
 refine⟨z2,z4,λn hn=>?_⟩
 obtain⟨i,hi,rfl⟩:=List.getElem_of_mem hn
 obtain⟨ad,cs',rfl,hcell,hcl,hN⟩:=hel i hi
 rw[show Tryz.prog.cellsOf 45=5 by kernel_rfl] at hcell hcl
 obtain⟨b,off,e,_,hrc⟩:=hq5 (by
  intro h0
  have:=Zba u.2.1
  rw[h0] at this
  simp only[List.length_nil] at this
  omega)
 cases e
 have hk:(rows namC u.2.1)[i*5+4]?=some (chS u.2.1[i].2.2):=by
  have:=congrArg (·[4]?) (Zgl ZaC hi)
  simp only[List.getElem?_take,List.getElem?_drop] at this
  simpa using this
 obtain⟨y,hy1,hy2⟩:=Zxt hrc hk
 have h4:cs'[4]?=some cs'[4]:=List.getElem?_eq_getElem om
 have hyc:cs'[4]=y:=by
  have:=hcell 4 _ h4
  rw[show (Addr.add (Addr.add ⟨b,off,none⟩ (i*5)) 4)=⟨b,off+(i*5+4),none⟩ by simp only[Addr.add_lit,Nat.add_assoc],hy1] at this
  exact (Option.some.inj this).symm
 simp only[Rep] at hy2
 obtain⟨_,A5,c5,rfl,_⟩:=hy2
 have h5:=hN.part (cs1:=(cs'.drop 1).take 4) Tryz.underlying45 (i:=1) (o:=1) (k:=4) rfl rfl (by kernel_rfl) rfl
 have h6:=h5.part (cs1:=[.slice A5 u.2.1[i].2.2.length c5]) Tryz.underlying34 (i:=1) (o:=3) (k:=1) rfl rfl (by kernel_rfl) (by
  rw[<-hyc]
  match cs',hcl with
  | [a,b,c,d,e],_=>rfl)
 have z5:=(h6.slice (e:=104) (by kernel_rfl)).1
 rwa [show Tryz.prog.bytesOf 104=40 by kernel_rfl] at z5
end
section
open Go.Ab Go.RowKit Civ
abbrev LnkD:Ds:=.pair .str .str
end
end Go.Proofs.YthmgnolcfjiicaaGreatDoor
section
namespace Go
variable {H : Type} {enc : TypeId × Value -> H}
def Zpq {a:Assume}{C:Checked}{os:Os}{f:FuncId}{fn:Func}{s:ChangeSpec}{apart fresh handsOn again:Bool}{laid:List (String×DataW Unit)}
  (own:ownKnob C.prog.godebug=none) (started:os.Started) (noInit:C.prog.inits.idxOf? f=none) (hfn:C.prog.funcs[f]?=some fn)
  (witness : ∃ (w:World) (tape:Tape) (i:Input),w.os=os/\(w.forCall tape i).Shaped C.prog/\i.vars=[]/\Input.okWide C.prog (w.forCall tape i) .any w.heap.size f i /\
   ((s.pre enc C.prog fn [] apart (w.forCall tape i).memory i.args/\laidMetH C.prog laid (w.forCall tape i).memory)/\sizedMet enc C.prog fn (OpenSpec.ofChange s) apart (w.forCall tape i).memory i.args)/\a.holds C.prog (lone (Frame.enter C.prog f i.args .normal) [] (w.forCall tape i)))
  (contract : ∀ (W:World) (base:Nat) (args:Array Value) (ds gs:List (DataW H)) (before:List MemPlace),
   (∀ (j:Nat) t v,fn.params[j]?=some t->args[j]?=some v->Value.okWide C.prog W .any base t v) ->
   DataW.Whole enc C.prog fn.params.toList s.vars apart W args.toList ds gs before ->
   (DataW.weightsEach C.prog (fn.params.toList++s.plain.varTypes C.prog) (ds++gs)).all (· <= reachBytes)=true ->
   laidMetH C.prog laid W->W.ShapedOpen C.prog ->
   Calls C.prog f args W λe W' => ∃ v,e=.returned v/\s.post enc C.prog fn apart fresh handsOn again W args v W') :
  ReturnsInHanded a C os f .any (λw args=>(s.pre enc C.prog fn [] apart w args/\laidMetH C.prog laid w)/\sizedMet enc C.prog fn (OpenSpec.ofChange s) apart w args) (s.post enc C.prog fn apart fresh handsOn again):=by
 refine returnsInHanded_of_calls own started noInit witness ?_
 intro w tape i _ hsh _ hok hpre hholds
 obtain⟨_,_,_,fn',hfn',_,_,_,_,hval⟩:=hok
 have e:fn'=fn:=Option.some.inj (hfn'.symm.trans hfn)
 subst e
 obtain⟨⟨⟨ds,gs,before,hw,hc⟩,hx⟩,hz⟩:=hpre
 have hw':=DataW.Whole.of_heap (w':=w.forCall tape i) (by rfl) hw
 refine (contract (w.forCall tape i) w.heap.size i.args ds gs before hval hw' (hz.weights hw) (hx.of_heap (by rfl)) hsh).mono λe W' ⟨v,he,hp⟩=>?_
 subst he
 exact ChangeSpec.post_blind hp
end Go
namespace Go.Proofs.YthmgnolcfjiicaaGreatDoor
open Go.ChangeShapes Go.WideShapes Go.ChangeAt Go.RowKit Go.Ab
def LaidOk (l:List (String×DataW Unit)):Prop:=l.length=l.length
def globW {W:World}{l:List (String×DataW Unit)}(hsh:W.ShapedOpen Tryz.prog) (hL:laidMetH Tryz.prog l W) (hl:LaidOk l):GlobW W where
 tt:=trivial
 maxLen:=cell_of_shapedOpen_int (t:=3) (zero := #[.int .i64 0]) hsh (of_decide_eq_true (by kernel_rfl)) (by kernel_rfl) rfl (by kernel_rfl) (by kernel_rfl) Tryz.underlying3
end Go.Proofs.YthmgnolcfjiicaaGreatDoor
end
