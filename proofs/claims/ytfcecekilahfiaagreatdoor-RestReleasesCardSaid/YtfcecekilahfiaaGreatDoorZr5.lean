/-
  Part 5 of the proof: own lemmas and contracts on plain data. No condition beyond those that each lemma states.
-/
import Derived.Test.YtfcecekilahfiaaGreatDoorZr4
import Derived.Sort.OwnSortedInts
import Derived.Maps.OwnOps
import Derived.Maps.RangeWalk
import Derived.Maps.Views
import Derived.Sort.KeysCollected
import Derived.WalkSpells
import Derived.WalkLawsBesides
import Derived.Lib.Hide
import Derived.Deep.QuietTactic
import Derived.BigQuiet
import Derived.Lib.QuietBelow
import Derived.SizedLaws
import Derived.Test.YtfcecekilahfiaaGreatDoorCards
import Derived.Test.YtfcecekilahfiaaGreatDoorTie
import Derived.Lay
import Derived.Handed
import Derived.Shelf.Vars
import Derived.SevenTiedAt
import Derived.LaidSub
import Derived.MakeChecks
set_option linter.all false
set_option maxRecDepth 1000000
set_option maxHeartbeats 4000000
namespace Go.Proofs.YtfcecekilahfiaaGreatDoor
open Go.Ab
variable {h:AH}{g:Gh}{n x:Int}{b i k lo m:Nat}{r s:Rel}{v:Value}{w w1:World}
section
open Go.Ab Civ
attribute [local simp] Cp Um Ic aR I3
def qO {t:Tab}{full:Bool}(ht:okT t) (hv:Bw t=0) :
  Ac 49 [.agg [iv t.1.1,iv t.1.2.1,sv t.1.2.2,.sl t.2.length 4 full (rows chgC t.2)]] h (sv ⟨(enc t).toArray⟩):=by
 obtain⟨hv1,hv2,hv3⟩:=Nr hv;have hkl : ∀ x∈kinds t,locE x=0:=hJ _ _ (by intro x hx;simp at hx;subst hx;exact hv2) (λc hc=>(hv3 c hc).2);have hkn:=tR t;have hIl:(Uy t).length=t.2.length:=iE _ _;refine tI' k49 λN hn hlt _ hbd=>?_;simp only[tb'] at hbd ⊢;refine wr'<|E' (Bq cv rfl hl0 ha0) pt<|ms<|wr'<|Vw (Bb E4)<|E' (Bq cv rfl hl1 ha1) pt<|mw<|Am<|?_;refine B0 (ALe.trans (ALe.own0Cell (st':=1) (ty:=5) gx gt0 hl2 pt0 (Eq.trans (congrArg (λz=>List.set z _ _) ha2) hs1)) (ALe.own0Cell (st':=3) (ty:=27) gx gt1 hl3 pt1 (Eq.trans (congrArg (λz=>List.set z _ _) ha3) hs1))) ?_;refine wm<|fq<|Vw (Ak lk gx Ap rfl)<|?_;refine Hh mp (kind_a (K:=[]) (l:=t.1) (B:=.own (N+2) 0 0) gx gx om (by simp) (by simp[AV.lt,hn]) rfl) hs1 hs3 pt ?_;refine mv' lk17 pt4<|sn'<|wr'<|mv' lkn pt5<|Am<|B0 (ALe.own0' (st':=1) (ty:=3) gt5 hl4 pt5 ha4)<|Ab<|wr'<|V' (G0 lk1) pt18<|V' (Aa lk18 gx gt3) pt19<|V' (Bf lk19) pt20<|?_;refine ms<|Ah<|?_;refine w_lp (ι:=Nat×List Loc×List Nat×Nat×Nat) (λ⟨i,K,I,vk,vi⟩=>[(5,.own (N+4) vi I.length),(21,iv (i:Int)),(7,.any)]++rn' 22 11) (λ⟨i,K,I,vk,vi⟩=>[(1,.mk 0 152 2 [.own (N+2) 0 0,.own (N+3) vk K.length]),(3,.mk vk 27 3 (rows Ih K)),(4,.mk vi 3 1 (rows inC I))]) (λ⟨i,K,I,vk,vi⟩=>i<=t.2.length/\I.length=i/\kinds t=ksOf K (t.2.drop i)/\Uy t=I++isOf K (t.2.drop i)/\K.length<=i+1) (λ⟨i,K,I,vk,vi⟩=>t.2.length-i) (⟨0,[t.1],[],1,0⟩) (by exact⟨by omega,rfl,by simp[kinds],by simp[Uy],by simp⟩) ?_;rintro⟨i,K,I,vk,vi⟩ hi1;try simp only[sm',Nat.reduceAdd]
 obtain⟨hi1,hi2,hi3,hi4,hi5⟩:=hi1;refine wr'<|Vw (Bm lk lk)<|sn'<|Ab<|?_;refine cd' lk (λhc1=>?_) (λhc1=>?_)
 .have hk:i<t.2.length:=by omega
  rw[List.drop_eq_getElem_cons hk] at hi3 hi4;have hkl2:=kL K t.2[i].2;refine za<|Ab<|Ah<|wr'<|?_;refine V' (Bh lk lk Cg nb ro om ro rfl) pt ?_;refine Vw (Ax lk Bv rfl)<|E' (Bz hl5 ha5) pt<|E' (Ai lk cv gx rfl nb rfl Ay hs5) ptn<|sn'<|Aq<|mw<|mw<|fq<|Vw (Ak lk gx Dj rfl)<|?_;refine Hh mp (kind_a (K:=K) (l:=t.2[i].2) (B:=.own (N+2) 0 0) gx gx om om (by simp[AV.lt,hn]) rfl) hs1 hs3 pt ?_;refine E' (Ep (Hk cw) hl6 ha6) pt ?_;refine E' (C6 (C0 lk gx rfl Ee nb) lk gx (in_len _) om rfl hs4) pt ?_;refine mw<|Am<|Aw<|An<|Aq<|?_;refine ad<|mw<|Am<|Az<|?_;refine lU' (⟨i+1,addK K t.2[i].2,I++[idx K t.2[i].2],bump K t.2[i].2 vk,vi+1⟩) (by (try dsimp only);exact⟨hk,by rw[List.length_append,hi2];rfl,by rw[hi3,ksOf],by rw[hi4,isOf,List.append_assoc];rfl,by omega⟩) (by refine zz ?_;exact bkE' 5 hn hlt (by repeat (first | exact wk0 | refine wka ?_ | refine wk1 rfl ?_ | refine wk1 (by first | rfl | exact ivx om | (rw[List.length_append];rfl) | (simp;done)) ?_)) (by simp only[Bt,C3];rfl))
 rw[List.drop_eq_nil_of_le om,ksOf] at hi3;rw[List.drop_eq_nil_of_le om,isOf,List.append_nil] at hi4;subst hi3 hi4;refine Bd<|As<|As<|Bp<|An<|wm<|mw<|Vw (Cr lk)<|fq<|Vw (Aa lk gx gt1)<|Vw (Ej lk)<|?_;refine Hh mp (N4 (L:=[]) (k:=2) gx gx om om (by simp) (by simp[AV.lt,hn])) hs1 hs2 pt ?_;refine sn'<|Ab<|wm<|Vw (Cr lk)<|fq<|Vw (Aa lk gx gt1)<|Vw (Ej lk)<|ms<|Ah<|?_;refine w_lp (ι:=Nat×List UInt8×Nat) (λ⟨j,M,v⟩=>[(45,iv (j:Int)),(9,.any)]++rn' 46 28) (λ⟨j,M,v⟩=>[(1,.mk 0 152 2 [.own (N+2) v M.length,.own (N+3) vk (kinds t).length]),(2,.mk v 5 1 (rows u8R M))]) (λ⟨j,M,v⟩=>j<=(kinds t).length/\M=le 2 (kinds t).length++((kinds t).take j).flatMap encL/\M.length<=2+30*j) (λ⟨j,M,v⟩=>(kinds t).length-j) (⟨0,le 2 (kinds t).length,2⟩) (by exact⟨by omega,by simp,by rw[Me];omega⟩) ?_;rintro⟨j,M,v⟩ hi2;try simp only[sm',Nat.reduceAdd]
 obtain⟨hj1,hj2,hj3⟩:=hi2;refine wr'<|Vw (Bm lk lk)<|sn'<|Ab<|?_;refine cd' lk (λhc2=>?_) (λhc2=>?_)
 .have hk:j<(kinds t).length:=by omega
  have hok:=Nm (hkl _ (List.getElem_mem hk));have hME:(M++encL (kinds t)[j]).length=(((M++le 3 ((kinds t)[j].1+100000))++le 2 (kinds t)[j].2.1)++le 1 ((kinds t)[j].2.2.size:Int)).length+(kinds t)[j].2.2.data.toList.length:=by simp[encL];omega
  have hMr:rows u8R (M++encL (kinds t)[j])=rows u8R (((M++le 3 ((kinds t)[j].1+100000))++le 2 (kinds t)[j].2.1)++le 1 ((kinds t)[j].2.2.size:Int))++rows u8R (kinds t)[j].2.2.data.toList:=by rw[<-Bt];simp[encL]
  have hsz:(kinds t)[j].2.2.data.toList.length=(kinds t)[j].2.2.size:=by simp
  refine za<|Ab<|Ah<|wr'<|?_;refine V' (Ck lk lk gx Mq nb ro om (by first | rfl | (simp;done) | omega)) pt ?_;refine V' (Iv lk gx Mq om rfl) pt ?_;refine E' (Bz hl5 ha5) pt<|E' (Ai lk cv gx rfl nb rfl Bo hs5) ptn<|sn'<|wm<|fq<|Vw (Aa lk gx gt0)<|?_;refine ad<|Hh mp (N4 (L:=M) (k:=3) gx gx om om om (by simp[AV.lt,hn])) hs1 hs2 pt ?_;refine sn'<|wm<|fq<|Vw (Aa lk gx gt1)<|?_;refine Hh mp (N4 (L:=M++le 3 _) (k:=2) gx gx om om (by simp[Me];omega) (by simp[AV.lt,hn])) hs1 hs2 pt ?_;refine sn'<|wm<|fq<|Vw (Aa lk gx gt2)<|Vw (E6 lk)<|?_;refine Hh mp (N4 (L:=(M++le 3 _)++le 2 _) (k:=1) gx gx om om (by simp[Me];omega) (by simp[AV.lt,hn])) hs1 hs2 pt ?_;refine sn'<|Bl<|Dw vm<|Dw vm<|Dw (Cr lk)<|dg<|Dw (Aa lk gx gt0)<|dg<|Dw (Aa lk gx gt2)<|Bi<|?_;refine B9 ?_;refine E' (C6 (sc_strR lk) lk gx (u8_len _) (by simp[Me];omega) (u8_leaf _) hs2) pt ?_;refine Vw (Cr lk)<|fq<|E' (Ai lk cv gx rfl nb rfl Ct hs1) ptn<|Am<|Aw<|An<|Aq<|?_;refine ad<|mw<|Am<|Az<|?_;refine lU' (⟨j+1,M++encL (kinds t)[j],v+3+2+1+1⟩) (by (try dsimp only);refine⟨by omega,by rw[hj2,aX encL hk,List.append_assoc],?_⟩;rw[List.length_append,encL_len];omega) (by refine zz ?_;exact bk' 5 hn hlt (by rw[hME,hMr];rfl))
 have hjl:j=(kinds t).length:=by omega
 rw[hjl,List.take_length] at hj2;refine Bd<|As<|As<|Bp<|An<|wm<|mw<|?_;refine Hh mp (N4 (L:=M) (k:=2) gx gx om om om (by simp[AV.lt,hn])) hs1 hs2 pt ?_;refine sn'<|wm<|fq<|Vw (Aa lk gx gt3)<|Vw (Bf lk)<|?_;refine Hh mp (N4 (L:=M++le 2 _) (k:=2) gx gx om om (by simp[Me];omega) (by simp[AV.lt,hn])) hs1 hs2 pt ?_;refine sn'<|Ab<|wr'<|fq<|Vw (Aa lk gx gt3)<|Vw (Bf lk)<|ms<|Ah<|?_;refine w_lp (ι:=Nat×List UInt8×Nat) (λ⟨i,P,w⟩=>[(85,iv (i:Int)),(10,.any),(11,.any)]++rn' 86 16) (λ⟨i,P,w⟩=>[(1,.mk 0 152 2 [.own (N+2) w P.length,.own (N+3) vk (kinds t).length]),(2,.mk w 5 1 (rows u8R P))]) (λ⟨i,P,w⟩=>i<=t.2.length/\P=M++(le 2 0++(le 2 t.2.length++((t.2.zip (Uy t)).take i).flatMap encC))) (λ⟨i,P,w⟩=>t.2.length-i) (⟨0,(M++le 2 0)++le 2 t.2.length,v+2+2⟩) (by exact⟨by omega,by simp⟩) ?_;rintro⟨i,P,w⟩ hi3;try simp only[sm',Nat.reduceAdd]
 obtain⟨hp1,hp2⟩:=hi3;have hpl:P.length<=32000+7*i:=by rw[hp2];simp only[List.length_append,Me,zip_len hp1 hIl];omega
 refine wr'<|Vw (Bm lk lk)<|sn'<|Ab<|?_;refine cd' lk (λhc3=>?_) (λhc3=>?_)
 .have hk:i<t.2.length:=by omega
  have hok:=Tg.1 (hv3 _ (List.getElem_mem hk)).1;refine za<|Ab<|Ah<|wm<|?_;refine V' (Bh lk lk Cg nb ro om ro rfl) pt ?_;refine Vw (Ax lk Bv rfl)<|E' (Bz hl5 ha5) pt<|mw<|E' (Ai lk cv gx rfl nb rfl Ay hs5) ptn<|sn'<|wm<|fq<|Vw (Aa lk gx gt0)<|?_;refine ad<|Hh mp (N4 (L:=P) (k:=5) gx gx om om om (by simp[AV.lt,hn])) hs1 hs2 pt ?_;refine sn'<|Aq<|mw<|mw<|mw<|?_;refine V' (Ck lk lk gx dQ nb ro om (by first | rfl | (simp;done) | omega)) pt ?_;refine V' (Jm lk gx dQ om rfl) pt ?_;refine Hh mp (N4 (L:=P++le 5 _) (k:=2) gx gx om om (by simp[Me];omega) (by simp[AV.lt,hn])) hs1 hs2 pt ?_;refine Am<|Aw<|An<|Aq<|?_;refine ad<|mw<|Am<|Az<|?_;refine lU' (⟨i+1,P++encC (t.2[i],(Uy t)[i]'(by omega)),w+5+2⟩) (by (try dsimp only);exact⟨by omega,by rw[hp2,eT hk hIl];simp⟩) (by refine zz ?_;exact bk' 5 hn hlt (by rw[show P++encC (t.2[i],(Uy t)[i]'(by omega))=(P++le 5 (t.2[i].1+274877906944))++le 2 (((Uy t)[i]'(by omega):Nat):Int) from by simp[encC]];rfl))
 refine Bd<|As<|As<|Bp<|An<|wm<|Vw (Cr lk)<|fq<|Vw (Aa lk gx gt0)<|?_;refine V' (v_b2sO lk gx ro) pt ?_;refine mr<|Ad rz<|rT'<|?_;have hil:i=t.2.length:=by omega
 rw[hp2,hj2,hil];rw[List.take_of_length_le (by rw[List.length_zip];omega)];simp[enc]
def jH {t:Tab}{full:Bool}(ht:okT t) :
  Ac 19 [.agg [iv t.1.1,iv t.1.2.1,sv t.1.2.2,.sl t.2.length 4 full (rows chgC t.2)]] h (.tup [sv (if Bw t=0 then ⟨(enc t).toArray⟩ else ⟨#[]⟩),iv (Bw t)]):=by
 refine tI' k19 λN hn _ _ hbd=>?_;simp only[tb'] at hbd ⊢;refine wr'<|E' (Bq cv rfl hl0 ha0) pt<|mw<|ms<|Ab<|wr'<|Vw (Ak lk gx Av rfl)<|Af mp (Kg (l:=t.2) ht.1 ht.2) pt<|mw<|Am<|?_;refine An<|wm<|Vw (Ca lk lki)<|sn'<|?_;refine cd' lk (λhc1=>?_) (λhc1=>?_)
 .refine wm<|mw<|mr<|Ag<|Ad ry<|rT'<|?_;have e:Bw t≠0:=hc1;rw[if_neg e]
 refine za<|wr'<|Vw (Ak lk gx Av rfl)<|?_;refine Af mp (qO (t:=t) ht (Decidable.of_not_not hc1)) pt ?_;refine mw<|mr<|Ad ry<|rT'<|?_;have e:Bw t=0:=Decidable.of_not_not hc1;rw[if_pos e,e]
end
section
open Go.Ab Civ
attribute [local simp] Cp Um Ic aR I3
section
def Y1 {τ:Operand->AV}{y0:Operand}{a:AV}(h0:Lf τ y0 [a]):Cm τ [(0,1,y0)] [(.v (.string ⟨#[]⟩)),(.v (.bool false)),(.sl 0 0 true [])]=some [a,(.v (.bool false)),(.sl 0 0 true [])]:=fl h0 rfl
end
def k20:=Kx 20 [.e [9] 2 [true,true,false],.e [17] 2 [true,true,false]]
abbrev P1:=List UInt8×Bool×List Loc×Nat
abbrev P2:=List UInt8×Bool×List Chg×Nat
def st1 (s:P1):P1:=(d1S s.1,d1B s.1 s.2.1,s.2.2.1++[d1L s.1],s.2.2.2+1)
def st2 (K:List Loc) (s:P2):P2:=(d2S s.1,d2B K s.1 s.2.1,s.2.2.1++[d2C K s.1],s.2.2.2+1)
def p1 (S:List UInt8):P1:=Lw (λs:P1=>s.2.1) st1 (nm (tkR 2 S)).toNat (tkS 2 S,tkB 2 S false,[],0)
def q0 (S:List UInt8):List UInt8:=tkS 2 (p1 S).1
def qB (S:List UInt8):Bool:=lcB (p1 S).2.2.1 (p1 S).1 (p1 S).2.1
def p2 (S:List UInt8):P2:=Lw (λs:P2=>s.2.1) (st2 (p1 S).2.2.1) (nm (tkR 2 (q0 S))).toNat (tkS 2 (q0 S),tkB 2 (q0 S) (qB S),[],0)
def pT (S:List UInt8):Tab:=(lcR (p1 S).2.2.1 (p1 S).1,(p2 S).2.2.1)
def decV (S:List UInt8):Tab×Int:=if (p2 S).2.1=false/\Bw (pT S)=0/\enc (pT S)=S then (pT S,0) else (Ga,1)
def Tw {σ:Type}{sh:σ->Bool}{step:σ->σ}{Inv:Nat->σ->Prop}(hI : ∀ k s,Inv (k+1) s->sh s=false->Inv k (step s)) : ∀ (m:Nat) (s:σ),Inv m s -> ∃ k,Inv k (Lw sh step m s)
 | 0,s,h=>⟨0,h⟩
 | m+1,s,h=>by
  cases hs:sh s
  .rw[iC hs];exact Tw hI m _ (hI m s h hs)
  rw[iB _ hs];exact⟨_,h⟩
def Inv1 (k:Nat) (s:P1):Prop:=s.2.2.1.length+k<=65535 /\ ∀ x∈s.2.2.1,x.2.2.size<=maxLen
def Inv2 (k:Nat) (s:P2):Prop:=s.2.2.1.length+k<=65535 /\ ∀ x∈s.2.2.1,x.2.2.2.size<=maxLen
def nm2_bd (S:List UInt8):(nm (tkR 2 S)).toNat<=65535:=by
 have hb:=gO (tkR 2 S);have hl:=Vr 2 S;have:(256:Int) ^ (tkR 2 S).length<=256 ^ 2:=by exact_mod_cast Nat.pow_le_pow_right om hl
 omega
def d1L_ok (S:List UInt8):(d1L S).2.2.size<=maxLen:=by
 have h1:=Oj (n:=1) om (s2 S);have h2:=Vr (nl S) (s3 S);have h3:nl S<=1099511627776:=by unfold nl;omega
 show (tkR (nl S) (s3 S)).length<=maxLen;unfold maxLen;omega
def aP : ∀ k s,Inv1 (k+1) s->s.2.1=false->Inv1 k (st1 s):=by
 rintro k s ⟨h1,h2⟩ _;refine⟨by simp only[st1,List.length_append,List.length_singleton];omega,λx hx=>?_⟩;simp only[st1] at hx;rcases List.mem_append.1 hx with h | h
 .exact h2 x h
 simp at h;subst h;exact d1L_ok _
def mD {K:List Loc}(hK : ∀ x∈K,x.2.2.size<=maxLen) (S:List UInt8):(lcR K S).2.2.size<=maxLen:=by
 unfold lcR;rw[List.getD_eq_getElem?_getD];cases h:K[(nm (tkR 2 S)).toNat]? with
 | none=>decide
 | some x=>exact hK x (List.mem_of_getElem? h)
def aO {K:List Loc}(hK : ∀ x∈K,x.2.2.size<=maxLen) : ∀ k s,Inv2 (k+1) s->s.2.1=false->Inv2 k (st2 K s):=by
 rintro k s ⟨h1,h2⟩ _;refine⟨by simp only[st2,List.length_append,List.length_singleton];omega,λx hx=>?_⟩;simp only[st2] at hx;rcases List.mem_append.1 hx with h | h
 .exact h2 x h
 simp at h;subst h;exact mD hK _
abbrev zT:Ent:=.mk 0 30 4 [.v (.int .i64 0),.v (.int .i64 0),.v (.string ⟨#[]⟩),.sl 0 0 true []]
def decode_f {S:List UInt8}:Ac 20 [sb S] h (.tup [N9 (decV S).1,iv (decV S).2]):=by
 have hz:Wk (.agg [.v (.int .i64 0),.v (.int .i64 0),.v (.string ⟨#[]⟩),.sl 0 0 true []]) (N9 Ga):=Wk.agg (wk1 rfl (wk1 rfl (wk1 rfl (wkw Wk.nilS wk0))));have hm1:=nm2_bd S;refine tW' k20 λN hn _ _ hbd=>?_;simp only[tb'] at hbd ⊢;refine wr'<|E' (Bz hl0 ha0) pt<|ms<|wm<|Vw (Bb (Y1 cw))<|E' (Bq cv rfl hl1 ha1) pt<|E' (Bz hl2 ha2) pt<|E' (Ai lk cv gx rfl nb rfl Ct hs2) ptn<|Am<|?_;refine B0 (ALe.trans (ALe.own0Cell (st':=3) (ty:=27) gx gt2 hl3 pt2 (Eq.trans (congrArg (λz=>List.set z _ _) ha3) hs1)) (ALe.icePtr gx gt4 (by simp) pt4 hs2)) ?_;refine Ab<|Qr []<|d_ldR lk rfl pt<|Dw (Ba lk gt)<|Bi<|P4<|?_;refine dM mp (Jd (n:=2) gx (by simp[AV.lt,hn]) om) hs1 (by intro i hi;simp at hi) pt ?_;refine Uz rfl (J5 mp) pt ?_;refine dN mp (Zm (H:=λs:P1=>h++[zT,.mk 0 103 3 [sb s.1,bv s.2.1,.own (N+3) s.2.2.2 s.2.2.1.length],.gone,.mk s.2.2.2 27 3 (rows Ih s.2.2.1)]) (sh:=λs:P1=>s.2.1) (step:=st1) (Inv:=Inv1) (f:=52) (caps:=[.rp [.ptr (N+1) 0 0]]) (m:=(nm (tkR 2 S)).toNat) (s0:=(tkS 2 S,tkB 2 S false,[],0)) (λs=>⟨_,_,hga hn rfl⟩) aP (λk s hs _=>(d1_a gx gx om (by have:=hs.1;omega)).mono λr h' hr=>⟨hr.1,by rw[hr.2,hs1 hn,hs3 hn];rfl⟩) (by have:=Oj (n:=2) om S;omega) (by have:=Oj (n:=2) om S;omega) ⟨by simpa using hm1,by intro x hx;cases hx⟩) (by intro i hi;simp at hi) pt ?_;have hJ1:=Tw aP (nm (tkR 2 S)).toNat (tkS 2 S,tkB 2 S false,[],0) ⟨by simpa using hm1,by intro x hx;cases hx⟩;try dsimp only
 have hp1:p1 S=Lw (λs:P1=>s.2.1) st1 (nm (tkR 2 S)).toNat (tkS 2 S,tkB 2 S false,[],0):=rfl;rw[<-hp1] at hJ1 ⊢;obtain⟨kJ,hJ2,hJ3⟩:=hJ1;generalize hQ1:p1 S=Q1 at hJ2 hJ3 ⊢;obtain⟨S1,b1,K1,v1⟩:=Q1;dsimp only at hJ2 hJ3 ⊢;refine U4 ?_;refine B0 (ALe.iceCellR (hga hn rfl) (hga hn rfl) om gt2 (List.take_of_length_le (by rw[V8];exact Nat.le_refl _)) (by rw[V8];exact Nat.le_refl _) pt2 hs3 hs1) ?_;refine wr'<|Vw (Ba lk gt)<|H2 mp (fP (K:=K1) gx) hs1 pt<|Vw (Bb (N0 cw))<|E' (Bz hl4 ha4) pt<|E' (Ai lk cv gx rfl nb rfl Ay hs4) ptn<|Am<|?_;refine B0 (ALe.own0Cell (st':=4) (ty:=86) gx gt3 hl5 pt3 (Eq.trans (congrArg (λz=>List.set z _ _) ha5) hs4)) ?_;have hm2:=nm2_bd (tkS 2 S1);refine Ab<|Qr []<|d_ldR lk rfl pt<|Dw (Ba lk gt)<|Bi<|P4<|?_;refine dM mp (Jd (n:=2) gx (by simp[AV.lt,Ic]) om) hs1 (by intro i hi;simp at hi) pt ?_;refine Uz rfl (J5 mp) pt ?_;refine dN mp (Zm (H:=λs:P2=>h++[zT,.mk 0 103 3 [sb s.1,bv s.2.1,.sl K1.length 3 false (rows Ih K1)],.gone,.gone,.mk 0 30 4 [iv (lcR K1 S1).1,iv (lcR K1 S1).2.1,sv (lcR K1 S1).2.2,.own (N+5) s.2.2.2 s.2.2.1.length],.mk s.2.2.2 86 4 (rows chgC s.2.2.1)]) (sh:=λs:P2=>s.2.1) (step:=st2 K1) (Inv:=Inv2) (f:=55) (caps:=[.rp [.ptr (N+1) 0 0],.ptr (N+4) 0 0]) (m:=(nm (tkR 2 (tkS 2 S1))).toNat) (s0:=(tkS 2 (tkS 2 S1),tkB 2 (tkS 2 S1) (lcB K1 S1 b1),[],0)) (λs=>⟨_,_,hga hn rfl⟩) (aO hJ3) (λk s hs _=>(d2_a gx gx gx om om om (by have:=hs.1;omega)).mono λr h' hr=>⟨hr.1,by rw[hr.2,hs1 hn,hs4 hn,hs5 hn];rfl⟩) (by have:=Oj (n:=2) om (tkS 2 S1);omega) (by have:=Oj (n:=2) om (tkS 2 S1);omega) ⟨by simpa using hm2,by intro x hx;cases hx⟩) (by intro i hi;simp at hi) pt ?_;have hJ4:=Tw (aO hJ3) (nm (tkR 2 (tkS 2 S1))).toNat (tkS 2 (tkS 2 S1),tkB 2 (tkS 2 S1) (lcB K1 S1 b1),[],0) ⟨by simpa using hm2,by intro x hx;cases hx⟩;try dsimp only
 have hp2:p2 S=Lw (λs:P2=>s.2.1) (st2 K1) (nm (tkR 2 (tkS 2 S1))).toNat (tkS 2 (tkS 2 S1),tkB 2 (tkS 2 S1) (lcB K1 S1 b1),[],0):=by simp only[p2,q0,qB,hQ1]
 rw[<-hp2] at hJ4 ⊢;obtain⟨kJ2,hJ5,hJ6⟩:=hJ4;generalize hQ2:p2 S=Q2 at hJ5 hJ6 ⊢;obtain⟨S2,b2,C2,v2⟩:=Q2;dsimp only at hJ5 hJ6 ⊢;have hpT:pT S=(lcR K1 S1,C2):=by simp only[pT,hQ1,hQ2]
 refine U4 ?_;refine B0 (ALe.iceCellRF (hga hn rfl) (hga hn rfl) om gt3 (List.take_of_length_le (by rw[Cu];exact Nat.le_refl _)) (by rw[Cu];exact Nat.le_refl _) rfl pt3 hs5 hs4) ?_;refine Ab<|wr'<|Vw (Ba lk gt)<|Vw (Cr lk)<|fq<|Vw (Aa lk gx gt1)<|mw<|?_;refine Cz (t:=26) gt pt pt (λhg26=>?_) (λhg26=>?_)
 .refine so<|so<|so<|Vw (Ar lk lkb)<|mw<|so<|so<|so<|so<|Vw (Ar lk lkb)<|sn'<|Cx lk<|Ab<|?_;refine Aq<|Vw (Bb B5)<|E' (Ai lk cv gx rfl nb rfl Ay hs0) ptn<|mr<|Ag<|Ad (rsn (rm1 (rr_c gt gx (ld1 Av rfl)) (rm1 (rr_t gt) rm0)))<|rtW'<|?_;have hd:decV S=(Ga,1):=if_neg (by rintro⟨e,_⟩;rw[hQ2] at e;simp only at e;rw[hg26] at e;cases e);rw[hd];exact Wk.tup (wkw hz (wk1 rfl wk0))
 refine sd<|Vw (Ak lk gx Av rfl)<|sd<|?_;refine Af mp (ACalls.wk (wkw (Is (t:=(lcR K1 S1,C2))) wk0)<|Kg (l:=C2) (mD hJ3 S1) hJ6) pt ?_;refine sd<|Vw (Ca lk lki)<|Vw (Ao lk lk)<|mw<|?_;refine sp' (t:=31) gt pt pt (λhg31=>?_) (λhg31=>?_)
 .refine so<|so<|so<|so<|Vw (Ar lk lkb)<|sn'<|Cx lk<|wr'<|Vw (Bb B5)<|E' (Ai lk cv gx rfl nb rfl Ay hs0) ptn<|mw<|Am<|?_;refine An<|C4<|Ag<|Ad (rsn (rm1 (rr_c gt gx (ld1 Av rfl)) (rm1 (rr_t gt) rm0)))<|rtW'<|?_;have hd:decV S=(Ga,1):=if_neg (by rintro⟨_,e,_⟩;rw[hpT] at e;exact hg31 e);rw[hd];exact Wk.tup (wkw hz (wk1 rfl wk0))
 refine sd<|Vw (Ak lk gx Av rfl)<|sd<|?_;refine Af mp (ACalls.wk (wkw (Is (t:=(lcR K1 S1,C2))) wk0)<|qO (t:=(lcR K1 S1,C2)) ⟨mD hJ3 S1,hJ6⟩ (Decidable.of_not_not hg31)) pt ?_;refine sd<|mw<|sd<|Vw (H7 lk lk)<|Vw (Ao lk lk)<|sn'<|?_;refine cd' lk (λhc1=>?_) (λhc1=>?_)
 .refine wr'<|Vw (Bb B5)<|E' (Ai lk cv gx rfl nb rfl Ay hs0) ptn<|mr<|Ag<|Ad (rsn (rm1 (rr_c gt gx (ld1 Av rfl)) (rm1 (rr_t gt) rm0)))<|rtW'<|?_;have hd:decV S=(Ga,1):=if_neg (by rintro⟨_,_,e⟩;rw[hpT] at e;exact hc1 (by rw[e]));rw[hd];exact Wk.tup (wkw hz (wk1 rfl wk0))
 refine za<|wr'<|Vw (Ak lk gx Av rfl)<|E' (Ai lk cv gx rfl nb rfl Ay hs0) ptn<|mr<|Ad (rsn (rm1 (rr_c gt gx (ld1 Av rfl)) (rm1 (rr_t gt) rm0)))<|rtW'<|?_;have he:enc (lcR K1 S1,C2)=S:=by
  have e0:=Decidable.of_not_not hc1;have e1:=congrArg (λb:ByteArray=>b.data.toList) e0;simpa using e1
 have hd:decV S=(pT S,0):=if_pos ⟨by rw[hQ2];exact hg26,by rw[hpT];exact Decidable.of_not_not hg31,by rw[hpT];exact he⟩;rw[hd,hpT];exact Wk.refl _
def decode_a {S:List UInt8}:Ac 20 [sb S] h (.tup [tabA (decV S).1,iv (decV S).2]):=decode_f.wkR (Wk.tup (wkw Is (wk1 rfl wk0)))
end
section
open Go.Ab Civ
attribute [local simp] Cp Um Ic aR I3
def k6:=Kx 6 [.e [] 22 []]
def uB {f1:Bool}:Ac 19 [.agg [iv Cs.1.1,iv Cs.1.2.1,sv Cs.1.2.2,.sl Cs.2.length 4 f1 (rows chgC Cs.2)]] h (.tup [sb (enc Cs),iv 0]):=by
 have:=jH (t:=Cs) (full:=f1) (h:=h) Km;rw[if_pos Nq,Nq] at this;exact this
def uC :Ac 20 [sb (enc Cs)] h (.tup [tabA Cs,iv 0]):=by
 have:=decode_a (S:=enc Cs) (h:=h);rw[show decV (enc Cs)=(Cs,0) by kernel_rfl] at this;exact this
def wbegun_a :Ac 6 [] h (bv true):=ACalls.ev 1000 20 (Fc (Ek λh=>uB (f1:=false)) (Ek λh=>uC)) (by kernel_rfl)
end
section
open Go.Ab Civ
attribute [local simp] Cp
def k5:=Kx 5 [.e [] 7 [false,false],.e [] 7 [false,false]]
def medT:Tab:=((3600,0,⟨#[65]⟩),[(100,(7200,3600,⟨#[66]⟩))])
def medP:Pat:=((3600,0,⟨#[65]⟩),1,0,[])
def okT_med:okT medT:=⟨by decide,by decide⟩
def okP_med:okP medP:=⟨by decide,by decide⟩
def mS {f1 f2:Bool}:Ac 17 [.agg [iv Cs.1.1,iv Cs.1.2.1,sv Cs.1.2.2,.sl Cs.2.length 4 f1 (rows chgC Cs.2)],.agg [iv medT.1.1,iv medT.1.2.1,sv medT.1.2.2,.sl medT.2.length 4 f2 (rows chgC medT.2)]] h (.tup [patA medP,iv 0]):=by
 have:=diff_a (t:=Cs) (u:=medT) (f1:=f1) (f2:=f2) (h:=h) Km okT_med;rw[show J2 Cs medT=medP by kernel_rfl,show Mz Cs medT=0 by kernel_rfl] at this;exact this
def kF {f1 f2:Bool}:Ac 18 [.agg [iv Cs.1.1,iv Cs.1.2.1,sv Cs.1.2.2,.sl Cs.2.length 4 f1 (rows chgC Cs.2)],.agg [iv medP.1.1,iv medP.1.2.1,sv medP.1.2.2,iv medP.2.1,iv medP.2.2.1,.sl medP.2.2.2.length 4 f2 (rows chgC medP.2.2.2)]] h (.tup [tabA medT,iv 0]):=by
 have:=apply_a (t:=Cs) (p:=medP) (f1:=f1) (f2:=f2) (h:=h) Km okP_med;rw[show appV Cs medP=medT by kernel_rfl,show appE Cs medP=0 by kernel_rfl] at this;exact this
def begun_a :Ac 5 [] h (bv true) :=
 ACalls.ev 1000 20 (Fc (Ek λh=>mS (f1:=false) (f2:=false)) (Ek λh=>kF (f1:=false) (f2:=false))) (by kernel_rfl)
end
section
open Go.Ab Go.Sort
def Kk {w:World}{g:Gh} : ∀ {l:List Int}{vs:List Value},RepL w g (rows intC l) vs↔vs=l.map (Value.int .i64)
 | [],vs=>by simp[rows,RepL]
 | n::l,vs=>by
  rw[show rows intC (n::l)=iv n::rows intC l from rfl];simp only[RepL,Rep,List.map_cons];constructor
  .rintro⟨u,us,rfl,rfl,h⟩;rw[Kk.1 h]
  .rintro rfl;exact⟨_,_,rfl,rfl,Kk.2 rfl⟩
def Zw : ∀ l:List Int,rows intC l=(l.map (Value.int .i64)).map .v
 | []=>rfl
 | n::l=>by rw[List.map_cons,List.map_cons,<-Zw l];rfl
def Jv (l:List Int):List Int:=l.mergeSort λx y=>decide (x<=y)
def Hf (l:List Int):(Jv l).length=l.length:=List.length_mergeSort l
def rS {l:List Int}{id v ty:Nat}(he:h[id]?=some (.mk v ty 1 (rows intC l))) (hl:l.length<4611686018427387904) :
  ACalls Tryz.prog 101 [.own id v l.length] h λr h'=>r=.ret (.tup [])/\h'=h.set id (.mk v ty 1 (rows intC (Jv l))):=by
 by_cases h0:l=[]
 .subst h0;refine⟨by kernel_rfl,λw g vs hs ha=>?_⟩;simp only[RepL,Rep] at ha;obtain⟨val,us,e,⟨A,cap,e1,e2,e3,rfl⟩,rfl⟩:=ha;obtain rfl:vs = #[.slice A 0 cap]:=by cases vs;simp_all
  refine (Tryz.slices_Sort_int_none A cap w).mono ?_;rintro e w' ⟨rfl,rfl⟩;refine⟨.ret (.tup []),h,g,?_,hs,Gh.le.refl g,Fr.refl _ _,λk hk=>.inl hk,rfl,?_⟩
  .exact (by simp only[EndR,Rep];exact⟨#[],rfl,by simp[RepL]⟩)
  .rw[show Jv []=[] by simp[Jv]];exact (Hi he).symm
 refine ACalls.of_turnR (by kernel_rfl) he ?_ ?_
 .intro e;have:=congrArg List.length e;rw[Ey] at this;exact h0 (List.eq_nil_of_length_eq_zero (by simpa using this))
 .intro w g vs b cap arr hs ha hloc hb hsz hle hr;simp only[RepL,Rep,hloc] at ha;obtain⟨u1,us1,e1,⟨A,c,e2,hn1,hn2,rfl⟩,rfl⟩:=ha;simp only[Option.some.injEq,Prod.mk.injEq] at e2;obtain⟨rfl,rfl⟩:=e2;obtain rfl:vs = #[.slice (some ⟨b,0,none⟩) l.length cap]:=by cases vs;simp_all
  have hb':b<w.heap.size:=(Array.getElem?_eq_some_iff.1 hb).1;have hrl2:=Kk.1 hr;rw[Ey,Nat.mul_one] at hrl2 hle;refine (Tryz.slices_Sort_int b 0 cap l w (holds_of_blockI hb hrl2) hb' hl).mono ?_;rintro e w' ⟨rfl,n,os,rfl⟩;obtain⟨q1,q2,q3,q4,q5⟩:=grownBy_sortedI (w:=w) (g:=b) (n:=n) (os:=os) (Jv l).toArray;have hb2:=heap_sortedI (n:=n) (os:=os) (Jv l).toArray hb;refine⟨_,(Jv l).map (Value.int .i64),_,rfl,Zw _,hb2,by simp[putCells],by rw[Ey,List.length_map,Hf,Nat.mul_one],?_,q1,q2,q3,q4,λk hk hne=>q5 k hk (by simpa using hne),?_⟩
  .rw[Ey,Nat.mul_one];exact (congrArg (λn=>List.take n _) (Hf l).symm).trans (take_putCellsI arr (Jv l) (by rw[Hf];exact hle))
  .simp only[Rep];exact⟨#[],rfl,by simp only[RepL]⟩
end
section
open Go.RowKit Go.Maps Go.Sort Civ
def Chs (w:World) (B:Nat) (A:Option Addr) (l:List Chg):Prop :=
 0<l.length -> ∃ b off,A=some ⟨b,off,none⟩/\b<B /\ ∀ k (h:k<l.length),
  w.cell? ⟨b,off+k*4,none⟩=some (.int .i64 l[k].1)/\w.cell? ⟨b,off+k*4+1,none⟩=some (.int .i64 l[k].2.1) /\
  w.cell? ⟨b,off+k*4+2,none⟩=some (.int .i64 l[k].2.2.1)/\w.cell? ⟨b,off+k*4+3,none⟩=some (.string l[k].2.2.2)
def tv (t:Tab) (A:Option Addr) (c:Nat):Value:=.agg #[.int .i64 t.1.1,.int .i64 t.1.2.1,.string t.1.2.2,.slice A t.2.length c]
def law3:Keyed Tryz.prog 3:=int_keyed Tryz.underlying3
def zero3 (w:World):(zeroValue 3).run Tryz.prog w=.ok (.int .i64 0) w:=by kernel_rfl
def inL (t:Tab) (k:Nat) (x:Int):Prop:=x=t.1.1 \/ ∃ c∈t.2.take k,c.2.1=x
def U7 {H:Type}{D:DataW H}(hD:IsMap D) (y:Int) (d:DataW H) (x:Int):has (D.put (.int .i64 y) d) (.int .i64 x)=true↔(has D (.int .i64 x)=true\/x=y):=by
 by_cases h:x=y
 .subst h;simp[has_put_same hD (k:=.int .i64 x) trivial d]
 .rw[has_put_other (by simpa using h)];simp[h]
def inL_zero {t:Tab}:inL t 0 x↔x=t.1.1:=by simp[inL]
def inL_succ {t:Tab}(hk:k<t.2.length) :inL t (k+1) x↔(inL t k x\/x=t.2[k].2.1):=by
 unfold inL;rw[List.take_succ_eq_append_getElem hk];simp only[List.mem_append,List.mem_singleton];constructor
 .rintro (h | ⟨c,h | h,e⟩)
  .exact .inl (.inl h)
  .exact .inl (.inr ⟨c,h,e⟩)
  .subst h;exact .inr e.symm
 .rintro ((h | ⟨c,h,e⟩) | h)
  .exact .inl h
  .exact .inr ⟨c,.inl h,e⟩
  .exact .inr ⟨_,.inr rfl,h.symm⟩
def CollI (D0:DataW Unit) (left:Lit->Bool) (ss:List Int):Prop:=ss.Nodup /\ ∀ x,x∈ss↔(has D0 (.int .i64 x)=true/\left (.int .i64 x)=false)
def CollI.start (D0:DataW Unit):CollI D0 (has D0) []:=⟨List.nodup_nil,λx=>by cases has D0 (.int .i64 x) <;> simp⟩
def CollI.step {D0:DataW Unit}{left:Lit->Bool}{ss:List Int}(h:CollI D0 left ss) {y:DataW Unit}(hlk:left (.int .i64 x)=true) (hat : ∀ zd,D0.atKey (.int .i64 x) zd=y):CollI D0 (λz=>left z&&!z.sameKey (.int .i64 x)) (ss++[x]):=by
 have hhas:has D0 (.int .i64 x)=true:=has_true_of_atKey hat;have hnew:x ∉ ss:=λhx=>by have:=((h.2 x).1 hx).2;rw[hlk] at this;cases this
 refine⟨List.nodup_append.2 ⟨h.1,by simp,λa ha b hb=>by simp at hb;subst hb;exact λe=>hnew (e ▸ ha)⟩,λy=>?_⟩;by_cases hy:y=x
 .subst hy;simp[hhas,Lit.sameKey]
 .simp[h.2 y,hy,Lit.sameKey]
def fM (t:Tab) (A:Option Addr) (c:Nat) (w:World) (hl:t.2.length<=1000) (h0:(Lit.int .i64 t.1.1).wf=true) (hwf : ∀ k (h:k<t.2.length),(Lit.int .i64 t.2[k].2.1).wf=true) (hc:Chs w w.heap.size A t.2) :
    Calls Tryz.prog 100 #[tv t A c] w λe w' => ∃ (v:Value) (ss:List Int),e=.returned v/\ss.Nodup/\(∀ x,x∈ss↔inL t t.2.length x)/\(∃ B,w.heap.size<=B/\w'.ownsRow B 3 1 v ss.length ((Jv ss).map (Value.int .i64)))/\Below w.heap.size w w':=by
  obtain⟨⟨sh,sv,nm⟩,l⟩:=t;dsimp only [tv] at *;obtain⟨i0,hi,hz0,hz1,hz2⟩:=info_parts (show (Tryz.prog.info? 3).map (λi=>(i.zero,i.size,i.bytes))=some (some (.int .i64 0),1,8) from by kernel_rfl);have hmm := @run_makeMap Tryz.prog;have hm0:=World.ownsMap_made (H:=Unit) (w.alloc (.cells #[.int .i64 sh,.int .i64 sv,.string nm,.slice A l.length c] 30)) Tryz.prog 3 (plainElem Tryz.prog 3);obtain⟨w1,hrun1,hown1,hgrow1⟩:=hm0.update (t:=217) (key:=.int .i64 sh) (val:=.int .i64 1) law3 Tryz.underlying217 (by decide) (keyOf_int_mk Tryz.underlying3 h0) (plainElem_int Tryz.underlying3 (show (Lit.int .i64 1).wf=true by decide));simp only[World.size_alloc] at hown1 hgrow1 hrun1;have hb1:Below (w.heap.size+1) (w.alloc (.cells #[.int .i64 sh,.int .i64 sv,.string nm,.slice A l.length c] 30)) w1:=((Below.refl _ _).alloc (by simp) _).grown hgrow1 (by simp) (λj hj=>by cases hj;exact Nat.le_refl _);have bx3:w1.cell? ⟨w.heap.size,3,none⟩=some (.slice A l.length c):=(hb1.cell (by simp)).trans (by simp);go_enter Tryz.func100,Tryz.ntmps100;go_wp2_with fail
  go_loopw [16] (λi wr => ∃ (k:Nat) (D:DataW Unit),k<=l.length/\i=.int .i64 k/\wr.ownsMap Tryz.prog 3 (plainElem Tryz.prog 3) (w.heap.size+1) (k+1) D/\(∀ x,has D (.int .i64 x)=true↔inL ((sh,sv,nm),l) k x)/\Below (w.heap.size+1) (w.alloc (.cells #[.int .i64 sh,.int .i64 sv,.string nm,.slice A l.length c] 30)) wr)
    (λi _=>l.length-(intOf i).toNat)
  case atStart=>exact⟨0,_,Nat.zero_le _,rfl,hown1,λx=>by rw[U7 ⟨_,rfl⟩,inL_zero];simp[has],hb1⟩
  case round =>
    obtain⟨k,D,hk,rfl,hown,hD,hnx⟩:=hrel
    by_cases hlt:k<l.length
    . obtain⟨b,off,hA,hbw,hcc⟩:=hc om
      subst hA
      obtain⟨e0,e1,e2,e3⟩:=hcc k hlt
      have hw2:=hwf k hlt
      have up : ∀ p:Addr,p.block<w.heap.size->wr.cell? p=w.cell? p:=λp hp=>(hnx.cell (Nat.lt_succ_of_lt hp)).trans (((Below.refl w.heap.size w).alloc (Nat.le_refl _) _).cell hp)
      replace e0:=(up _ hbw).trans e0
      replace e1:=(up _ hbw).trans e1
      replace e2:=(up _ hbw).trans e2
      replace e3:=(up _ hbw).trans e3
      have hsz:=hnx.size
      simp only[World.size_alloc] at hsz
      have hstep : ∀ x,inL ((sh,sv,nm),l) (k+1) x↔(inL ((sh,sv,nm),l) k x\/x=l[k].2.1):=λx=>inL_succ (t:=((sh,sv,nm),l)) (k:=k) hlt
      clear up hcc
      generalize hx:l[k]=x at *
      obtain⟨ca,cs,cv,cn⟩:=x
      dsimp only at e0 e1 e2 e3 hw2 hstep
      have HX:=Lib.hid hx;clear hx
      go_wp2_with (first
        | (at_lookup;refine wpList_lookup_own_int _ rfl _ _ 217 rfl 3 3 .i64 law3 Tryz.underlying217 Tryz.underlying3 (zero3 _) (w.heap.size+1) (k+1) _ rfl (hown.alloc _) _ _ rfl (keyOf_int_mk Tryz.underlying3 hw2) ?_;intro cc hat hwc)
        | (at_mapUpdate;refine wpList_mapUpdate_own _ rfl _ _ _ 217 rfl 3 3 law3 Tryz.underlying217 _ (w.heap.size+1) (k+1) _ rfl (hown.alloc _) (by unfold maxLen;omega) _ _ _ rfl rfl (keyOf_int_mk Tryz.underlying3 hw2) _ [] (plainElem_int Tryz.underlying3 (wrap64_wf _)) ?_;intro w3 hown3 hgrow3)
        | go_in)
      go_roundw
      case rel=>exact⟨k+1,_,by omega,by go_num,hown3,λx=>by rw[U7 hown.isMap,hD x,hstep x],(hnx.alloc om _).grown hgrow3 (by simp;omega) (λj hj=>by cases hj;exact Nat.le_refl _)⟩
      case measure=>simp[intOf];omega
    . have hkl:k=l.length:=by omega
      subst hkl
      have hsz:=hnx.size
      simp only[World.size_alloc] at hsz
      have hbl:=hown.lt
      have hsd:=hown.size_le
      have hnw:Below w.heap.size w wr:=((Below.refl w.heap.size w).alloc (Nat.le_refl _) _).trans (hnx.mono (Nat.le_succ _))
      go_wp2_with (first
        | (at_range;refine wpList_range_own _ rfl _ 217 rfl 3 3 law3 Tryz.underlying217 _ (w.heap.size+1) (l.length+1) _ rfl hown ?_;intro w4 hrg0 hg0 hs0)
        | go_in)
      go_frame
      have hn4:Below w.heap.size w w4:=hnw.grown hg0 hnw.size (λj hj=>by cases hj)
      generalize hRe:wr.heap.size=R at *
      go_loopw [6] (λv wx => ∃ (left : Lit -> Bool) (cnt : Nat) (ss : List Int), wx.ranges Tryz.prog 3 (plainElem Tryz.prog 3) (w.heap.size + 1) R (l.length + 1) D left cnt /\ ss.length + cnt <= Maps.size D /\
          wx.ownsRow R 3 1 v ss.length (ss.map (Value.int .i64))/\CollI D left ss/\Below w.heap.size w wx/\R<=wx.heap.size)
        (λ_ wx=>wx.rangeLeft (w.heap.size+1) R)
      case atStart=>exact⟨_,_,[],hrg0,by simp,World.ownsRow_nil _ _ _ _,CollI.start D,hn4,by omega⟩
      case round =>
        obtain⟨left,cnt,ss,hrg,hcs,hrow,hC,hnx2,hRs⟩:=hrel
        go_wp2_with (first
          | (at_next;refine wpList_next_ranges_ii _ rfl _ rfl 3 3 .i64 .i64 law3 Tryz.underlying3 Tryz.underlying3 (w.heap.size+1) R (l.length+1) _ _ _ rfl hrg ?_ ?_)
          | go_in)
        . intro hc0 hl0
          have hmem : ∀ x,x∈ss↔inL ((sh,sv,nm),l) l.length x:=λx=>by rw[hC.2 x,<-hD x,hl0];simp
          rcases hrow.2 with ⟨hnil,hn0⟩ | ⟨g,cap,cur,hv,hbase,hb,h1,h2,h3,h4⟩
          . have:ss=[]:=List.eq_nil_of_length_eq_zero hn0
            subst this
            exact absurd ((hmem sh).2 (.inl rfl)) (by simp)
          . subst hv
            have hH:Holds (Value.int .i64) wr g 0 ss.toArray:=holds_of_blockI hb (by simpa using h4)
            have hgl:g<wr.heap.size:=(Array.getElem?_eq_some_iff.1 hb).1
            have hcl:=Tryz.slices_Sort_int g 0 cap ss wr hH hgl om
            go_wp2_with (go_at_call 101;refine hcl.mono ?_;rintro e w' ⟨rfl,nn,os,rfl⟩)
            go_ret
            exact⟨_,ss,rfl,hC.1,hmem,⟨R,by omega,ownsRow_sortedI (Hf ss) hbase hb h1 h2 h3⟩,hnx2.grown (grownBy_sortedI _) hnx2.size (λj hj=>by cases hj;omega)⟩
        . intro x cc w5 cnt2 hwx hwc hlk hat hrg2 hlt hg2 hs2 hen
          have hrow2:=hrow.kept hg2 (Or.inr (row_ne_iter hrow hrg).symm)
          clear hs2
          go_wp2_with (first
            | (at_builtin;refine wpList_append_own _ rfl _ _ 56 rfl R 3 i0 (.int .i64 0) 1 8 Tryz.underlying56 hi hz0 hz1 hz2 rfl (by decide) _ _ _ rfl (hrow2.alloc _) ⟨w5.heap.size,0,none⟩ 1 1 [.int .i64 x] rfl rfl (cell_one_new _ _ _) (by simp[Value.oneCell']) (by unfold maxLen at *;omega) om (by have:=hg2.size;simp;omega) ?_;intro v' w6 hown' hg3 hnil3)
            | go_in)
          have hrg3:=(hrg2.alloc _).kept hg3 (row_ne_low hrow2 om) (row_ne_iter hrow2 hrg2)
          go_roundw
          case rel =>
            refine⟨_,cnt2,ss++[x],hrg3,by simp;omega,by simpa using hown',hC.step hlk hat,?_,?_⟩
            . exact ((hnx2.grown hg2 hnx2.size (λj hj=>by cases hj;omega)).alloc (by have:=hnx2.size;have:=hg2.size;omega) _).grown hg3 (by have:=hnx2.size;have:=hg2.size;simp;omega) (λj hj=>by have:=(hrow2.lt j hj).1;omega)
            . have:=hg2.size;have:=hg3.size;simp at this;omega
          case measure=>rw[hrg3.left_eq,hrg.left_eq];exact hlt
end
section
open Go.Ab Go.Sort Civ
def jP {l:List Chg}{off:Nat}(hb:b<w.heap.size) (h:RepC w g (rows chgC l) b off):Chs w w.heap.size (some ⟨b,off,none⟩) l:=by
 intro h0;refine⟨b,off,rfl,hb,λk hk=>?_⟩;have h1:=(h.drop (k*4)).take 4;rw[Lp Cg hk] at h1;simp only[RepC,Rep] at h1;obtain⟨⟨u0,c0,rfl⟩,⟨u1,c1,rfl⟩,⟨u2,c2,rfl⟩,⟨u3,c3,rfl⟩,_⟩:=h1;exact⟨c0,c1,c2,c3⟩
def ddI:List Int->List Int
 | []=>[]
 | a::l=>if a∈ddI l then ddI l else a::ddI l
def Sj : ∀ {l:List Int}{x:Int},x∈ddI l↔x∈l
 | [],x=>by simp[ddI]
 | a::l,x=>by
  unfold ddI;split
  .rename_i h;rw[Sj,List.mem_cons];refine⟨.inr,λe=>e.elim (λe=>?_) id⟩;subst e;exact Sj.1 h
  .rw[List.mem_cons,List.mem_cons,Sj]
def Ud : ∀ l:List Int,(ddI l).Nodup
 | []=>List.nodup_nil
 | a::l=>by
  unfold ddI;split
  .exact Ud l
  .rename_i h;exact List.nodup_cons.2 ⟨h,Ud l⟩
def lE {l l':List Int}(h:l.Perm l'):Jv l=Jv l':=by
 have tr : ∀ a b c:Int,decide (a<=b)=true->decide (b<=c)=true->decide (a<=c)=true:=λa b c h1 h2=>by simp only[decide_eq_true_eq] at *;omega
 have tto : ∀ a b:Int,(decide (a<=b)||decide (b<=a))=true:=λa b=>by simp only[Bool.or_eq_true,decide_eq_true_eq];omega
 refine List.Perm.eq_of_pairwise (le:=λa b:Int=>decide (a<=b)=true) (λa b _ _ h1 h2=>?_) (List.pairwise_mergeSort tr tto l) (List.pairwise_mergeSort tr tto l') (((List.mergeSort_perm l _).trans h).trans (List.mergeSort_perm l' _).symm);simp only[decide_eq_true_eq] at h1 h2;omega
def shI (t:Tab):List Int:=Jv (ddI (t.1.1::t.2.map (·.2.1)))
def shI_of {t:Tab}{ss:List Int}(h1:ss.Nodup) (h2 : ∀ x,x∈ss↔inL t t.2.length x):Jv ss=shI t:=by
 refine lE ((List.perm_ext_iff_of_nodup h1 (Ud _)).2 λx=>?_);rw[h2,Sj];unfold inL;rw[List.take_of_length_le (Nat.le_refl _)];simp
def wf_of (h1 : -9223372036854775808<=n) (h2:n<=9223372036854775807):(Lit.int .i64 n).wf=true:=by
 have e1:IntKind.i64.min = -9223372036854775808:=by decide
 have e2:IntKind.i64.max=9223372036854775807:=by decide
 simp only[Lit.wf,Bool.and_eq_true,decide_eq_true_eq,e1,e2];exact⟨h1,h2⟩
def shifts_a {t:Tab}{full:Bool}(hv:Bw t=0) :
  Ac 100 [.agg [iv t.1.1,iv t.1.2.1,sv t.1.2.2,.sl t.2.length 4 full (rows chgC t.2)]] h (.sl (shI t).length 1 false (rows intC (shI t))):=by
 obtain⟨hv1,hv2,hv3⟩:=Nr hv;refine ACalls.of_newrow (by kernel_rfl) (Ey _) (λw g w' g' us hr=>Kk.2 (Kk.1 hr)) λw g vs hs ha=>?_;simp only[RepL,Rep] at ha;obtain⟨val,us,e,⟨as1,rfl,u1,us1,ea1,rfl,u2,us2,rfl,rfl,u3,us3,rfl,rfl,u4,us4,rfl,⟨hcl,A,cap,rfl,g1,g2,g3,g4,g5⟩,rfl⟩,rfl⟩:=ha;obtain rfl:vs = #[.agg as1]:=by cases vs;simp_all
 obtain rfl:as1 = #[.int .i64 t.1.1,.int .i64 t.1.2.1,.string t.1.2.2,.slice A t.2.length cap]:=by cases as1;simp_all
 have hc:Chs w w.heap.size A t.2:=by
  intro h0;obtain⟨b,off,rfl,hd,hr⟩:=g5 (by intro e;have:=congrArg List.length e;rw[Cu] at this;simp only[List.length_nil] at this;omega);exact jP (hs.lt _ hd) hr h0
 have hw1:=Nm hv2;refine (fM t A cap w hv1 (wf_of om om) (λk hk=>by have:=Nm (hv3 _ (List.getElem_mem hk)).2;exact wf_of om om) hc).mono ?_;rintro e w' ⟨v,ss,rfl,hnd,hmem,⟨B,hB,hrow⟩,hbw⟩;have hsh:=shI_of hnd hmem;have hlen:ss.length=(shI t).length:=by rw[<-hsh,Hf]
 rw[hsh,hlen] at hrow;rcases hrow.2 with ⟨hnil,hn0⟩ | ⟨b,cap',cur,rfl,hbase,hb,k1,k2,k3,k4⟩
 .exfalso;have:t.1.1∈ss:=(hmem _).2 (.inl rfl);rw[List.eq_nil_of_length_eq_zero (hlen.trans hn0)] at this;simp at this
 refine⟨b,cap',_,_,_,rfl,k1,k2,Nat.le_trans hB hbase,hb,hbw,?_⟩;rw[Ey];exact Kk.2 k4
end
section
open Go.Ab Civ
attribute [local simp] Cp nm_lt Gw
def k57:=Kx 57 []
def k21:=Kx 21 []
def inD (n:Int):Prop := -719162<=n/\n<=2932896
instance (n:Int):Decidable (inD n):=by unfold inD;infer_instance
def aY (t:Tab) (n s:Int):Bool:=Gj (n-s)&&decide ((Md t (n-s)).1=s)
def wl (t:Tab) (n:Int) (L:List Int):List Int:=(L.filter (aY t n)).map (n - ·)
def eY (t:Tab) (n:Int):List Int:=Jv (wl t n (shI t))
def tF {l:List Int}:x∈Jv l↔x∈l:=List.mem_mergeSort
def mem_shI {t:Tab}:x∈shI t↔x=t.1.1 \/ ∃ c∈t.2,c.2.1=x:=by
 unfold shI;rw[tF,Sj];simp
def pZ : ∀ l:List Int,(ddI l).length<=l.length
 | []=>Nat.le_refl _
 | a::l=>by
  have:=pZ l;unfold ddI;split <;> simp <;> omega
def shI_len (t:Tab):(shI t).length<=1+t.2.length:=by
 unfold shI;rw[Hf];have:=pZ (t.1.1::t.2.map (·.2.1));simp at this;omega
def wl_len (t:Tab) (n:Int) (L:List Int):(wl t n L).length<=L.length:=by
 unfold wl;rw[List.length_map];exact List.length_filter_le _ _
def bR {t:Tab}{s:Int}{L:List Int}:wl t n (L++[s])=wl t n L++(if aY t n s then [n-s] else []):=by
 unfold wl;rw[List.filter_append,List.map_append];congr 1;cases h:aY t n s <;> simp[h]
def shI_bd {t:Tab}(h:Bw t=0) : ∀ x∈shI t,-75600<=x/\x<=75600:=by
 obtain⟨_,h2,h3⟩:=Nr h;intro x hx;rcases mem_shI.1 hx with rfl | ⟨c,hc,rfl⟩
 .exact (Nm h2).1
 exact (Nm (h3 c hc).2).1
def wtimes_f {t:Tab}{full:Bool}(hv:Bw t=0) (h0 : -1000000000000000<=n) (h1:n<=1000000000000000) :
  Ac 57 [.agg [iv t.1.1,iv t.1.2.1,sv t.1.2.2,.sl t.2.length 4 full (rows chgC t.2)],iv n] h (.fs (eY t n).length 1 (rows intC (eY t n))):=by
 have hl:=D7 hv;have hsl:=shI_len t;refine tI' k57 λN hn hlt _ hbd=>?_;simp only[tb'] at hbd ⊢;refine wr'<|E' (Bq (cvl lk0 rfl) rfl hl0 ha0) pt2<|mv' lkn pt4<|sn'<|wr'<|mv' lkn pt5<|Am<|B0 (ALe.own0' (st':=1) (ty:=3) gt5 hl1 pt5 ha1)<|Ab<|wr'<|?_;refine Vw (Ak lk gx Av rfl)<|Af mp (shifts_a (t:=t) hv) pt<|Vw (Bf lk)<|ms<|Ah<|?_;refine w_lp (ι:=Nat×Nat) (λ⟨k,v⟩=>[(5,.own (N+1) v (wl t n ((shI t).take k)).length),(12,iv (k:Int)),(7,.any),(8,.any)]++rn' 13 21) (λ⟨k,v⟩=>[(1,.mk v 3 1 (rows intC (wl t n ((shI t).take k))))]) (λ⟨k,v⟩=>k<=(shI t).length) (λ⟨k,v⟩=>(shI t).length-k) (⟨0,0⟩) (by exact Nat.zero_le _) ?_;rintro⟨k,v⟩ hi1;try simp only[sm',Nat.reduceAdd]
 refine wr'<|Vw (Bm lk lk)<|sn'<|Ab<|?_;refine cd' lk (λhc1=>?_) (λhc1=>?_)
 .have hk:k<(shI t).length:=by omega
  have hbs:=shI_bd hv _ (List.getElem_mem hk);have hst:(shI t).take (k+1)=(shI t).take k++[(shI t)[k]]:=List.take_succ_eq_append_getElem hk;have hwl:=wl_len t n ((shI t).take k);have htl:((shI t).take k).length<=k:=by rw[List.length_take];omega
  refine za<|Ab<|Ah<|wr'<|?_;refine V' (Bh lk lk Cw nb ro om ro rfl) pt ?_;refine Vw (Ba lk gt)<|ms<|wm<|mw<|?_;refine V' (Ch lk lk om om) pt ?_;refine ms<|wm<|Af mp (kX) pt<|mw<|?_;refine Cz (t:=21) gt pt pt (λhg21=>?_) (λhg21=>?_)
  .refine sd<|Vw (Ak lk gx Av rfl)<|sd<|mw<|sd<|?_;refine Af mp (oB (t:=t) om) pt ?_;refine sd<|Vw (v_fld lk gt)<|sd<|mw<|sd<|Vw (Cy lk lk)<|Vw (Ar lk lk)<|sn'<|?_;refine cd' lk (λhc2=>?_) (λhc2=>?_)
   .have hE:wl t n ((shI t).take (k+1))=wl t n ((shI t).take k)++[n-(shI t)[k]]:=by rw[hst,bR,if_pos (by unfold aY;simp[hg21,hc2])]
    refine Aq<|mw<|mw<|E' (Ep (Hk cw) hl2 ha2) pt<|?_;refine E' (C6 (C0 lk gx rfl Ee nb) lk gx (Ey _) om rfl hs1) pt ?_;refine mw<|Am<|Aw<|An<|Aq<|?_;refine ad<|mw<|Am<|Az<|?_;refine lU' (⟨k+1,v+1⟩) (by (try dsimp only);omega) (by refine zz ?_;exact bkE' 2 hn hlt (by repeat (first | exact wk0 | refine wka ?_ | refine wk1 rfl ?_ | refine wk1 (by first | rfl | exact ivx om | (rw[hE];done) | (rw[hE,List.length_append];rfl)) ?_)) (by simp only[hE,Bt,C3];try rfl) (hT:=by simp[AV.lt,AV.ltL,Ent.lt]) (hE:=by simp[AV.lt,AV.ltL,Ent.lt]))
   have hE:wl t n ((shI t).take (k+1))=wl t n ((shI t).take k):=by rw[hst,bR,if_neg (by unfold aY;simp[hg21,hc2]),List.append_nil]
   refine Be<|Aw<|An<|Aq<|?_;refine ad<|mw<|Am<|Az<|?_;refine lU' (⟨k+1,v⟩) (by (try dsimp only);omega) (by refine zz ?_;exact ALe.same (by repeat (first | exact wk0 | refine wka ?_ | refine wk1 rfl ?_ | refine wk1 (by first | rfl | exact ivx om | (rw[hE];done) | (rw[hE,List.length_append];rfl)) ?_)) (by simp only[hE,Bt,C3];try rfl))
  have hE:wl t n ((shI t).take (k+1))=wl t n ((shI t).take k):=by rw[hst,bR,if_neg (by unfold aY;simp[hg21]),List.append_nil]
  refine so<|so<|so<|so<|so<|so<|Vw (Ao lk lkb)<|sn'<|Cf lk<|Be<|Aw<|An<|Aq<|?_;refine ad<|mw<|Am<|Az<|?_;refine lU' (⟨k+1,v⟩) (by (try dsimp only);omega) (by refine zz ?_;exact ALe.same (by repeat (first | exact wk0 | refine wka ?_ | refine wk1 rfl ?_ | refine wk1 (by first | rfl | exact ivx om | (rw[hE];done) | (rw[hE,List.length_append];rfl)) ?_)) (by simp only[hE,Bt,C3];try rfl))
 have hkl:k=(shI t).length:=by omega
 have hwl:=wl_len t n ((shI t).take k);have htl:(shI t).take k=shI t:=List.take_of_length_le om;rw[htl] at hwl;simp only[htl];refine Bd<|As<|As<|Bp<|An<|wm<|?_;refine H2 mp (rS (l:=wl t n (shI t)) gx om) hs1 pt ?_;refine Am ?_;refine B0 (ALe.iceRF (hga hn rfl) gt5 (List.take_of_length_le (by rw[Ey,Hf];exact Nat.le_refl _)) (by rw[Ey,Hf];exact Nat.le_refl _) rfl pt5 hs1) ?_;refine wm<|mr<|Ad rz<|rT'<|?_;show AV.fs _ 1 _=_;rw[show (wl t n (shI t)).length=(eY t n).length from (Hf _).symm];rfl
def Mi (t:Tab) (d:Int×Int×Int) (s:Int):Int:=if Bw t≠0 then Bw t else if Db d.1 d.2.1 d.2.2=true/\0<=s/\s<86400 then 0 else 3
def N7 (t:Tab) (d:Int×Int×Int) (s:Int):List Int:=if Mi t d s=0 then eY t (num d.1 d.2.1 d.2.2*86400+s) else []
def when_f {t:Tab}{y m d s:Int}{full:Bool}(ht:okT t) :
  Ac 21 [.agg [iv t.1.1,iv t.1.2.1,sv t.1.2.2,.sl t.2.length 4 full (rows chgC t.2)],.agg [iv y,iv m,iv d],iv s] h (.tup [.fs (N7 t (y,m,d) s).length 1 (rows intC (N7 t (y,m,d) s)),iv (Mi t (y,m,d) s)]):=by
 refine tW' k21 λN hn _ _ hbd=>?_;simp only[tb'] at hbd ⊢;refine wr'<|E' (Bq cv rfl hl0 ha0) pt<|E' (Bq cv rfl hl1 ha1) pt<|mw<|ms<|Ab<|wr'<|Vw (Ak lk gx Av rfl)<|Af mp (Kg (l:=t.2) ht.1 ht.2) pt<|mw<|?_;refine sn'<|wm<|Vw (Ca lk lki)<|sn'<|?_;refine cd' lk (λhc1=>?_) (λhc1=>?_)
 .have hv:Bw t≠0:=hc1;have he:Mi t (y,m,d) s=Bw t:=if_pos hv;refine wm<|mw<|mr<|Ag<|Ad ry<|rtW'<|?_;rw[N7,if_neg (by rw[he];exact hv),he];exact Wk.tup (wkw Wk.nilS (wk1 rfl wk0))
 have hv:Bw t=0:=Decidable.of_not_not hc1;refine za<|wr'<|Vw (Ak lk gx Ap rfl)<|Af mp (days_a) pt<|mw<|Vw (B7 lk gt)<|Vw (B7 lk gt)<|mw<|ms<|Ab<|?_;refine wm<|Vw (Cy lk lki)<|mw<|?_;refine sp' (t:=23) gt pt pt (λhg23=>?_) (λhg23=>?_)
 .have hd:Db y m d=true:=by cases hd:Db y m d <;> simp[hd] at hg23 ⊢
  have hnb:=Tp hd;refine sd<|mw<|sd<|Vw (Bm lk lki)<|sd<|mw<|?_;refine sp' (t:=26) gt pt pt (λhg26=>?_) (λhg26=>?_)
  .have he:Mi t (y,m,d) s=3:=by rw[Mi,if_neg (by simpa using hv),if_neg om]
   refine so<|so<|sd<|Vw (Ar lk lkb)<|Vw (Ar lk lk)<|sn'<|Cx lk<|Aq<|ms<|Ab<|Ab<|?_;refine Aq<|mw<|Vw (Ca lk lki)<|sn'<|?_;refine Iu lk (by rfl) ?_;refine wm<|mw<|mr<|Ag<|Ad ry<|rtW'<|?_;rw[N7,if_neg (by rw[he];decide),he];exact Wk.tup (wkw Wk.nilS (wk1 rfl wk0))
  refine sd<|mw<|sd<|Vw (Gz lk lki)<|sd<|Vw (Ao lk lk)<|Vw (Ar lk lk)<|sn'<|?_;refine cd' lk (λhc2=>?_) (λhc2=>?_)
  .have he:Mi t (y,m,d) s=3:=by rw[Mi,if_neg (by simpa using hv),if_neg om]
   refine Aq<|ms<|Ab<|wm<|Vw (Ca lk lki)<|sn'<|?_;refine Iu lk (by rfl) ?_;refine wm<|mw<|mr<|Ag<|Ad ry<|rtW'<|?_;rw[N7,if_neg (by rw[he];decide),he];exact Wk.tup (wkw Wk.nilS (wk1 rfl wk0))
  have he:Mi t (y,m,d) s=0:=by rw[Mi,if_neg (by simpa using hv),if_pos ⟨hd,by omega,by omega⟩]
  refine za<|Ab<|wm<|Vw (Ca lk lki)<|sn'<|?_;refine F2 lk (by rw[hd];rfl) ?_;refine za<|wr'<|Vw (Ak lk gx Av rfl)<|mw<|?_;refine V' (J8 lk lki om om) pt ?_;refine mv' lk pt ?_;refine V' (Du lk lk om om) pt ?_;refine Af mp (wtimes_f (t:=t) hv (by rw[hd];simp only[if_true];omega) (by rw[hd];simp only[if_true];omega)) pt ?_;refine mw<|mr<|Ad ry<|rtW'<|?_;rw[N7,if_pos he,he];simp only[hd,if_true];exact Wk.refl _
 have hd:Db y m d=false:=by cases hd:Db y m d <;> simp[hd] at hg23 ⊢
 have he:Mi t (y,m,d) s=3:=by rw[Mi,if_neg (by simpa using hv),if_neg (by simp[hd])]
 refine so<|so<|so<|s_nu gt pt<|s_nu gt pt<|so<|Vw (Ao lk lkb)<|sn'<|Cf lk<|za<|Ab<|Ab<|?_;refine Aq<|mw<|Vw (Ca lk lki)<|sn'<|?_;refine Iu lk (by rw[hd];rfl) ?_;refine wm<|mw<|mr<|Ag<|Ad ry<|rtW'<|?_;rw[show (if Db y m d=true then (0:Int) else 3)=3 from by rw[hd];rfl,N7,if_neg (by rw[he];decide),he];exact Wk.tup (wkw Wk.nilS (wk1 rfl wk0))
def when_a {t:Tab}{y m d s:Int}{full:Bool}(ht:okT t) :
  Ac 21 [.agg [iv t.1.1,iv t.1.2.1,sv t.1.2.2,.sl t.2.length 4 full (rows chgC t.2)],.agg [iv y,iv m,iv d],iv s] h (.tup [.sl (N7 t (y,m,d) s).length 1 false (rows intC (N7 t (y,m,d) s)),iv (Mi t (y,m,d) s)]):=(when_f ht).wkR (Wk.tup (wkw Wk.fs (wk1 rfl wk0)))
end
section
open Go.Ab Civ
def cM (l:List Int):(Jv l).Pairwise (· <= ·):=by
 have tr : ∀ a b c:Int,decide (a<=b)=true->decide (b<=c)=true->decide (a<=c)=true:=λa b c h1 h2=>by simp only[decide_eq_true_eq] at *;omega
 have tto : ∀ a b:Int,(decide (a<=b)||decide (b<=a))=true:=λa b=>by simp only[Bool.or_eq_true,decide_eq_true_eq];omega
 exact (List.pairwise_mergeSort tr tto l).imp (λh=>by simpa using h)
def Qt {l m:List Int}(hp:m.Perm l) (hs:m.Pairwise (· <= ·)):m=Jv l :=
 List.Perm.eq_of_pairwise (le:=λa b:Int=>a<=b) (λa b _ _ h1 h2=>by omega) hs (cM l) (hp.trans (List.mergeSort_perm l _).symm)
end
section
open Go.Ab Civ
attribute [local simp] Cp Gw
def c7:AC:=(Sr [Mb 0 false] (Sr [Cl 11 30 [],Cl 12 31 [(t 11),(Ci 100)],Mv 10 12,Ex 13 10 0,Ex 14 10 1,Ex 15 10 2,Oo 1 (.new 60 3 [(iv 0),(iv 0),(iv 0)]),⟨none,none,(.store 3 (t 1) (t 13))⟩,Mv 2 14,Mv 3 15] (Sd [Cl 17 30 [],Oo 18 (.load true 3 (t 1)),Mv 19 2,Cl 20 21 [(t 17),(t 18),(t 19)],Mv 16 20,Ex 21 16 0,Ex 22 16 1,Mv 4 21,Mv 5 22] (Sd [Cl 24 30 [],Oo 25 (.load true 3 (t 1)),Cl 26 21 [(t 24),(t 25),(Ci 3700)],Mv 23 26,Ex 27 23 0,Ex 28 23 1,Mv 6 27,Mv 7 28] (Sr [Cl 30 30 [],Oo 31 (.build [(iv 0),(iv 0),(iv 0)] [(0,(1,(Ci 1970))),(1,(1,(Ci 1))),(2,(1,(Ci 2)))]),Cl 32 21 [(t 30),(t 31),(Ci 7300)],Mv 29 32,Ex 33 29 0,Ex 34 29 1,Mv 8 33,Mv 9 34] (Sr [Mv 35 3,Bc 36 .eql 35 0,Mv 37 36,Ot 38 37 (mt 5),Ot 39 37 (.bin .eql (t 38) (Ci 0)),Oo 40 (.pick (t 37) (t 39) (.const (.bool false))),Mv 41 40,Ot 42 41 (mt 7),Ot 43 41 (.bin .eql (t 42) (Ci 0)),Oo 44 (.pick (t 41) (t 43) (.const (.bool false))),Mv 45 44,Ot 46 45 (mt 9),Ot 47 45 (.bin .eql (t 46) (Ci 0)),Oo 48 (.pick (t 45) (t 47) (.const (.bool false))),Mv 49 48,Ot 50 49 (.load true 3 (t 1)),Ot 51 49 (.build [(iv 0),(iv 0),(iv 0)] [(0,(1,(Ci 1970))),(1,(1,(Ci 1))),(2,(1,(Ci 1)))]),Ot 52 49 (.eqs false [.int,.int,.int] (t 50) (t 51)),Oo 53 (.pick (t 49) (t 52) (.const (.bool false))),Mv 54 53,Ot 55 54 (mt 2),Ot 56 54 (.bin .eql (t 55) (Ci 7300)),Oo 57 (.pick (t 54) (t 56) (.const (.bool false))),Mv 58 57,Ot 59 58 (mt 4),Ot 60 58 (.lit 3 1 1 [(iv 0)] [(0,(1,(Ci 100)))]),Ot 61 58 (.call (.func 32) [(t 59),(t 60)]),Oo 62 (.pick (t 58) (t 61) (.const (.bool false))),Mv 63 62,Ot 64 63 (mt 6),Ot 65 63 (.len false (t 64)),Ot 66 63 (.bin .eql (t 65) (Ci 0)),Oo 67 (.pick (t 63) (t 66) (.const (.bool false))),Mv 68 67,Ot 69 68 (mt 8),Ot 70 68 (.lit 3 1 2 [(iv 0),(iv 0)] [(0,(1,(Ci 86500))),(1,(1,(Ci 90100)))]),Ot 71 68 (.call (.func 32) [(t 69),(t 70)]),Oo 72 (.pick (t 68) (t 71) (.const (.bool false))),Mv 0 72] .ret))))))
def k7:Em Tryz.prog 7=some ⟨c7,[(.tmp 0)],73⟩:=by kernel_rfl
def rV:shI Cs=[3600,7200]:=by
 have e:ddI (Cs.1.1::Cs.2.map (·.2.1))=[7200,3600]\/ddI (Cs.1.1::Cs.2.map (·.2.1))=[3600,7200]:=by first | (left;kernel_rfl) | (right;kernel_rfl)
 unfold shI;rcases e with e | e
 .rw[e];exact (Qt (List.Perm.swap _ _ _) (by decide)).symm
 rw[e];exact (Qt (List.Perm.refl _) (by decide)).symm
def Qq {y m d s N:Int}{L M:List Int}{f:Bool}(he:Mi Cs (y,m,d) s=0) (hN:num y m d*86400+s=N) (hL:wl Cs N [3600,7200]=M) (hq:L.Perm M) (hp:L.Pairwise (· <= ·)):Ac 21 [.agg [iv Cs.1.1,iv Cs.1.2.1,sv Cs.1.2.2,.sl Cs.2.length 4 f (rows chgC Cs.2)],.agg [iv y,iv m,iv d],iv s] h (.tup [.sl L.length 1 false (rows intC L),iv 0]):=by
 have:=when_a (t:=Cs) (y:=y) (m:=m) (d:=d) (s:=s) (full:=f) (h:=h) Km;have e:N7 Cs (y,m,d) s=L:=by
  rw[N7,if_pos he,hN,eY,rV,hL];exact (Qt hq hp).symm
 rw[he,e] at this;exact this
def lbegun_a :Ac 7 [] h (bv true) :=
 ACalls.ev 1000 20 (Fc (Ek λh=>Qq (y:=1970) (m:=1) (d:=1) (s:=7300) (N:=7300) (L:=[100]) (f:=false) (by kernel_rfl) (by kernel_rfl) (by kernel_rfl) (List.Perm.refl _) (by decide)) (Fc (Ek λh=>Qq (y:=1970) (m:=1) (d:=1) (s:=3700) (N:=3700) (L:=[]) (f:=false) (by kernel_rfl) (by kernel_rfl) (by kernel_rfl) (List.Perm.refl _) (by decide)) (Ek λh=>Qq (y:=1970) (m:=1) (d:=2) (s:=7300) (N:=93700) (L:=[86500,90100]) (f:=false) (by kernel_rfl) (by kernel_rfl) (M:=[90100,86500]) (by kernel_rfl) (List.Perm.swap _ _ _) (by decide)))) (by kernel_rfl)
end
section
open Go.Ab Go.RowKit Civ
def cV (u:Value):Prop:=(∃ k z,u=.int k z) \/ ∃ s,u=.string s
structure Spo (lo:Nat) (w1 w:World):Prop where
 bel:Below lo w1 w
 cell : ∀ b i u,w1.cell? ⟨b,i,none⟩=some u->(¬cV u->w.cell? ⟨b,i,none⟩=some u)/\(w.cell? ⟨b,i,none⟩).isSome=true/\w.frozen? ⟨b,i,none⟩=w1.frozen? ⟨b,i,none⟩
def Spo.refl (lo:Nat) (w:World):Spo lo w w:=⟨Below.refl _ _,λb i u h=>⟨λ_=>h,by rw[h];rfl,rfl⟩⟩
def Qa {u:Value}(h:w.cell? ⟨b,i,none⟩=some u):b<w.heap.size:=by
 by_cases hb:b<w.heap.size
 .exact hb
 .have:w.heap[b]?=none:=Array.getElem?_eq_none om;simp[World.cell?,this] at h
def Spo.alloc (h:Spo lo w1 w) (hlo:lo<=w1.heap.size) (o:Obj):Spo lo w1 (w.alloc o):=by
 refine⟨h.bel.alloc (Nat.le_trans hlo h.bel.size) o,λb i u hu=>?_⟩;have hb:=Qa hu;have hlt:b<w.heap.size:=Nat.lt_of_lt_of_le hb h.bel.size;rw[World.cell?_alloc_past o b i hlt,World.frozen?_alloc_past o b i hlt];exact h.cell b i u hu
def Spo.setCell (h:Spo lo w1 w) (hb:lo<=b) (hp : ∀ u,w1.cell? ⟨b,i,none⟩=some u->cV u) (v:Value):Spo lo w1 (w.setCell ⟨b,i,none⟩ v):=by
 refine⟨h.bel.setCell hb v,λb' i' u hu=>?_⟩;obtain⟨h1,h2,h3⟩:=h.cell b' i' u hu;rw[World.frozen?_setCell];by_cases e:(⟨b,i,none⟩:Addr)=⟨b',i',none⟩
 .cases e;exact⟨λhn=>absurd (hp u hu) hn,by rw[World.cell?_setCell_same' _ _ _ h2];rfl,h3⟩
 .rw[World.cell?_setCell_other (h:=e)];exact⟨h1,h2,h3⟩
structure Late (m:Nat) (w w':World):Prop where
 size:w.heap.size<=w'.heap.size
 block : ∀ k,m<=k->k<w.heap.size->w'.heap[k]?=w.heap[k]?
def Late.refl (m:Nat) (w:World):Late m w w:=⟨Nat.le_refl _,λ_ _ _=>rfl⟩
def Late.trans {a b c:World}(h:Late m a b) (k:Late m b c):Late m a c:=⟨Nat.le_trans h.size k.size,λi h1 h2=>(k.block i h1 (Nat.lt_of_lt_of_le h2 h.size)).trans (h.block i h1 h2)⟩
def Late.alloc {a:World}(h:Late m a w) (o:Obj):Late m a (w.alloc o):=⟨by simp;exact Nat.le_succ_of_le h.size,λk h1 h2=>(X4 w o k (Nat.lt_of_lt_of_le h2 h.size)).trans (h.block k h1 h2)⟩
def Late.setCell {a:World}(h:Late m a w) (hb:b<m\/a.heap.size<=b) (v:Value):Late m a (w.setCell ⟨b,i,none⟩ v):=by
 refine⟨by simp;exact h.size,λk h1 h2=>?_⟩;have hk:b≠k:=by omega
 have:(w.setCell ⟨b,i,none⟩ v).heap[k]?=w.heap[k]?:=by simp[World.setCell,Array.getElem?_modify,hk]
 rw[this];exact h.block k h1 h2
def Late.cell {w':World}(h:Late m w w') (h1:m<=b) (h2:b<w.heap.size):w'.cell? ⟨b,i,none⟩=w.cell? ⟨b,i,none⟩:=World.cell?_of_block (w:=w) (h.block b h1 h2)
def plC (w1:World) (b k:Nat):Prop := ∃ u,w1.cell? ⟨b,k,none⟩=some u/\cV u/\w1.frozen? ⟨b,k,none⟩=false
def plC.at (h:plC w1 b k) (hs:Spo lo w1 w):(w.cell? ⟨b,k,none⟩).isSome=true/\w.frozen? ⟨b,k,none⟩=false:=by
 obtain⟨u,h1,_,h3⟩:=h;obtain⟨_,k2,k3⟩:=hs.cell b k u h1;exact⟨k2,k3.trans h3⟩
def plC.set (h:plC w1 b k) (hs:Spo lo w1 w) (hb:lo<=b) (v:Value):Spo lo w1 (w.setCell ⟨b,k,none⟩ v) :=
 hs.setCell hb (λu hu=>by obtain⟨u',h1,h2,_⟩:=h;rw[hu] at h1;cases h1;exact h2) v
def Dr {A:Option Addr}{n cap:Nat}:¬cV (.slice A n cap):=by rintro (⟨_,_,h⟩ | ⟨_,h⟩) <;> cases h
def Hot (lo:Nat) (st:Nat) (Pr:Nat->Nat->Prop) (A:Option Addr) (n cap:Nat):Prop:=n<=cap/\cap<=maxLen/\(0<n -> ∃ b off,A=some ⟨b,off,none⟩/\lo<=b /\ ∀ i,i<n->Pr b (off+i*st))
def PT (w1:World) (b o:Nat):Prop:=plC w1 b o/\plC w1 b (o+1)/\plC w1 b (o+2)/\plC w1 b (o+3)
def PN (lo:Nat) (w1:World) (b o:Nat):Prop:=PT w1 b o /\ ∃ A n cap,w1.cell? ⟨b,o+4,none⟩=some (.slice A n cap)/\Hot lo 4 (PT w1) A n cap
def PP (lo:Nat) (w1:World) (b o:Nat):Prop:=PT w1 b o /\ ∃ A n cap,w1.cell? ⟨b,o+6,none⟩=some (.slice A n cap)/\Hot lo 4 (PT w1) A n cap
def fU {w:World}{g:Gh}{α:Type}{f:α->List AV}{st:Nat}(hf : ∀ x,(f x).length=st) : ∀ (l:List α) (b off:Nat),RepC w g (rows f l) b off -> ∀ i (hi:i<l.length),RepC w g (f l[i]) b (off+i*st)
 | x::l,b,off,h,0,_=>by
  have:=RepC.take (f x).length h;simpa [rows] using this
 | x::l,b,off,h,i+1,hi=>by
  have:=RepC.drop (f x).length h;have h2:RepC w g (rows f l) b (off+st):=by simpa [rows,hf] using this
  have:=fU hf l b (off+st) h2 i (by simpa using hi);rw[show off+(i+1)*st=off+st+i*st by rw[Nat.add_mul];omega];exact this
def Hot.of {α:Type}{f:α->List AV}{n st:Nat}{l:List α}{Pr:Nat->Nat->Prop}(hlo : ∀ b,g.D b->¬g.X.B b->lo<=b) (hf : ∀ x,(f x).length=st) (hn:n=l.length) (h0:0<st)
  (hP : ∀ b o x,(∃ arr ty,w.heap[b]?=some (.cells arr ty (0,0)))->RepC w g (f x) b o->Pr b o) (h:Rep w g (.fs n st (rows f l)) v) : ∃ A cap,v=.slice A n cap/\Hot lo st Pr A n cap:=by
 simp only[Rep] at h;obtain⟨hl,A,cap,rfl,h2,h3,h4,h5⟩:=h;refine⟨A,cap,rfl,h2,h3,λhp=>?_⟩;have hne:rows f l≠[]:=λe=>by
  rw[e,List.length_nil] at hl;have:=Nat.mul_pos hp h0;omega
 obtain⟨b,off,rfl,⟨hd,hb,hc⟩,hr⟩:=h5 hne;exact⟨b,off,rfl,hlo b hd hb,λi hi=>hP _ _ _ hc (fU hf l b off hr i om)⟩
def frz0 (h : ∃ arr ty,w.heap[b]?=some (.cells arr ty (0,0))):w.frozen? ⟨b,k,none⟩=false:=by
 obtain⟨arr,ty,h⟩:=h;simp[World.frozen?,h]
def Fz {o:Nat}{cs:List AV}(hc : ∃ arr ty,w.heap[b]?=some (.cells arr ty (0,0))) (h:RepC w g (iv n::cs) b o):plC w b o/\RepC w g cs b (o+1):=by
 simp only[RepC,Rep] at h;obtain⟨⟨u,h1,rfl⟩,h2⟩:=h;exact⟨⟨_,h1,.inl ⟨_,_,rfl⟩,frz0 hc⟩,h2⟩
def Jp {o:Nat}{cs:List AV}{n:ByteArray}(hc : ∃ arr ty,w.heap[b]?=some (.cells arr ty (0,0))) (h:RepC w g (sv n::cs) b o):plC w b o/\RepC w g cs b (o+1):=by
 simp only[RepC,Rep] at h;obtain⟨⟨u,h1,rfl⟩,h2⟩:=h;exact⟨⟨_,h1,.inr ⟨_,rfl⟩,frz0 hc⟩,h2⟩
end
section
open Go.Ab Go.RowKit Civ
def hotT {l:List Chg}(hlo : ∀ b,g.D b->¬g.X.B b->lo<=b) (h:Rep w g (chFr l) v) : ∃ A cap,v=.slice A l.length cap/\Hot lo 4 (PT w) A l.length cap :=
 Hot.of hlo (λ_=>rfl) rfl om (λb o x hc h=>by
  obtain⟨a0,h⟩:=Fz hc h;obtain⟨a1,h⟩:=Fz hc h;obtain⟨a2,h⟩:=Fz hc h;obtain⟨a3,h⟩:=Jp hc h;exact⟨a0,a1,a2,a3⟩) h
def hotN {l:List Nam}(hlo : ∀ b,g.D b->¬g.X.B b->lo<=b) (h:Rep w g (.fs l.length 5 (rows Eu l)) v) : ∃ A cap,v=.slice A l.length cap/\Hot lo 5 (PN lo w) A l.length cap :=
 Hot.of hlo (λ_=>rfl) rfl om (λb o x hc h=>by
  obtain⟨a0,h⟩:=Jp hc h;obtain⟨a1,h⟩:=Fz hc h;obtain⟨a2,h⟩:=Fz hc h;obtain⟨a3,h⟩:=Jp hc h;rw[RepC] at h;obtain⟨⟨u,h1,h2⟩,_⟩:=h;obtain⟨A,cap,rfl,hh⟩:=hotT hlo h2;exact⟨⟨a0,a1,a2,a3⟩,A,_,cap,h1,hh⟩) h
def hotP {l:List NPt}(hlo : ∀ b,g.D b->¬g.X.B b->lo<=b) (h:Rep w g (.fs l.length 7 (rows Xr l)) v) : ∃ A cap,v=.slice A l.length cap/\Hot lo 7 (PP lo w) A l.length cap :=
 Hot.of hlo (λ_=>rfl) rfl om (λb o x hc h=>by
  obtain⟨a0,h⟩:=Jp hc h;obtain⟨a1,h⟩:=Fz hc h;obtain⟨a2,h⟩:=Fz hc h;obtain⟨a3,h⟩:=Jp hc h;obtain⟨a4,h⟩:=Fz hc h;obtain⟨a5,h⟩:=Fz hc h;rw[RepC] at h;obtain⟨⟨u,h1,h2⟩,_⟩:=h;obtain⟨A,cap,rfl,hh⟩:=hotT hlo h2;exact⟨⟨a0,a1,a2,a3⟩,A,_,cap,h1,hh⟩) h
def hotS {l:List ByteArray}(hlo : ∀ b,g.D b->¬g.X.B b->lo<=b) (h:Rep w g (.fs l.length 1 (rows strC l)) v) : ∃ A cap,v=.slice A l.length cap/\Hot lo 1 (plC w) A l.length cap :=
 Hot.of hlo (λ_=>rfl) rfl om (λb o x hc h=>(Jp hc h).1) h
def hotI {l:List Int}(hlo : ∀ b,g.D b->¬g.X.B b->lo<=b) (h:Rep w g (.fs l.length 1 (rows intC l)) v) : ∃ A cap,v=.slice A l.length cap/\Hot lo 1 (plC w) A l.length cap :=
 Hot.of hlo (λ_=>rfl) rfl om (λb o x hc h=>(Fz hc h).1) h
def hotL {l:List Lnk}(hlo : ∀ b,g.D b->¬g.X.B b->lo<=b) (h:Rep w g (.fs l.length 2 (rows lnkC l)) v) : ∃ A cap,v=.slice A l.length cap/\Hot lo 2 (λb o=>plC w b o/\plC w b (o+1)) A l.length cap :=
 Hot.of hlo (λ_=>rfl) rfl om (λb o x hc h=>by
  obtain⟨a0,h⟩:=Jp hc h;obtain⟨a1,h⟩:=Jp hc h;exact⟨a0,a1⟩) h
end
section
open Go.Ab Go.RowKit Civ
attribute [local simp] Cp Ib Dn Oi Gv Lt pB Gw
section
def uT {e0 e1 e:Ent}:([e0,e1]:AH)++[e]=[e0,e1,e]:=rfl
def nH {e0 e1 e2 d0 d1 d2:Ent}:([e0,e1,e2]:AH)++[d0,d1,d2]=[e0,e1,e2,d0,d1,d2]:=rfl
end
def c3a:AC:=(.seq (.reg [⟨(some 74),none,(.load true 2 (.tmp 9))⟩,⟨(some 75),none,(.load true 2 (.tmp 10))⟩,⟨(some 76),none,(.call (.func 13) [(.tmp 74),(.tmp 75)])⟩,⟨(some 73),none,(.mv (.tmp 76))⟩,⟨(some 77),none,(.ext (.tmp 73) 0)⟩,⟨(some 78),none,(.ext (.tmp 73) 1)⟩,⟨(some 15),none,(.new 39 4 [(.sl 0 0 true []),(.sl 0 0 true []),(.sl 0 0 true []),(.sl 0 0 true [])])⟩,⟨none,none,(.store 4 (.tmp 15) (.tmp 77))⟩,⟨(some 16),none,(.mv (.tmp 78))⟩]) (.seq (.seq (.reg [⟨(some 79),none,(.mv (.tmp 16))⟩,⟨(some 80),none,(.mv (.tmp 12))⟩,⟨(some 81),none,(.bin .neq (.tmp 79) (.tmp 80))⟩,⟨(some 82),none,(.mv (.tmp 81))⟩,⟨(some 83),(some (82,false)),(.load true 4 (.tmp 15))⟩,⟨(some 84),(some (82,false)),(.load true 4 (.tmp 13))⟩,⟨(some 85),(some (82,false)),(.call (.func 14) [(.tmp 83),(.tmp 84)])⟩,⟨(some 86),(some (82,false)),(.un .not (.tmp 85))⟩,⟨(some 87),none,(.pick (.tmp 82) (.const (.bool true)) (.tmp 86))⟩]) (.cond (.tmp 87) (.seq (.reg [⟨(some 8),none,(.mv (.const (.bool false)))⟩]) .ret) .skip)) (.seq (.reg [⟨(some 89),none,(.load true 2 (.tmp 9))⟩,⟨(some 90),none,(.load true 4 (.tmp 15))⟩,⟨(some 91),none,(.call (.func 15) [(.tmp 89),(.tmp 90)])⟩,⟨(some 88),none,(.mv (.tmp 91))⟩,⟨(some 92),none,(.ext (.tmp 88) 0)⟩,⟨(some 93),none,(.ext (.tmp 88) 1)⟩,⟨(some 17),none,(.new 25 2 [(.sl 0 0 true []),(.sl 0 0 true [])])⟩,⟨none,none,(.store 2 (.tmp 17) (.tmp 92))⟩,⟨(some 18),none,(.mv (.tmp 93))⟩]) (.seq (.reg [⟨(some 95),none,(.load true 2 (.tmp 9))⟩,⟨(some 96),none,(.mv (.tmp 3))⟩,⟨(some 97),none,(.call (.func 16) [(.tmp 95),(.tmp 96)])⟩,⟨(some 94),none,(.mv (.tmp 97))⟩,⟨(some 98),none,(.ext (.tmp 94) 0)⟩,⟨(some 99),none,(.ext (.tmp 94) 1)⟩,⟨(some 19),none,(.new 30 4 [(iv 0),(iv 0),(.v (.string ⟨#[]⟩)),(.sl 0 0 true [])])⟩,⟨none,none,(.store 4 (.tmp 19) (.tmp 98))⟩,⟨(some 20),none,(.mv (.tmp 99))⟩]) (.seq (.reg [⟨(some 101),none,(.load true 4 (.tmp 19))⟩,⟨(some 102),none,(.load true 4 (.tmp 11))⟩,⟨(some 103),none,(.call (.func 17) [(.tmp 101),(.tmp 102)])⟩,⟨(some 100),none,(.mv (.tmp 103))⟩,⟨(some 104),none,(.ext (.tmp 100) 0)⟩,⟨(some 105),none,(.ext (.tmp 100) 1)⟩,⟨(some 21),none,(.new 49 6 [(iv 0),(iv 0),(.v (.string ⟨#[]⟩)),(iv 0),(iv 0),(.sl 0 0 true [])])⟩,⟨none,none,(.store 6 (.tmp 21) (.tmp 104))⟩,⟨(some 22),none,(.mv (.tmp 105))⟩]) (.seq (.reg [⟨(some 107),none,(.load true 4 (.tmp 19))⟩,⟨(some 108),none,(.load true 6 (.tmp 21))⟩,⟨(some 109),none,(.call (.func 18) [(.tmp 107),(.tmp 108)])⟩,⟨(some 106),none,(.mv (.tmp 109))⟩,⟨(some 110),none,(.ext (.tmp 106) 0)⟩,⟨(some 111),none,(.ext (.tmp 106) 1)⟩,⟨(some 23),none,(.new 30 4 [(iv 0),(iv 0),(.v (.string ⟨#[]⟩)),(.sl 0 0 true [])])⟩,⟨none,none,(.store 4 (.tmp 23) (.tmp 110))⟩,⟨(some 24),none,(.mv (.tmp 111))⟩]) (.seq (.reg [⟨(some 113),none,(.load true 4 (.tmp 11))⟩,⟨(some 114),none,(.call (.func 19) [(.tmp 113)])⟩,⟨(some 112),none,(.mv (.tmp 114))⟩,⟨(some 115),none,(.ext (.tmp 112) 0)⟩,⟨(some 116),none,(.ext (.tmp 112) 1)⟩,⟨(some 25),none,(.mv (.tmp 115))⟩,⟨(some 26),none,(.mv (.tmp 116))⟩]) (.seq (.reg [⟨(some 118),none,(.mv (.tmp 25))⟩,⟨(some 119),none,(.call (.func 20) [(.tmp 118)])⟩,⟨(some 117),none,(.mv (.tmp 119))⟩,⟨(some 120),none,(.ext (.tmp 117) 0)⟩,⟨(some 121),none,(.ext (.tmp 117) 1)⟩,⟨(some 27),none,(.new 30 4 [(iv 0),(iv 0),(.v (.string ⟨#[]⟩)),(.sl 0 0 true [])])⟩,⟨none,none,(.store 4 (.tmp 27) (.tmp 120))⟩,⟨(some 28),none,(.mv (.tmp 121))⟩]) (.seq (.reg [⟨(some 123),none,(.load true 4 (.tmp 11))⟩,⟨(some 124),none,(.build [(iv 0),(iv 0),(iv 0)] [(0,(1,(.const (.int .i64 1970)))),(1,(1,(.const (.int .i64 1)))),(2,(1,(.const (.int .i64 1))))])⟩,⟨(some 125),none,(.call (.func 21) [(.tmp 123),(.tmp 124),(.const (.int .i64 7200))])⟩,⟨(some 122),none,(.mv (.tmp 125))⟩,⟨(some 126),none,(.ext (.tmp 122) 0)⟩,⟨(some 127),none,(.ext (.tmp 122) 1)⟩,⟨(some 29),none,(.mv (.tmp 126))⟩,⟨(some 30),none,(.mv (.tmp 127))⟩]) (.seq (.reg [⟨(some 128),none,(.load true 2 (.tmp 9))⟩,⟨(some 129),none,(.load true 2 (.tmp 4))⟩,⟨(some 130),none,(.call (.func 22) [(.tmp 128),(.tmp 129)])⟩,⟨(some 131),none,(.un .not (.tmp 130))⟩,⟨(some 132),none,(.mv (.tmp 131))⟩,⟨(some 133),(some (132,false)),(.load true 2 (.tmp 10))⟩,⟨(some 134),(some (132,false)),(.load true 2 (.tmp 5))⟩,⟨(some 135),(some (132,false)),(.call (.func 22) [(.tmp 133),(.tmp 134)])⟩,⟨(some 136),(some (132,false)),(.un .not (.tmp 135))⟩,⟨(some 137),none,(.pick (.tmp 132) (.const (.bool true)) (.tmp 136))⟩,⟨(some 138),none,(.mv (.tmp 137))⟩,⟨(some 139),(some (138,false)),(.load true 4 (.tmp 11))⟩,⟨(some 140),(some (138,false)),(.load true 4 (.tmp 6))⟩,⟨(some 141),(some (138,false)),(.call (.func 23) [(.tmp 139),(.tmp 140)])⟩,⟨(some 142),(some (138,false)),(.un .not (.tmp 141))⟩,⟨(some 143),none,(.pick (.tmp 138) (.const (.bool true)) (.tmp 142))⟩]) (.cond (.tmp 143) (.seq (.reg [⟨(some 8),none,(.mv (.const (.bool false)))⟩]) .ret) .skip)))))))))))
def c3b:AC:=(.seq (.reg [⟨(some 4),none,(.box 25 2 (.tmp 0))⟩,⟨(some 5),none,(.box 25 2 (.tmp 1))⟩,⟨(some 6),none,(.box 30 4 (.tmp 2))⟩,⟨(some 8),none,(.mv (.const (.bool false)))⟩]) (.seq (.seq (.reg [⟨(some 34),none,(.call (.func 4) [])⟩,⟨(some 35),none,(.un .not (.tmp 34))⟩,⟨(some 36),none,(.mv (.tmp 35))⟩,⟨(some 37),(some (36,false)),(.call (.func 5) [])⟩,⟨(some 38),(some (36,false)),(.un .not (.tmp 37))⟩,⟨(some 39),none,(.pick (.tmp 36) (.const (.bool true)) (.tmp 38))⟩,⟨(some 40),none,(.mv (.tmp 39))⟩,⟨(some 41),(some (40,false)),(.call (.func 6) [])⟩,⟨(some 42),(some (40,false)),(.un .not (.tmp 41))⟩,⟨(some 43),none,(.pick (.tmp 40) (.const (.bool true)) (.tmp 42))⟩,⟨(some 44),none,(.mv (.tmp 43))⟩,⟨(some 45),(some (44,false)),(.call (.func 7) [])⟩,⟨(some 46),(some (44,false)),(.un .not (.tmp 45))⟩,⟨(some 47),none,(.pick (.tmp 44) (.const (.bool true)) (.tmp 46))⟩,⟨(some 48),none,(.mv (.tmp 47))⟩,⟨(some 49),(some (48,false)),(.call (.func 8) [])⟩,⟨(some 50),(some (48,false)),(.un .not (.tmp 49))⟩,⟨(some 51),none,(.pick (.tmp 48) (.const (.bool true)) (.tmp 50))⟩]) (.cond (.tmp 51) (.seq (.reg [⟨(some 8),none,(.mv (.const (.bool false)))⟩]) .ret) .skip)) (.seq (.drw [⟨(some 52),none,(.load true 2 (.tmp 4))⟩,⟨(some 53),none,(.call (.func 9) [(.tmp 52)])⟩,⟨(some 54),none,(.load true 2 (.tmp 5))⟩,⟨(some 55),none,(.call (.func 9) [(.tmp 54)])⟩,⟨(some 56),none,(.load true 4 (.tmp 6))⟩,⟨(some 57),none,(.call (.func 10) [(.tmp 56)])⟩,⟨(some 9),none,(.new 25 2 [(.sl 0 0 true []),(.sl 0 0 true [])])⟩,⟨(some 10),none,(.new 25 2 [(.sl 0 0 true []),(.sl 0 0 true [])])⟩,⟨(some 11),none,(.new 30 4 [(iv 0),(iv 0),(.v (.string ⟨#[]⟩)),(.sl 0 0 true [])])⟩] [false,false,false] [⟨none,none,(.store 2 (.tmp 9) (.tmp 53))⟩,⟨none,none,(.store 2 (.tmp 10) (.tmp 55))⟩,⟨none,none,(.store 4 (.tmp 11) (.tmp 57))⟩]) (.seq (.reg [⟨(some 58),none,(.load true 2 (.tmp 4))⟩,⟨(some 59),none,(.call (.func 11) [(.tmp 58)])⟩,⟨(some 12),none,(.mv (.tmp 59))⟩]) (.seq (.seq (.reg [⟨(some 60),none,(.mv (.tmp 12))⟩,⟨(some 61),none,(.bin .eql (.tmp 60) (.const (.int .i64 0)))⟩]) (.cond (.tmp 61) (.reg [⟨(some 62),none,(.load true 2 (.tmp 5))⟩,⟨(some 63),none,(.call (.func 11) [(.tmp 62)])⟩,⟨(some 12),none,(.mv (.tmp 63))⟩]) .skip)) (.seq (.reg [⟨(some 13),none,(.new 39 4 [(.sl 0 0 true []),(.sl 0 0 true []),(.sl 0 0 true []),(.sl 0 0 true [])])⟩]) (.seq (.reg [⟨(some 64),none,(.mv (.tmp 12))⟩,⟨(some 65),none,(.bin .eql (.tmp 64) (.const (.int .i64 0)))⟩]) (.cond (.tmp 65) (.reg [⟨(some 66),none,(.load true 2 (.tmp 4))⟩,⟨(some 67),none,(.load true 2 (.tmp 5))⟩,⟨(some 68),none,(.call (.func 12) [(.tmp 66),(.tmp 67)])⟩,⟨none,none,(.store 4 (.tmp 13) (.tmp 68))⟩]) .skip))))))))
def Ju (r s:Rel):Int:=if Cb r≠0 then Cb r else Cb s
def Ny (r s:Rel):Upd:=if Ju r s=0 then betU r s else upd0
def nQ (h:Ju r s=0):Cb r=0/\Cb s=0:=by
 unfold Ju at h;split at h
 .rename_i h1;exact absurd h h1
 rename_i h1;exact⟨Decidable.of_not_not h1,h⟩
def diffU_w :Nz r s=(Ny r s,Ju r s):=by
 unfold Nz Ny Ju;split
 .rename_i h;first | rfl | rw[if_neg h]
 split
 .rename_i h;first | rfl | rw[if_neg h]
 rename_i h;rw[if_pos (Decidable.of_not_not h),Decidable.of_not_not h]
def okUpd_w :gJ (Ny r s):=by
 unfold Ny;split
 .rename_i h;obtain⟨h1,h2⟩:=nQ h;exact aC h1 h2
 exact⟨λ_ h=>(by cases h),λ_ h=>(by cases h),λ_ h=>(by cases h),by show 0<=_;omega,by show 0<=_;omega⟩
def diff_w (hr:F9 r) (hs:F9 s):Ac 13 [.agg (relC r),.agg (relC s)] h (.tup [.agg (Wn (Ny r s)),iv (Ju r s)]):=by
 have:=pY (h:=h) hr hs;rw[diffU_w] at this;exact this
def sameU_w {u v:Upd}(e:v=u):Ac 14 [.agg (Wn u),.agg (updC v)] h (bv true):=by
 subst e;exact ACalls.wk (wkw Wi (wk1 rfl wk0)) sameU_r
def okT_find {nm:ByteArray}(hr:F9 r):okT (Hu r nm).1:=by
 have h0:okT Ga:=⟨by decide,λ_ h=>(by cases h)⟩;unfold Hu;split
 .exact h0
 split
 .exact h0
 rename_i t e;exact (hr.1 _ (F4 e)).2
def dec_w {X:ByteArray}:Ac 20 [sv X] h (.tup [N9 (decV X.data.toList).1,iv (decV X.data.toList).2]):=decode_f (S:=X.data.toList)
def Zv :Ac 22 [.agg (relC r),.agg (relC r)] h (bv true):=by
 have:=W5 (t:=r.1) (k:=r.2) (u:=r.1) (m:=r.2) (f1:=false) (f2:=false) (f3:=false) (f4:=false) (h:=h);rw[show decide ((r.1,r.2)=(r.1,r.2))=true from decide_eq_true rfl] at this;exact this
def sameT_w {t:Tab}:Ac 23 [.agg [iv t.1.1,iv t.1.2.1,sv t.1.2.2,chS t.2],.agg [iv t.1.1,iv t.1.2.1,sv t.1.2.2,chS t.2]] h (bv true):=by
 have:=Ry (t:=t) (u:=t) (f1:=false) (f2:=false) (h:=h);rw[show decide (t=t)=true from decide_eq_true rfl] at this;exact this
def wk_diffP {t u:Tab}(hu:okT u):okP (J2 t u):=by
 unfold J2;split
 .exact oZ hu
 exact⟨by decide,λ_ h=>(by cases h)⟩
def GP (r s:Rel) (t:Tab) (nm:ByteArray) (N:Nat) (T:List AV) (h:AH):Prop:=T.length=203/\T[3]?=some (sv nm)/\T[4]?=some (.rp (relC r))/\T[5]?=some (.rp (relC s))/\T[6]?=some (.rp [iv t.1.1,iv t.1.2.1,sv t.1.2.2,chS t.2])/\T[9]?=some (.rp (relC r))/\T[10]?=some (.rp (relC s))/\T[11]?=some (.rp [iv t.1.1,iv t.1.2.1,sv t.1.2.2,chS t.2])/\T[12]?=some (iv (Ju r s))/\T[13]?=some (.ptr (N+6) 0 0) /\ ∃ (h0:AH) (cs:List AV),h=h0++[.gone,.gone,.gone,.gone,.gone,.gone,.mk 0 39 4 cs]/\h0.length=N/\WkL cs (updC (Ny r s))/\cs.length=4
def pre_w {t:Tab}{nm:ByteArray}{N:Nat}(hn:h.length=N) (hr:F9 r) (hs:F9 s) (ht:okT t) (lr:Xo r) (ls:Xo s) (lt_:t.2.length<=3518437208883) :
  aw Tryz.prog N c3b (AX.thn (GP r s t nm N) λ_ _ _=>False) [.agg (relC r),.agg (relC s),.agg [iv t.1.1,iv t.1.2.1,sv t.1.2.2,chS t.2],sv nm,.any,.any,.any,.any,.any,.any,.any,.any,.any,.any,.any,.any,.any,.any,.any,.any,.any,.any,.any,.any,.any,.any,.any,.any,.any,.any,.any,.any,.any,.any,.any,.any,.any,.any,.any,.any,.any,.any,.any,.any,.any,.any,.any,.any,.any,.any,.any,.any,.any,.any,.any,.any,.any,.any,.any,.any,.any,.any,.any,.any,.any,.any,.any,.any,.any,.any,.any,.any,.any,.any,.any,.any,.any,.any,.any,.any,.any,.any,.any,.any,.any,.any,.any,.any,.any,.any,.any,.any,.any,.any,.any,.any,.any,.any,.any,.any,.any,.any,.any,.any,.any,.any,.any,.any,.any,.any,.any,.any,.any,.any,.any,.any,.any,.any,.any,.any,.any,.any,.any,.any,.any,.any,.any,.any,.any,.any,.any,.any,.any,.any,.any,.any,.any,.any,.any,.any,.any,.any,.any,.any,.any,.any,.any,.any,.any,.any,.any,.any,.any,.any,.any,.any,.any,.any,.any,.any,.any,.any,.any,.any,.any,.any,.any,.any,.any,.any,.any,.any,.any,.any,.any,.any,.any,.any,.any,.any,.any,.any,.any,.any,.any,.any,.any,.any,.any,.any,.any,.any,.any,.any,.any,.any,.any,.any,.any,.any,.any,.any,.any] (h++[]):=by
 have hz:WkL [.sl 0 0 true [],.sl 0 0 true [],.sl 0 0 true [],.sl 0 0 true []] (updC upd0):=wkw Wk.nilF (wkw Wk.nilF (wkw Wk.nilF (wkw Wk.nilF wk0)));show aw _ _ c3b _ _ _;refine wr'<|E' (Bq cv rfl hl0 ha0) pt<|E' (Bq cv rfl hl1 ha1) pt<|E' (Bq cv rfl hl2 ha2) pt<|mw<|Am<|?_;refine B0 (ALe.trans (ALe.icePtr gx gt4 (by simp) pt4 hs0) (ALe.trans (ALe.icePtr gx gt5 (by simp) pt5 hs1) (ALe.icePtr gx gt6 (by simp) pt6 hs2))) ?_;refine Ab<|wr'<|Af mp0 (lK) pt<|Vw (Bj lk)<|mw<|sd<|Af mp0 (begun_a) pt<|sd<|Vw (Bj lk)<|Vw (Ao lk lk)<|mw<|sd<|Af mp0 (wbegun_a) pt<|?_;refine sd<|Vw (Bj lk)<|Vw (Ao lk lk)<|mw<|sd<|Af mp0 (lbegun_a) pt<|sd<|Vw (Bj lk)<|Vw (Ao lk lk)<|mw<|sd<|Af mp0 (tbegun_a) pt<|sd<|Vw (Bj lk)<|?_;refine Vw (Ao lk lk)<|sn'<|Cf lk<|za<|Ab<|Qr []<|Dw (Ax lk Ce rfl)<|?_;refine Br mp (λhE hX=>copR_a lr) pt ?_;refine D' (Ax lk Ce rfl) pt ?_;refine Br mp (λhE hX=>copR_a ls) pt ?_;refine D' (Ax lk Bv rfl) pt ?_;refine Br mp (λhE hX=>copT_a lt_) pt ?_;refine D5 rfl rfl (hlk hn rfl) (Lv) pt B2<|D5 rfl rfl (hlk hn rfl) (Lv) pt Za<|D5 rfl rfl (hlk hn rfl) (Lv) pt uT<|Bi<|k_e_ent nH<|?_;refine U5 rfl rfl (Ai lk cv gx rfl nb rfl Cc hs3) (by intro i hi;simp at hi) ptn ?_;refine U5 rfl rfl (Ai lk cv gx rfl nb rfl Cc hs4) (by intro i hi;simp at hi) ptn ?_;refine U5 rfl rfl (Ai lk cv gx rfl nb rfl Ay hs5) (by intro i hi;simp at hi) ptn ?_;refine U4 ?_;refine B0 (ALe.trans (ALe.icePtr gx gt9 (by simp) pt9 hs3) (ALe.trans (ALe.icePtr gx gt10 (by simp) pt10 hs4) (ALe.icePtr gx gt11 (by simp) pt11 hs5))) ?_;refine wr'<|Vw (Ax lk Ce rfl)<|Af mp (Up (t:=r.1) (k:=r.2) hr) pt<|ms<|Ab<|wm<|Vw (Cy lk lki)<|sn'<|?_;refine cd' lk (λhc2=>?_) (λhc2=>?_)
 .have hw:Ju r s=Cb s:=by unfold Ju;rw[if_neg (by rw[show Cb r=0 from hc2];simp)]
  refine Aq<|Vw (Ax lk Ce rfl)<|Af mp (Up (t:=s.1) (k:=s.2) hs) pt<|ms<|wr'<|E' (Bz hl6 ha6) pt<|sn'<|wm<|?_;refine Vw (Cy lk lki)<|sn'<|?_;refine cd' lk (λhc3=>?_) (λhc3=>?_)
  .have hw0:Ju r s=0:=by rw[hw];exact hc3
   have hU:Ny r s=betU r s:=if_pos hw0;obtain⟨hr0,hs0⟩:=nQ hw0;refine Aq<|Vw (Ax lk Ce rfl)<|Vw (Ax lk Ce rfl)<|Af mp (rupd_a (r:=r) (s:=s) (f1:=false) (f2:=false) (f3:=false) (f4:=false) hr0 hs0) pt<|E' (Ai lk cv gx rfl nb rfl Ay hs6) ptn<|Am<|?_;refine⟨rfl,rfl,rfl,rfl,rfl,rfl,rfl,rfl,by rw[hw];rfl,rfl,h,_,rfl,hn,?_,rfl⟩;rw[hU];first | exact WkL.refl _ | exact hz
  have hw0:¬Ju r s=0:=by rw[hw];exact hc3
  have hU:Ny r s=upd0:=if_neg hw0;refine Be ?_;refine⟨rfl,rfl,rfl,rfl,rfl,rfl,rfl,rfl,by rw[hw];rfl,rfl,h,_,rfl,hn,?_,rfl⟩;rw[hU];first | exact WkL.refl _ | exact hz
 have hw:Ju r s=Cb r:=if_pos hc2;have hw0:¬Ju r s=0:=by rw[hw];exact hc2
 have hU:Ny r s=upd0:=if_neg hw0;refine za<|wr'<|E' (Bz hl6 ha6) pt<|sn'<|wm<|Vw (Cy lk lki)<|sn'<|?_;refine F2 lk (by exact decide_eq_false hc2) ?_;refine Be ?_;refine⟨rfl,rfl,rfl,rfl,rfl,rfl,rfl,rfl,by rw[hw];rfl,rfl,h,_,rfl,hn,?_,rfl⟩;rw[hU];first | exact WkL.refl _ | exact hz
def GA (T0:List AV) (N:Nat) (T:List AV) (h:AH):Prop:=T.length=203/\T.take 15=T0 /\ ∃ (u:Upd) (x:Rel) (f y d:Tab) (p:Pat) (l:List Int),T[15]?=some (.ptr (N+0) 0 0)/\h[N+0]?=some (.mk 0 39 4 (Wn u))/\T[17]?=some (.ptr (N+1) 0 0)/\h[N+1]?=some (.mk 0 25 2 (Z5 x))/\T[19]?=some (.ptr (N+2) 0 0)/\h[N+2]?=some (.mk 0 30 4 [iv f.1.1,iv f.1.2.1,sv f.1.2.2,chFr f.2])/\T[21]?=some (.ptr (N+3) 0 0)/\h[N+3]?=some (.mk 0 49 6 [iv p.1.1,iv p.1.2.1,sv p.1.2.2,iv p.2.1,iv p.2.2.1,chFr p.2.2.2])/\T[23]?=some (.ptr (N+4) 0 0)/\h[N+4]?=some (.mk 0 30 4 [iv y.1.1,iv y.1.2.1,sv y.1.2.2,chFr y.2])/\T[27]?=some (.ptr (N+5) 0 0)/\h[N+5]?=some (.mk 0 30 4 [iv d.1.1,iv d.1.2.1,sv d.1.2.2,chFr d.2])/\T[29]?=some (.fs l.length 1 (rows intC l))
def round_w {t:Tab}{nm:ByteArray}{i:Int}{b4 o4 b5 o5 b6 o6 b9 o9 b10 o10 b11 o11 b13 o13 N:Nat}(hn:h.length=N) (hr:F9 r) (hs:F9 s) (ht:okT t) (lr:Xo r) :
  aw Tryz.prog N c3a (AX.thn (GA [.any,.any,.any,sv nm,.rx b4 o4 (relC r),.rx b5 o5 (relC s),.rx b6 o6 [iv t.1.1,iv t.1.2.1,sv t.1.2.2,chS t.2],.any,.any,.rx b9 o9 (relC r),.rx b10 o10 (relC s),.rx b11 o11 [iv t.1.1,iv t.1.2.1,sv t.1.2.2,chS t.2],iv (Ju r s),.rx b13 o13 (updC (Ny r s)),iv i] N) λ_ _ _=>False) [.any,.any,.any,sv nm,.rx b4 o4 (relC r),.rx b5 o5 (relC s),.rx b6 o6 [iv t.1.1,iv t.1.2.1,sv t.1.2.2,chS t.2],.any,.any,.rx b9 o9 (relC r),.rx b10 o10 (relC s),.rx b11 o11 [iv t.1.1,iv t.1.2.1,sv t.1.2.2,chS t.2],iv (Ju r s),.rx b13 o13 (updC (Ny r s)),iv i,.any,.any,.any,.any,.any,.any,.any,.any,.any,.any,.any,.any,.any,.any,.any,.any,.any,.any,.any,.any,.any,.any,.any,.any,.any,.any,.any,.any,.any,.any,.any,.any,.any,.any,.any,.any,.any,.any,.any,.any,.any,.any,.any,.any,.any,.any,.any,.any,.any,.any,.any,.any,.any,.any,.any,.any,.any,.any,.any,.any,.any,.any,.any,.any,.any,.any,.any,.any,.any,.any,.any,.any,.any,.any,.any,.any,.any,.any,.any,.any,.any,.any,.any,.any,.any,.any,.any,.any,.any,.any,.any,.any,.any,.any,.any,.any,.any,.any,.any,.any,.any,.any,.any,.any,.any,.any,.any,.any,.any,.any,.any,.any,.any,.any,.any,.any,.any,.any,.any,.any,.any,.any,.any,.any,.any,.any,.any,.any,.any,.any,.any,.any,.any,.any,.any,.any,.any,.any,.any,.any,.any,.any,.any,.any,.any,.any,.any,.any,.any,.any,.any,.any,.any,.any,.any,.any,.any,.any,.any,.any,.any,.any,.any,.any,.any,.any,.any,.any,.any,.any,.any,.any,.any,.any,.any,.any,.any,.any,.any,.any,.any,.any,.any,.any,.any,.any,.any,.any] (h++[]):=by
 have hu:=okUpd_w (r:=r) (s:=s);have hk:r.2.length<=9223372036854775807:=by have:=lr.2.1;omega
 have hf:=okT_find (nm:=nm) hr;show aw _ _ c3a _ _ _;refine wr'<|Vw (Fs lk Ce rfl)<|Vw (Fs lk Ce rfl)<|Af mp (diff_w hr hs) pt<|mw<|Vw (B7 lk gt)<|Vw (B7 lk gt)<|E' (Bz hl0 ha0) pt<|E' (Ai lk cv gx rfl nb rfl Ay hs0) ptn<|ms<|Ab<|?_;refine wm<|mw<|Vw (Ca lk lk)<|mw<|?_;refine cN (t:=82) gt (b:=false) (by exact decide_eq_false (by simp)) pt ?_;refine sd<|Vw (Ak lk gx Av rfl)<|sd<|Vw (Fs lk Bv rfl)<|sd<|Af mp (sameU_w rfl) pt<|sd<|Vw (Bj lk)<|Vw (Ao lk lk)<|sn'<|Cf lk<|za<|?_;refine wr'<|Vw (Fs lk Ce rfl)<|Vw (Ak lk gx Av rfl)<|?_;refine Af mp (ACalls.wk (wk1 rfl (wkw Wi wk0))<|kG hr hu) pt ?_;refine mw<|Vw (B7 lk gt)<|Vw (B7 lk gt)<|E' (Bz hl1 ha1) pt<|E' (Ai lk cv gx rfl nb rfl Cc hs1) ptn<|ms<|wr'<|Vw (Fs lk Ce rfl)<|mw<|Af mp (pO (t:=r.1) (k:=r.2) hr hk) pt<|mw<|?_;refine Vw (B7 lk gt)<|Vw (B7 lk gt)<|E' (Bz hl2 ha2) pt<|E' (Ai lk cv gx rfl nb rfl Ay hs2) ptn<|ms<|wr'<|Vw (Ak lk gx Av rfl)<|Vw (Fs lk Bv rfl)<|?_;refine Af mp (ACalls.wk (wkw (Is (t:=(Hu r nm).1)) (wk1 rfl wk0))<|diff_f (t:=(Hu r nm).1) (u:=t) hf ht) pt ?_;refine mw<|Vw (B7 lk gt)<|Vw (B7 lk gt)<|E' (Bz hl3 ha3) pt<|E' (Ai lk cv gx rfl nb rfl Hc hs3) ptn<|ms<|wr'<|Vw (Ak lk gx Av rfl)<|Vw (Ak lk gx Gd rfl)<|?_;refine Af mp (ACalls.wk (wkw (Is (t:=(Hu r nm).1)) (wkw (eX (p:=J2 (Hu r nm).1 t)) wk0))<|qV (t:=(Hu r nm).1) (p:=J2 (Hu r nm).1 t) hf (wk_diffP ht)) pt ?_;refine mw<|Vw (B7 lk gt)<|Vw (B7 lk gt)<|E' (Bz hl4 ha4) pt<|E' (Ai lk cv gx rfl nb rfl Ay hs4) ptn<|ms<|wr'<|Vw (Fs lk Bv rfl)<|Af mp (jH (t:=t) ht) pt<|mw<|Vw (B7 lk gt)<|?_;refine Vw (B7 lk gt)<|mw<|ms<|wm<|Af mp (dec_w) pt<|mw<|Vw (B7 lk gt)<|Vw (B7 lk gt)<|E' (Bz hl5 ha5) pt<|E' (Ai lk cv gx rfl nb rfl Ay hs5) ptn<|?_;refine ms<|wr'<|Vw (Fs lk Bv rfl)<|Vw (Bb (Fu cw cw cw))<|Af mp (when_f (t:=t) ht) pt<|mw<|Vw (B7 lk gt)<|Vw (B7 lk gt)<|mw<|mw<|Am<|?_;refine An<|wr'<|Vw (Fs lk Ce rfl)<|Vw (Fs lk Ce rfl)<|Af mp (Zv) pt<|Vw (Bj lk)<|mw<|sd<|Vw (Fs lk Ce rfl)<|sd<|Vw (Fs lk Ce rfl)<|sd<|Af mp (Zv) pt<|?_;refine sd<|Vw (Bj lk)<|Vw (Ao lk lk)<|mw<|sd<|Vw (Fs lk Bv rfl)<|sd<|Vw (Fs lk Bv rfl)<|sd<|Af mp (sameT_w) pt<|sd<|Vw (Bj lk)<|Vw (Ao lk lk)<|Am<|?_;refine An<|Cf lk<|Be<|?_;exact⟨rfl,rfl,_,_,_,_,_,_,_,rfl,gx,rfl,gx,rfl,gx,rfl,gx,rfl,gx,rfl,gx,rfl⟩
end
section
open Go.Ab Go.RowKit Civ
def He (x0 x1 x2:Value) (A:Option Addr) (n cap:Nat) (hs:Spo lo w1 w) (hlo:lo<=w1.heap.size) (hT:Hot lo 4 (PT w1) A n cap) :
  Calls Tryz.prog 25 #[.agg #[x0,x1,x2,.slice A n cap]] w λe w'=>e=.returned (.tuple #[])/\Spo lo w1 w'/\Late w1.heap.size w w':=by
 have HS:=Lib.hid hs;have HL:=Lib.hid hlo;obtain⟨hn1,hn2,hn3⟩:=hT;have HR:=Lib.hid hn3;have hm:n<=9223372036854775807:=by simp only[maxLen] at hn2;omega
 clear hs hlo hn3 hn2;go_enter Tryz.func25,Tryz.ntmps25;go_wp2_with (go_step);go_loopg [2] n (λgk i wx => ∃ k:Nat,k<=n/\gk=n-k/\i=.int .i64 k/\Hid (Spo lo w1 wx)/\Hid (Late w1.heap.size w wx)/\wx.cell? ⟨w.heap.size,3,none⟩=some (.slice A n cap));case atStart=>exact⟨0,Nat.zero_le _,rfl,rfl,Lib.hid (HS.out.alloc HL.out _),Lib.hid ((Late.refl _ _).alloc _),by simp⟩
 case round =>
  obtain⟨k,hk,hgk,rfl,hox,hlx,hc⟩:=hrel
  by_cases hlt:k<n
  .obtain⟨b,off,rfl,hb,hp⟩:=HR.out om
   obtain⟨p0,p1,p2,p3⟩:=hp k hlt
   obtain⟨i0,z0⟩:=p0.at hox.out
   have hbw:b<w.heap.size:=by
    obtain⟨u,hu,_⟩:=p0;have:=Qa hu;have:=HS.out.bel.size;omega
   obtain⟨c0,hc0⟩:=Option.isSome_iff_exists.1 i0
   obtain⟨V,hV⟩ : ∃ V,V=wr.setCell ⟨b,off+k*4,none⟩ (.int .i64 (-7)):=⟨_,rfl⟩
   have hsV:Hid (Spo lo w1 V):=Lib.hid (by rw[hV];exact p0.set hox.out hb _)
   have hlV:Hid (Late w1.heap.size w V):=Lib.hid (by rw[hV];exact hlx.out.setCell (.inl (by obtain⟨u,hu,_⟩:=p0;exact Qa hu)) _)
   have hcV:V.cell? ⟨w.heap.size,3,none⟩=some (.slice (some ⟨b,off,none⟩) n cap):=by
    rw[hV,World.cell?_setCell_other (h:=by intro e;injection e with e1;omega)];exact hc
   obtain⟨i3,z3⟩:=p3.at hsV.out
   obtain⟨c3,hc3⟩:=Option.isSome_iff_exists.1 i3
   rw[hV] at hcV z3 hc3
   clear i0 i3
   go_wp2_with (go_step)
   go_roundg (n-(k+1))
   case measure=>omega
   case rel =>
    rw[<-hV] at hcV hc3 z3 ⊢
    refine⟨k+1,by omega,rfl,by go_num,Lib.hid (p3.set hsV.out hb _),Lib.hid (hlV.out.setCell (.inl (by obtain⟨u,hu,_⟩:=p0;exact Qa hu)) _),?_⟩
    rw[World.cell?_setCell_other (h:=by intro e;injection e with e1;omega)];exact hcV
  .go_wp2_with (go_step)
   go_end0
   exact⟨rfl,hox.out,hlx.out⟩
def Od (At Al:Option Addr) (nt ct nl cl:Nat) (hs:Spo lo w1 w) (hlo:lo<=w1.heap.size) (hT:Hot lo 5 (PN lo w1) At nt ct) (hK:Hot lo 2 (λb o=>plC w1 b o/\plC w1 b (o+1)) Al nl cl) :
  Calls Tryz.prog 24 #[.agg #[.slice At nt ct,.slice Al nl cl]] w λe w'=>e=.returned (.tuple #[])/\Spo lo w1 w'/\Late w1.heap.size w w':=by
 have HS:=Lib.hid hs;have HL:=Lib.hid hlo;have hw1:w1.heap.size<=w.heap.size:=hs.bel.size;obtain⟨hn1,hn2,hn3⟩:=hT;have HR:=Lib.hid hn3;have hm:nt<=9223372036854775807:=by simp only[maxLen] at hn2;omega
 obtain⟨hk1,hk2,hk3⟩:=hK;have HK:=Lib.hid hk3;have hmk:nl<=9223372036854775807:=by simp only[maxLen] at hk2;omega
 clear hs hlo hn3 hn2 hk3 hk2;go_enter Tryz.func24,Tryz.ntmps24;go_wp2_with (go_step);go_loopg [2] nt (λgk i wx => ∃ k:Nat,k<=nt/\gk=nt-k/\i=.int .i64 k/\Hid (Spo lo w1 wx)/\Hid (Late w1.heap.size w wx)/\w.heap.size<wx.heap.size/\wx.cell? ⟨w.heap.size,0,none⟩=some (.slice At nt ct)/\wx.cell? ⟨w.heap.size,1,none⟩=some (.slice Al nl cl));case atStart=>exact⟨0,Nat.zero_le _,rfl,rfl,Lib.hid (HS.out.alloc HL.out _),Lib.hid ((Late.refl _ _).alloc _),by simp,by simp,by simp⟩
 case round =>
  obtain⟨k,hk,hgk,rfl,hox,hlx,hsz,hc,hc1⟩:=hrel
  by_cases hlt:k<nt
  .obtain⟨b,off,rfl,hb,hp⟩:=HR.out om
   obtain⟨⟨p0,p1,p2,p3⟩,A',n',cap',h4,hh⟩:=hp k hlt
   have hbw1:b<w1.heap.size:=Qa h4
   obtain⟨i1,z1⟩:=p1.at hox.out
   obtain⟨i2,z2⟩:=p2.at hox.out
   obtain⟨i3,z3⟩:=p3.at hox.out
   obtain⟨v1,hv1⟩:=Option.isSome_iff_exists.1 i1
   obtain⟨v2,hv2⟩:=Option.isSome_iff_exists.1 i2
   obtain⟨v3,hv3⟩:=Option.isSome_iff_exists.1 i3
   have hv4:wr.cell? ⟨b,off+k*5+4,none⟩=some (.slice A' n' cap'):=(hox.out.cell _ _ _ h4).1 Dr
   clear i1 i2 i3 z1 z2 z3
   go_wp2_with (go_step)
   go_at_call 25
   refine (He v1 v2 v3 A' n' cap' hox.out HL.out hh).mono ?_
   rintro e w' ⟨rfl,hs2,hl2⟩
   have HS2:=Lib.hid hs2
   have HL2:=Lib.hid (hlx.out.trans hl2)
   have hc':=(hl2.cell (i:=0) hw1 hsz).trans hc
   have hc1':=(hl2.cell (i:=1) hw1 hsz).trans hc1
   have hsz':=Nat.lt_of_lt_of_le hsz hl2.size
   obtain⟨i0,z0⟩:=p0.at HS2.out
   obtain⟨v0,hv0⟩:=Option.isSome_iff_exists.1 i0
   clear hs2 hl2 hv1 hv2 hv3 hv4 hc hc1 i0
   go_wp2_with (go_step)
   go_roundg (nt-(k+1))
   case measure=>omega
   case rel =>
    refine⟨k+1,by omega,rfl,by go_num,Lib.hid (p0.set HS2.out hb _),Lib.hid (HL2.out.setCell (.inl hbw1) _),by simpa using hsz',?_,?_⟩
    .rw[World.cell?_setCell_other (h:=by intro e;injection e with e1;omega)];exact hc'
    .rw[World.cell?_setCell_other (h:=by intro e;injection e with e1;omega)];exact hc1'
  .go_wp2_with (go_step)
   go_loopg [3] nl (λgk i wx => ∃ k:Nat,k<=nl/\gk=nl-k/\i=.int .i64 k/\Hid (Spo lo w1 wx)/\Hid (Late w1.heap.size w wx)/\wx.cell? ⟨w.heap.size,1,none⟩=some (.slice Al nl cl))
   case atStart=>exact⟨0,Nat.zero_le _,rfl,rfl,hox,hlx,hc1⟩
   case round =>
    obtain⟨k2,hk2,hgk2,rfl,hox2,hlx2,hc2⟩:=hrel
    by_cases hlt2:k2<nl
    .obtain⟨b,off,rfl,hb,hp⟩:=HK.out om
     obtain⟨p0,p1⟩:=hp k2 hlt2
     have hbw1:b<w1.heap.size:=by obtain⟨u,hu,_⟩:=p0;exact Qa hu
     obtain⟨i1,z1⟩:=p1.at hox2.out
     obtain⟨v1,hv1⟩:=Option.isSome_iff_exists.1 i1
     clear i1
     go_wp2_with (go_step)
     go_roundg (nl-(k2+1))
     case measure=>omega
     case rel =>
      refine⟨k2+1,by omega,rfl,by go_num,Lib.hid (p1.set hox2.out hb _),Lib.hid (hlx2.out.setCell (.inl hbw1) _),?_⟩
      rw[World.cell?_setCell_other (h:=by intro e;injection e with e1;omega)];exact hc2
    .go_wp2_with (go_step)
     go_end0
     exact⟨rfl,hox2.out,hlx2.out⟩
end
section
open Go.Ab Go.RowKit Civ
def TBox (lo:Nat) (w1:World) (B:Nat):Prop:=plC w1 B 0/\plC w1 B 1/\plC w1 B 2 /\ ∃ A n c,w1.cell? ⟨B,3,none⟩=some (.slice A n c)/\Hot lo 4 (PT w1) A n c
def PL (w1:World) (b o:Nat):Prop:=plC w1 b o/\plC w1 b (o+1)
def TBox.at {B:Nat}(h:TBox lo w1 B) (hs:Spo lo w1 w) : ∃ v0 v1 v2 A n c,w.cell? ⟨B,0,none⟩=some v0/\w.cell? ⟨B,1,none⟩=some v1/\w.cell? ⟨B,2,none⟩=some v2/\w.cell? ⟨B,3,none⟩=some (.slice A n c)/\Hot lo 4 (PT w1) A n c:=by
 obtain⟨p0,p1,p2,A,n,c,h3,h4⟩:=h;obtain⟨v0,e0⟩:=Option.isSome_iff_exists.1 (p0.at hs).1;obtain⟨v1,e1⟩:=Option.isSome_iff_exists.1 (p1.at hs).1;obtain⟨v2,e2⟩:=Option.isSome_iff_exists.1 (p2.at hs).1;exact⟨v0,v1,v2,A,n,c,e0,e1,e2,(hs.cell _ _ _ h3).1 Dr,h4⟩
def Hot.len {st n cap:Nat}{Pr:Nat->Nat->Prop}{A:Option Addr}(h:Hot lo st Pr A n cap):n<=9223372036854775807:=by
 have:=h.1;have:=h.2.1;simp only[maxLen] at this;omega
def spoil_w {B15 B17 B19 B21 B23 B27 nl cl:Nat}{Al:Option Addr}{x0 x1 x2 x3 x4 x5 x6 x7 x8 x9 x10 x11 x12 x13 x14 x16 x18 x20 x22 x24 x25 x26 x28 x30 x31 x32 x33 x34 x35 x36 x37 x38 x39 x40 x41 x42 x43 x44 x45 x46 x47 x48 x49 x50 x51 x52 x53 x54 x55 x56 x57 x58 x59 x60 x61 x62 x63 x64 x65 x66 x67 x68 x69 x70 x71 x72 x73 x74 x75 x76 x77 x78 x79 x80 x81 x82 x83 x84 x85 x86 x87 x88 x89 x90 x91 x92 x93 x94 x95 x96 x97 x98 x99 x100 x101 x102 x103 x104 x105 x106 x107 x108 x109 x110 x111 x112 x113 x114 x115 x116 x117 x118 x119 x120 x121 x122 x123 x124 x125 x126 x127 x128 x129 x130 x131 x132 x133 x134 x135 x136 x137 x138 x139 x140 x141 x142 x143 x144 x145 x146 x147 x148 x149 x150 x151 x152 x153 x154 x155 x156 x157 x158 x159 x160 x161 x162 x163 x164 x165 x166 x167 x168 x169 x170 x171 x172 x173 x174 x175 x176 x177 x178 x179 x180 x181 x182 x183 x184 x185 x186 x187 x188 x189 x190 x191 x192 x193 x194 x195 x196 x197 x198 x199 x200 x201 x202:Value}(hlo:lo<=w1.heap.size)
  {A0 A1 A2 A3 A4 A5 A6:Option Addr} {n0 c0 n1 c1 n2 c2 n3 c3 n4 c4 n5 c5 n6 c6:Nat}
  (u0:w1.cell? ⟨B15,0,none⟩=some (.slice A0 n0 c0)) (hu0:Hot lo 1 (plC w1) A0 n0 c0) (u1:w1.cell? ⟨B15,1,none⟩=some (.slice A1 n1 c1)) (hu1:Hot lo 5 (PN lo w1) A1 n1 c1)
  (u2:w1.cell? ⟨B15,2,none⟩=some (.slice A2 n2 c2)) (hu2:Hot lo 7 (PP lo w1) A2 n2 c2) (u3:w1.cell? ⟨B15,3,none⟩=some (.slice A3 n3 c3)) (hu3:Hot lo 2 (PL w1) A3 n3 c3)
  (r0:w1.cell? ⟨B17,0,none⟩=some (.slice A4 n4 c4)) (hr0:Hot lo 5 (PN lo w1) A4 n4 c4) (r1:w1.cell? ⟨B17,1,none⟩=some (.slice A5 n5 c5)) (hr1:Hot lo 2 (PL w1) A5 n5 c5)
  (hf:TBox lo w1 B19) (hy:TBox lo w1 B23) (hd:TBox lo w1 B27) (p5:w1.cell? ⟨B21,5,none⟩=some (.slice A6 n6 c6)) (hp5:Hot lo 4 (PT w1) A6 n6 c6) (hl:Hot lo 1 (plC w1) Al nl cl) (c:Code) (hc:Tryz.f3.body=some c) :
  (sufN 9 (P6 (sufN 6 c))).wp Tryz.prog (λe a' w'=>e=.normal/\a'.defers=[]/\Spo lo w1 w'/\a'.tmps.size=203/\a'.tmps.toList.take 15=[x0,x1,x2,x3,x4,x5,x6,x7,x8,x9,x10,x11,x12,x13,x14]) { tmps := #[x0,x1,x2,x3,x4,x5,x6,x7,x8,x9,x10,x11,x12,x13,x14,.pointer (some ⟨B15,0,none⟩),x16,.pointer (some ⟨B17,0,none⟩),x18,.pointer (some ⟨B19,0,none⟩),x20,.pointer (some ⟨B21,0,none⟩),x22,.pointer (some ⟨B23,0,none⟩),x24,x25,x26,.pointer (some ⟨B27,0,none⟩),x28,.slice Al nl cl,x30,x31,x32,x33,x34,x35,x36,x37,x38,x39,x40,x41,x42,x43,x44,x45,x46,x47,x48,x49,x50,x51,x52,x53,x54,x55,x56,x57,x58,x59,x60,x61,x62,x63,x64,x65,x66,x67,x68,x69,x70,x71,x72,x73,x74,x75,x76,x77,x78,x79,x80,x81,x82,x83,x84,x85,x86,x87,x88,x89,x90,x91,x92,x93,x94,x95,x96,x97,x98,x99,x100,x101,x102,x103,x104,x105,x106,x107,x108,x109,x110,x111,x112,x113,x114,x115,x116,x117,x118,x119,x120,x121,x122,x123,x124,x125,x126,x127,x128,x129,x130,x131,x132,x133,x134,x135,x136,x137,x138,x139,x140,x141,x142,x143,x144,x145,x146,x147,x148,x149,x150,x151,x152,x153,x154,x155,x156,x157,x158,x159,x160,x161,x162,x163,x164,x165,x166,x167,x168,x169,x170,x171,x172,x173,x174,x175,x176,x177,x178,x179,x180,x181,x182,x183,x184,x185,x186,x187,x188,x189,x190,x191,x192,x193,x194,x195,x196,x197,x198,x199,x200,x201,x202],defers:=[] } w1:=by
 cases hc;have hm0:=hu0.len;have hm2:=hu2.len;have hml:=hl.len;have U1:=Lib.hid hu1;have U2:=Lib.hid hu2;have U0:=Lib.hid hu0;have U3:=Lib.hid hu3;have R0:=Lib.hid hr0;have R1:=Lib.hid hr1;have HF:=Lib.hid hf;have HY:=Lib.hid hy;have HD:=Lib.hid hd;have P5:=Lib.hid hp5;have HL:=Lib.hid hl;have LO:=Lib.hid hlo;have K0:=Lib.hid u0;have K1:=Lib.hid u1;have K2:=Lib.hid u2;have K3:=Lib.hid u3;have K5:=Lib.hid p5;clear hu0 hu1 hu2 hu3 hr0 hr1 hf hy hd hp5 hl hlo u0 u1 u2 u3 p5;dsimp only [sufN,P6];go_wp2_with (go_step);go_at_call 24;refine (Od A4 A5 n4 c4 n5 c5 (Spo.refl lo w1) LO.out R0.out R1.out).mono ?_;rintro e w2 ⟨rfl,hs2,-⟩;have S2:=Lib.hid hs2;have d1:=(hs2.cell _ _ _ K1.out).1 Dr;have d3:=(hs2.cell _ _ _ K3.out).1 Dr;clear hs2 r0 r1;go_wp2_with (go_step);go_at_call 24;refine (Od A1 A3 n1 c1 n3 c3 S2.out LO.out U1.out U3.out).mono ?_;rintro e w3 ⟨rfl,hs3,-⟩;have S3:=Lib.hid hs3;clear hs3 d1 d3;go_wp2_with (go_step);go_loopg [31] n0 (λgk i wx => ∃ k:Nat,k<=n0/\gk=n0-k/\i=.int .i64 k/\Hid (Spo lo w1 wx));case atStart=>exact⟨0,Nat.zero_le _,rfl,rfl,S3⟩
 case round =>
  obtain⟨k,hk,hgk,rfl,hox⟩:=hrel
  have d0:=(hox.out.cell _ _ _ K0.out).1 Dr
  by_cases hlt:k<n0
  .obtain⟨hn1,hn2,hn3⟩:=U0.out
   obtain⟨b,off,rfl,hb,hp⟩:=hn3 om
   have p0:=hp k hlt
   rw[Nat.mul_one] at p0
   obtain⟨i0,z0⟩:=p0.at hox.out
   obtain⟨v0,hv0⟩:=Option.isSome_iff_exists.1 i0
   clear i0 hn1 hn2 hn3 hp
   go_wp2_with (go_step)
   go_roundg (n0-(k+1))
   case measure=>omega
   case rel=>exact⟨k+1,by omega,rfl,by go_num,Lib.hid (p0.set hox.out hb _)⟩
  .go_wp2_with (go_step)
   clear d0
   go_loopg [32] n2 (λgk i wx => ∃ k:Nat,k<=n2/\gk=n2-k/\i=.int .i64 k/\Hid (Spo lo w1 wx))
   case atStart=>exact⟨0,Nat.zero_le _,rfl,rfl,hox⟩
   case round =>
    clear hox hlt hgk hk
    obtain⟨q,hk,hgk,rfl,hox⟩:=hrel
    have d0:=(hox.out.cell _ _ _ K2.out).1 Dr
    by_cases hlt:q<n2
    .obtain⟨hn1,hn2,hn3⟩:=U2.out
     obtain⟨b,off,rfl,hb,hp⟩:=hn3 om
     obtain⟨⟨p0,-,-,-⟩,A',n',cap',h6,hh⟩:=hp q hlt
     have e6:=(hox.out.cell _ _ _ h6).1 Dr
     have HH:=Lib.hid hh
     clear hn1 hn2 hn3 hp h6 hh
     go_wp2_with (go_step)
     go_at_call 25
     refine (He _ _ _ A' n' cap' hox.out LO.out HH.out).mono ?_
     rintro e w4 ⟨rfl,hs4,-⟩
     have S4:=Lib.hid hs4
     have d0':=(hs4.cell _ _ _ K2.out).1 Dr
     obtain⟨i0,z0⟩:=p0.at hs4
     obtain⟨v0,hv0⟩:=Option.isSome_iff_exists.1 i0
     clear i0 hs4 d0 e6
     go_wp2_with (go_step)
     go_roundg (n2-(q+1))
     case measure=>omega
     case rel=>exact⟨q+1,by omega,rfl,by go_num,Lib.hid (p0.set S4.out hb _)⟩
    .obtain⟨f0,f1,f2,A7,n7,c7,g0,g1,g2,g3,g4⟩:=HF.out.at hox.out
     have G4:=Lib.hid g4
     clear g4
     go_wp2_with (go_step)
     go_at_call 25
     refine (He _ _ _ A7 n7 c7 hox.out LO.out G4.out).mono ?_
     rintro e w5 ⟨rfl,hs5,-⟩
     have S5:=Lib.hid hs5
     clear hs5 g0 g1 g2 g3
     obtain⟨y0,y1,y2,A8,n8,c8,g0,g1,g2,g3,g4⟩:=HY.out.at S5.out
     have G5:=Lib.hid g4
     clear g4
     go_wp2_with (go_step)
     go_at_call 25
     refine (He _ _ _ A8 n8 c8 S5.out LO.out G5.out).mono ?_
     rintro e w6 ⟨rfl,hs6,-⟩
     have S6:=Lib.hid hs6
     clear hs6 g0 g1 g2 g3
     obtain⟨z0,z1,z2,A9,n9,c9,g0,g1,g2,g3,g4⟩:=HD.out.at S6.out
     have G6:=Lib.hid g4
     clear g4
     go_wp2_with (go_step)
     go_at_call 25
     refine (He _ _ _ A9 n9 c9 S6.out LO.out G6.out).mono ?_
     rintro e w7 ⟨rfl,hs7,-⟩
     have S7:=Lib.hid hs7
     have g5:=(hs7.cell _ _ _ K5.out).1 Dr
     clear hs7 g0 g1 g2 g3
     go_wp2_with (go_step)
     go_at_call 25
     refine (He _ _ _ A6 n6 c6 S7.out LO.out P5.out).mono ?_
     rintro e w8 ⟨rfl,hs8,-⟩
     have S8:=Lib.hid hs8
     clear hs8 g5
     go_wp2_with (go_step)
     go_loopg [33] nl (λgk i wx => ∃ k:Nat,k<=nl/\gk=nl-k/\i=.int .i64 k/\Hid (Spo lo w1 wx))
     case atStart=>exact⟨0,Nat.zero_le _,rfl,rfl,S8⟩
     case round =>
      clear hlt hgk hk hox
      obtain⟨m,hk,hgk,rfl,hox⟩:=hrel
      by_cases hlt:m<nl
      .obtain⟨hn1,hn2,hn3⟩:=HL.out
       obtain⟨b,off,rfl,hb,hp⟩:=hn3 om
       have p0:=hp m hlt
       rw[Nat.mul_one] at p0
       obtain⟨i0,z0⟩:=p0.at hox.out
       obtain⟨v0,hv0⟩:=Option.isSome_iff_exists.1 i0
       clear i0 hn1 hn2 hn3 hp
       go_wp2_with (go_step)
       go_roundg (nl-(m+1))
       case measure=>omega
       case rel=>exact⟨m+1,by omega,rfl,by go_num,Lib.hid (p0.set hox.out hb _)⟩
      .go_wp2_with (go_step)
       try simp only[Exit.inBlock,Exit.then]
       exact hox.out
end
section
open Go.Ab Go.RowKit Civ
def H4 {α:Type}{f:α->List AV}(h : ∀ x,AV.nfL (f x)=true) : ∀ l:List α,AV.nfL (rows f l)=true
 | []=>rfl
 | x::l=>by
  show AV.nfL (f x++rows f l)=true;rw[dD,h,H4 h l];rfl
def lY (l:List Nam):AV.nfL (rows namC l)=true:=H4 (λx=>by simp only[AV.nfL,AV.nf,H4 (f:=chgC) (λ_=>rfl),Bool.and_self]) l
def nf_npt (l:List NPt):AV.nfL (rows nptC l)=true:=H4 (λx=>by simp only[AV.nfL,AV.nf,H4 (f:=chgC) (λ_=>rfl),Bool.and_self]) l
def dC (r:Rel):AV.nfL (relC r)=true:=by simp only[AV.nfL,AV.nf,lY,H4 (f:=lnkC) (λ_=>rfl),Bool.and_self]
def nf_tab (t:Tab):AV.nfL [iv t.1.1,iv t.1.2.1,sv t.1.2.2,chS t.2]=true:=by simp only[AV.nfL,AV.nf,H4 (f:=chgC) (λ_=>rfl),Bool.and_self]
def nf_upd (u:Upd):AV.nfL (updC u)=true:=by simp only[AV.nfL,AV.nf,lY,nf_npt,H4 (f:=lnkC) (λ_=>rfl),H4 (f:=strC) (λ_=>rfl),Bool.and_self]
def V2 (hh : ∀ e∈h,e=.gone) (k:Nat):¬Ow g h k:=by
 rintro (⟨i,v,ty,s,c,b,cap,e,_⟩ | ⟨i,o,T,vs,e⟩)
 .have:=hh _ (List.mem_of_getElem? e);cases this
 .have:=hh _ (List.mem_of_getElem? e);cases this
def H3 {T:List AV}{l:List Value}{c:AV}{u:Value}(h:RepL w g T l) (hu:l[k]?=some u) (hr:Rep w g c u):RepL w g (T.set k c) l:=by
 have:=h.set (k:=k) hr;have hself:l.set k u=l:=by
  apply List.ext_getElem?;intro j;by_cases hj:j=k
  .subst hj;have:j<l.length:=(List.getElem?_eq_some_iff.1 hu).1;rw[List.getElem?_set_self this,hu]
  .rw[List.getElem?_set_ne (Ne.symm hj)]
 rwa [hself] at this
def rep_swap {T:List AV}{l l':List Value}{n:Nat}(h:RepL w g (T++List.replicate n .any) l) (hm:T.length=m) (ht:l'.take m=l.take m) (hl:l'.length=m+n):RepL w g (T++List.replicate n .any) l':=by
 have h1:=h.take m;rw[<-hm,List.take_left,hm,<-ht] at h1;have:=h1.append (Kw w g (l'.drop m));rw[List.take_append_drop] at this;rwa [show (l'.drop m).length=n by rw[List.length_drop];omega] at this
def St.box {n0:Nat}{w0:World}{S0:Nat->Prop}{g0:Gh}{T:List AV}{a:Act}(st:St n0 w0 S0 g0 T h a w g) {id ty s:Nat}{cells:List AV}(hk:T[k]?=some (.ptr id 0 0)) (hi:h[id]?=some (.mk 0 ty s cells)) (hne:cells≠[]) :
  ∃ b,a.tmps.toList[k]?=some (.pointer (some ⟨b,0,none⟩))/\(∃ arr ty,w.heap[b]?=some (.cells arr ty (0,0)))/\RepC w g cells b 0:=by
 obtain⟨u,hu,hr⟩:=st.tmps.get hk;simp only[Rep] at hr;obtain⟨b,cap,e1,rfl⟩:=hr;obtain⟨A,cap',f1,_,f3⟩:=st.sim.ent _ _ _ _ _ hi;rw[e1] at f1;simp only[Option.some.injEq,Prod.mk.injEq] at f1;obtain⟨rfl,rfl⟩:=f1;rcases f3 with ⟨h0,_⟩ | ⟨b',arr,e,hc0,hd,hb,_,hl,hrl⟩
 .exact absurd h0 hne
 .cases e;exact⟨b,hu,⟨_,_,hb⟩,RepC.of_row hb _ 0 (by simpa using hrl)⟩
structure Bx where
 b4:Nat
 o4:Nat
 b5:Nat
 o5:Nat
 b6:Nat
 o6:Nat
 b9:Nat
 o9:Nat
 b10:Nat
 o10:Nat
 b11:Nat
 o11:Nat
 b13:Nat
 o13:Nat
abbrev T15 (r s:Rel) (t:Tab) (nm:ByteArray) (x:Bx) (c:AV):List AV:=[.any,.any,.any,sv nm,.rx x.b4 x.o4 (relC r),.rx x.b5 x.o5 (relC s),.rx x.b6 x.o6 [iv t.1.1,iv t.1.2.1,sv t.1.2.2,chS t.2],.any,.any,.rx x.b9 x.o9 (relC r),.rx x.b10 x.o10 (relC s),.rx x.b11 x.o11 [iv t.1.1,iv t.1.2.1,sv t.1.2.2,chS t.2],iv (Ju r s),.rx x.b13 x.o13 (updC (Ny r s)),c]
abbrev L4:List AV:=List.replicate 188 .any
section
variable {r s : Rel} {t : Tab} {nm : ByteArray} {x : Bx} {n : Nat}
def Sg {c:AV}(hc:c.nf=true):AV.nfL (T15 r s t nm x c++L4)=true:=by
 rw[dD,pC,Bool.and_true];simp only[AV.nfL,AV.nf,lY,nf_npt,H4 (f:=chgC) (λ_=>rfl),H4 (f:=lnkC) (λ_=>rfl),H4 (f:=strC) (λ_=>rfl),hc,Bool.and_self]
def Q15 (r s:Rel) (t:Tab) (nm:ByteArray) (x:Bx) (c:AV) (T:List AV) (h:AH):Prop:=T.take 15=T15 r s t nm x c/\T.length=203/\h=[]
def r10_w:aw Tryz.prog n (.reg [⟨some 14,none,.mv (.const (.int .i64 0))⟩]) (AX.thn (Q15 r s t nm x (iv 0)) λ_ _ _=>False) (T15 r s t nm x .any++L4) []:=by
 refine Aq<|mv' lki rfl<|Am ?_;exact⟨rfl,rfl,rfl⟩
def cnd_w {i:Int}:aw Tryz.prog n (.seq (.reg [⟨some 69,none,.mv (.tmp 14)⟩,⟨some 70,none,.bin .lss (.tmp 69) (.const (.int .i64 2))⟩]) (.cond (.tmp 70) .skip (.exit 0))) (λz T h=>Q15 r s t nm x (iv i) T h/\((i<2/\z=.normal)\/(¬i<2/\z=.exit 0))) (T15 r s t nm x (iv i)++L4) []:=by
 refine wr'<|mv' rfl rfl<|V' (Bm rfl lki) rfl<|sn'<|?_;refine Bg (t:=decide (i<2)) rfl (λht=>Be ?_) (λhf=>Bd ?_)
 .exact⟨⟨rfl,rfl,rfl⟩,.inl ⟨of_decide_eq_true ht,rfl⟩⟩
 .exact⟨⟨rfl,rfl,rfl⟩,.inr ⟨of_decide_eq_false hf,rfl⟩⟩
def r12_w {i:Int}(h0:0<=i) (h2:i<2):aw Tryz.prog n (.reg [⟨some 71,none,.mv (.tmp 14)⟩,⟨some 72,none,.bin .add (.tmp 71) (.const (.int .i64 1))⟩,⟨some 14,none,.mv (.tmp 72)⟩]) (AX.thn (Q15 r s t nm x (iv (i+1))) λ_ _ _=>False) (T15 r s t nm x (iv i)++L4) []:=by
 refine Aq<|mv' rfl rfl<|V' (Du rfl lki om om) rfl<|mv' rfl rfl<|Am ?_;exact⟨rfl,rfl,rfl⟩
def r44_w {i:Int}:aw Tryz.prog n (.seq (.reg [⟨some 8,none,.mv (.const (.bool true))⟩]) .ret) (λz T h=>z=.ret/\T[8]?=some (bv true)) (T15 r s t nm x (iv i)++L4) []:=by
 refine wr'<|mv' rfl rfl<|sn'<|C4 ?_;exact⟨rfl,rfl⟩
def jstep {w':World}{g':Gh}{T':List AV}{l l':List Value}{c:AV}{j:Int}(h:RepL w g (T15 r s t nm x c++L4) l) (h':RepL w' g' T' l') (ht:T'.take 15=T15 r s t nm x (iv j)) (hl:T'.length=203):RepL w g (T15 r s t nm x (iv j)++L4) l':=by
 have k1:=fT (n:=188) h' ht hl;have e : ∀ d,(T15 r s t nm x d++L4).set 14 .any=T15 r s t nm x .any++L4:=λ_=>rfl;obtain⟨u,hu,_⟩:=h.get (k:=14) (c:=c) rfl;obtain⟨v,hv,hr⟩:=k1.get (k:=14) (c:=iv j) rfl;have h0:=H3 h hu (c:=.any) (by simp only[Rep]);have k0:=H3 k1 hv (c:=.any) (by simp only[Rep]);rw[e] at h0 k0;have:=Tn _ _ _ rfl h0 k0;simp only[Rep] at hr;exact H3 this hv (c:=iv j) (by simp only[Rep];exact hr)
end
def Su {a b c:World}(h:Fr a (λ_=>False) b) (k:Fr b (λ_=>False) c):Fr a (λ_=>False) c:=h.trans k λ_ h _=>h
def kPre:comp Tryz.prog (preN 6 (Lc Tryz.prog 3))=some c3b:=by kernel_rfl
def kRnd:comp Tryz.prog (preN 9 (P6 (sufN 6 (Lc Tryz.prog 3))))=some c3a:=by kernel_rfl
def kLA:comp Tryz.prog (lpA (sufN 6 (Lc Tryz.prog 3)))=some (.reg [⟨some 14,none,.mv (.const (.int .i64 0))⟩]):=by kernel_rfl
def kLB:comp Tryz.prog (lpB (sufN 6 (Lc Tryz.prog 3)))=some (.seq (.reg [⟨some 69,none,.mv (.tmp 14)⟩,⟨some 70,none,.bin .lss (.tmp 69) (.const (.int .i64 2))⟩]) (.cond (.tmp 70) .skip (.exit 0))):=by kernel_rfl
def kLC:comp Tryz.prog (lpC (sufN 6 (Lc Tryz.prog 3)))=some (.reg [⟨some 71,none,.mv (.tmp 14)⟩,⟨some 72,none,.bin .add (.tmp 71) (.const (.int .i64 1))⟩,⟨some 14,none,.mv (.tmp 72)⟩]):=by kernel_rfl
def kLD:comp Tryz.prog (lpD (sufN 6 (Lc Tryz.prog 3)))=some (.seq (.reg [⟨some 8,none,.mv (.const (.bool true))⟩]) .ret):=by kernel_rfl
def bodyR:Tryz.f3.body=some (Lc Tryz.prog 3):=by kernel_rfl
def shapeR:lpI (sufN 6 (Lc Tryz.prog 3))=some (0,1):=by kernel_rfl
def longP:aL 6 (Lc Tryz.prog 3)=true:=by kernel_rfl
def longR:aL 9 (P6 (sufN 6 (Lc Tryz.prog 3)))=true:=by kernel_rfl
def spoil_st {w2 w3:World}{g2 g3:Gh}{T15':List AV}{T3:List AV}{h3:AH}{a3:Act}{Q:Exit->Act->World->Prop}(hlo:w2.heap.size<=w3.heap.size) (st3:St 0 w2 (λ_=>False) (gNow w2 g2 []) T3 h3 a3 w3 g3) (hG:GA T15' 0 T3 h3)
  (hQ : ∀ a4 w4,a4.defers=[]->Spo w2.heap.size w3 w4->a4.tmps.size=203->a4.tmps.toList.take 15=a3.tmps.toList.take 15->Q .normal a4 w4):(sufN 9 (P6 (sufN 6 (Lc Tryz.prog 3)))).wp Tryz.prog Q a3 w3:=by
 obtain⟨hl3,htk,u,x,f,y,d,p,l,q15,e15,q17,e17,q19,e19,q21,e21,q23,e23,q27,e27,q29⟩:=hG;have hab : ∀ b,g3.D b->¬g3.X.B b->w2.heap.size<=b:=λb hd hb=>sX st3.le st3.sim hd hb;obtain⟨B15,v15,c15,m15⟩:=St.box st3 q15 e15 (by simp);obtain⟨B17,v17,c17,m17⟩:=St.box st3 q17 e17 (by simp);obtain⟨B19,v19,c19,m19⟩:=St.box st3 q19 e19 (by simp);obtain⟨B21,v21,c21,m21⟩:=St.box st3 q21 e21 (by simp);obtain⟨B23,v23,c23,m23⟩:=St.box st3 q23 e23 (by simp);obtain⟨B27,v27,c27,m27⟩:=St.box st3 q27 e27 (by simp);obtain⟨z29,v29,m29⟩:=st3.tmps.get q29;obtain⟨Al,cl,rfl,hl⟩:=hotI hab m29;have tb : ∀ {B:Nat} {tt:Tab},(∃ arr ty,w3.heap[B]?=some (.cells arr ty (0,0)))->RepC w3 g3 [iv tt.1.1,iv tt.1.2.1,sv tt.1.2.2,chFr tt.2] B 0->TBox w2.heap.size w3 B:=λhc hm=>by
  obtain⟨a0,hm⟩:=Fz hc hm;obtain⟨a1,hm⟩:=Fz hc hm;obtain⟨a2,hm⟩:=Jp hc hm;rw[RepC] at hm;obtain⟨⟨z,h1,h2⟩,_⟩:=hm;obtain⟨A,cap,rfl,hh⟩:=hotT hab h2;exact⟨a0,a1,a2,A,_,cap,h1,hh⟩
 simp only[RepC] at m15 m17;obtain⟨⟨z0,u0,s0⟩,⟨z1,u1,s1⟩,⟨z2,u2,s2⟩,⟨z3,u3,s3⟩,_⟩:=m15;obtain⟨A0,k0,rfl,hu0⟩:=hotS hab s0;obtain⟨A1,k1,rfl,hu1⟩:=hotN hab s1;obtain⟨A2,k2,rfl,hu2⟩:=hotP hab s2;obtain⟨A3,k3,rfl,hu3⟩:=hotL hab s3;obtain⟨⟨z4,r0,s4⟩,⟨z5,r1,s5⟩,_⟩:=m17;obtain⟨A4,k4,rfl,hr0⟩:=hotN hab s4;obtain⟨A5,k5,rfl,hr1⟩:=hotL hab s5;obtain⟨_,m21⟩:=Fz c21 m21;obtain⟨_,m21⟩:=Fz c21 m21;obtain⟨_,m21⟩:=Jp c21 m21;obtain⟨_,m21⟩:=Fz c21 m21;obtain⟨_,m21⟩:=Fz c21 m21;rw[RepC] at m21;obtain⟨⟨z6,p5,s6⟩,_⟩:=m21;obtain⟨A6,k6,rfl,hp5⟩:=hotT hab s6;have hsz:a3.tmps.size=203:=by have:=st3.tmps.length;rw[hl3] at this;simpa using this
 obtain⟨tm,df⟩:=a3;have hdf:df=[]:=st3.defers;subst hdf;obtain⟨q,hq⟩ : ∃ q:Nat->Value,q=λk=>tm.getD k undef:=⟨_,rfl⟩;have ha:tm = #[q 0,q 1,q 2,q 3,q 4,q 5,q 6,q 7,q 8,q 9,q 10,q 11,q 12,q 13,q 14,q 15,q 16,q 17,q 18,q 19,q 20,q 21,q 22,q 23,q 24,q 25,q 26,q 27,q 28,q 29,q 30,q 31,q 32,q 33,q 34,q 35,q 36,q 37,q 38,q 39,q 40,q 41,q 42,q 43,q 44,q 45,q 46,q 47,q 48,q 49,q 50,q 51,q 52,q 53,q 54,q 55,q 56,q 57,q 58,q 59,q 60,q 61,q 62,q 63,q 64,q 65,q 66,q 67,q 68,q 69,q 70,q 71,q 72,q 73,q 74,q 75,q 76,q 77,q 78,q 79,q 80,q 81,q 82,q 83,q 84,q 85,q 86,q 87,q 88,q 89,q 90,q 91,q 92,q 93,q 94,q 95,q 96,q 97,q 98,q 99,q 100,q 101,q 102,q 103,q 104,q 105,q 106,q 107,q 108,q 109,q 110,q 111,q 112,q 113,q 114,q 115,q 116,q 117,q 118,q 119,q 120,q 121,q 122,q 123,q 124,q 125,q 126,q 127,q 128,q 129,q 130,q 131,q 132,q 133,q 134,q 135,q 136,q 137,q 138,q 139,q 140,q 141,q 142,q 143,q 144,q 145,q 146,q 147,q 148,q 149,q 150,q 151,q 152,q 153,q 154,q 155,q 156,q 157,q 158,q 159,q 160,q 161,q 162,q 163,q 164,q 165,q 166,q 167,q 168,q 169,q 170,q 171,q 172,q 173,q 174,q 175,q 176,q 177,q 178,q 179,q 180,q 181,q 182,q 183,q 184,q 185,q 186,q 187,q 188,q 189,q 190,q 191,q 192,q 193,q 194,q 195,q 196,q 197,q 198,q 199,q 200,q 201,q 202]:=by
  have:=arr_at (d:=undef) hsz;rw[<-hq] at this;exact this.trans rfl
 have gt : ∀ {k:Nat} {v:Value},tm.toList[k]?=some v->q k=v:=λ{k v} h=>by
  rw[hq];have:tm[k]?=some v:=by rw[<-Array.getElem?_toList];exact h
  simp[Array.getD_eq_getD_getElem?,this]
 rw[gt v15,gt v17,gt v19,gt v21,gt v23,gt v27,gt v29] at ha;clear hq gt;subst ha;refine wp_mono (spoil_w hlo u0 hu0 u1 hu1 u2 hu2 u3 hu3 r0 hr0 r1 hr1 (tb c19 m19) (tb c23 m23) (tb c27 m27) p5 hp5 hl _ bodyR) ?_;rintro e a4 w4 ⟨rfl,h4,h5,h6,h7⟩;exact hQ a4 w4 h4 h5 h6 h7
def rest_w {t:Tab}{nm:ByteArray}(hr:F9 r) (hs:F9 s) (ht:okT t) (lr:Xo r) (ls:Xo s) (lt_:t.2.length<=3518437208883) :
  Ac 3 [.agg (relC r),.agg (relC s),.agg [iv t.1.1,iv t.1.2.1,sv t.1.2.2,chS t.2],sv nm] [] (bv true):=by
 refine⟨by kernel_rfl,λw g vs hsim ha=>?_⟩;have hlen:vs.size=4:=by simpa using ha.length
 refine calls_of_wp Tryz.func3 bodyR ?_;refine (wpIn_wide (n:=0)).1 ?_;letI:Go.Ab.Rd:=rdN;have st0:St 0 w (Ow g []) ⟨g.D,g.loc,[],g.X⟩ ([.agg (relC r),.agg (relC s),.agg [iv t.1.1,iv t.1.2.1,sv t.1.2.2,chS t.2],sv nm]++List.replicate 199 .any) [] { tmps:=vs++Array.replicate (Tryz.f3.ntmps-vs.size) undef,defers:=[] } w g:=by
  refine⟨?_,rfl,hsim,Fr.refl _ _,⟨λ_ h=>h,λ_ _ _ h=>h,rfl⟩,λi v l hl=>(hsim.fresh i v l hl).1,λk hk=>.inl hk⟩;rw[hlen];simp only[Array.toList_append,Array.toList_replicate];refine ha.append ?_;have:=Kw w g (List.replicate 199 undef);simpa using this
 refine Wg (G:=GP r s t nm 0) 6 longP kPre (pre_w (h:=[]) (N:=0) rfl hr hs ht lr ls lt_) st0 ?_;intro T1 h1 a1 w1 g1 st1 hG;obtain⟨hl1,q3,q4,q5,q6,q9,q10,q11,q12,q13,h0,cs,rfl,hh0,hwk,hcs⟩:=hG;obtain rfl:h0=[]:=List.eq_nil_of_length_eq_zero hh0;obtain⟨g2,st2⟩:=ALe.icePtr (n0:=0) (T:=T1) (h:=[]++[.gone,.gone,.gone,.gone,.gone,.gone,.mk 0 39 4 cs]) (id:=6) (ver:=0) (d:=13) (cells:=cs) rfl q13 (by rintro rfl;simp at hcs) rfl rfl _ _ _ _ _ _ st1;have hs2:=st2.sim;have hno2 : ∀ k,¬Ow g2 (([]++[.gone,.gone,.gone,.gone,.gone,.gone,.mk 0 39 4 cs]:AH).set 6 .gone) k:=V2 (by intro e he;simpa using he);have hd1:a1.defers=[]:=st2.defers;have hfr1:Fr w (λ_=>False) w1:=⟨st2.fr.os,st2.fr.tape,st2.fr.output,st2.fr.size,λk hk _=>st2.fr.block k hk (V2 (by simp) k)⟩;have nx : ∀ {k:Nat} {c:AV},T1[k]?=some c->k≠13->(aPut T1 (some 13) (.rp cs))[k]?=some c:=λh hk=>by simp only[aPut];rw[List.getElem?_set_ne (Ne.symm hk)];exact h
 have bx : ∀ {k:Nat} {cells:List AV},(aPut T1 (some 13) (.rp cs))[k]?=some (.rp cells) -> ∃ b off,a1.tmps.toList[k]?=some (.pointer (some ⟨b,off,none⟩))/\g2.D b/\RepC w1 g2 cells b off:=λh=>by
  obtain⟨u,hu,hr⟩:=st2.tmps.get h;simp only[Rep] at hr;obtain⟨b,off,rfl,hd,hc⟩:=hr;exact⟨b,off,hu,hd,hc⟩
 obtain⟨b4,o4,v4,d4,m4⟩:=bx (nx q4 om);obtain⟨b5,o5,v5,d5,m5⟩:=bx (nx q5 om);obtain⟨b6,o6,v6,d6,m6⟩:=bx (nx q6 om);obtain⟨b9,o9,v9,d9,m9⟩:=bx (nx q9 om);obtain⟨b10,o10,v10,d10,m10⟩:=bx (nx q10 om);obtain⟨b11,o11,v11,d11,m11⟩:=bx (nx q11 om);obtain⟨b13,o13,v13,d13,m13⟩:=bx (k:=13) (cells:=cs) (by simp only[aPut];rw[List.getElem?_set_self om]);replace m13:=RepC.wk hwk m13;obtain⟨u3,v3,e3⟩:=st2.tmps.get (nx q3 om);obtain⟨u12,v12,e12⟩:=st2.tmps.get (nx q12 om);simp only[Rep] at e3 e12;let gB:Gh:=⟨g2.D,λ_ _=>none,[],⟨λ_=>False,λ_=>False⟩⟩;let X:Bx:=⟨b4,o4,b5,o5,b6,o6,b9,o9,b10,o10,b11,o11,b13,o13⟩;have hl203:a1.tmps.toList.length=203:=by
  have:=st2.tmps.length;simpa [aPut,hl1] using this
 have rx : ∀ {b off:Nat} {cells:List AV},AV.nfL cells=true->g2.D b->RepC w1 g2 cells b off->Rep w1 gB (.rx b off cells) (.pointer (some ⟨b,off,none⟩)):=λhn hd hc=>by
  simp only[Rep];exact⟨trivial,hd,RepC.nb (g:=g2) (g':=gB) (λ_ h=>h) (λ_ _=>rfl) _ _ _ hn hd hc⟩
 have hT:RepL w1 gB (T15 r s t nm X .any++L4) a1.tmps.toList:=by
  have h:=Kw w1 gB a1.tmps.toList;rw[hl203] at h;have h:=H3 h v3 (c:=sv nm) (by simp only[Rep];exact e3);have h:=H3 h v4 (rx (dC r) d4 m4);have h:=H3 h v5 (rx (dC s) d5 m5);have h:=H3 h v6 (rx (nf_tab t) d6 m6);have h:=H3 h v9 (rx (dC r) d9 m9);have h:=H3 h v10 (rx (dC s) d10 m10);have h:=H3 h v11 (rx (nf_tab t) d11 m11);have h:=H3 h v12 (c:=iv (Ju r s)) (by simp only[Rep];exact e12);have h:=H3 h v13 (rx (nf_upd _) d13 m13);exact h
 clear bx nx rx st1 q3 q4 q5 q6 q9 q10 q11 q12 q13 v3 v4 v5 v6 v9 v10 v11 v12 v13 m4 m5 m6 m9 m10 m11 m13 e3 e12
 have stN : ∀ {T:List AV} {a:Act} {wx:World},a.defers=[]->Fr w1 (λ_=>False) wx->RepL wx gB T a.tmps.toList->AV.nfL T=true->St 0 wx (λ_=>False) (gNow wx g2 []) T [] a wx (gNow wx g2 []):=λ{T a wx} hd hf hT hn =>
  ⟨RepL.nb (g:=gB) (g':=gNow wx g2 []) (λ_ h=>h) (λ_ _=>rfl) _ _ hn hT,hd,(hs2.later hno2 hf.size (λk hk=>hf.block k (hs2.lt k hk) (λh=>h))).now [],Fr.refl _ _,Gh.le.refl _,λ_ _ _ h=>by simp[gNow] at h,λk hk=>(V2 (by simp) k hk).elim⟩
 have hDs : ∀ {wx:World},Fr w1 (λ_=>False) wx -> ∀ k,g2.D k->k<wx.heap.size:=λhf k hk=>Nat.lt_of_lt_of_le (hs2.lt k hk) hf.size;rw[lp_eq shapeR];refine wpIn_seq (wpIn_seq (wpIn_mono (Fw _ _ kLA r10_w _ _ _ _ _ _ (stN hd1 (Fr.refl _ _) hT (Sg rfl))) ?_));rintro e a2 w2 ⟨z,T2,h2,g',k1,k2,k3⟩;cases z <;> simp only[AX.thn] at k3;cases e <;> simp only[ExR] at k2;simp only[Exit.then];obtain⟨t1,t2,rfl⟩:=k3;have hf2:Fr w1 (λ_=>False) w2:=k1.fr;have hT2:RepL w2 gB (T15 r s t nm X (iv 0)++L4) a2.tmps.toList:=RepL.nb (g:=gB) (g':=gB) (λ_ h=>h) (λk hk=>hf2.block k (hs2.lt k hk) (λh=>h)) _ _ (Sg rfl) (jstep hT k1.tmps t1 t2);refine wpIn_block (wpIn_loop_ghost (λn a wx => ∃ i:Nat,i<=2/\n=2-i/\a.defers=[]/\Fr w1 (λ_=>False) wx/\RepL wx gB (T15 r s t nm X (iv i)++L4) a.tmps.toList) 2 ⟨0,by omega,rfl,k1.defers,hf2,hT2⟩ ?_);clear k1 hT2 hf2 t1 t2 hT;rintro n a3 w3 ⟨i,hi,rfl,hd3,hf3,hT3⟩;refine wpIn_seq (wpIn_mono (Fw _ _ kLB (cnd_w (i:=i)) _ _ _ _ _ _ (stN hd3 hf3 hT3 (Sg rfl))) ?_);rintro e a4 w4 ⟨z,T4,h4,g4,k1,k2,⟨t1,t2,rfl⟩,k3⟩;have hf4:Fr w1 (λ_=>False) w4:=Su hf3 k1.fr;have hT4:RepL w4 gB (T15 r s t nm X (iv i)++L4) a4.tmps.toList:=RepL.nb (g:=gB) (g':=gB) (λ_ h=>h) (λk hk=>k1.fr.block k (hDs hf3 k hk) (λh=>h)) _ _ (Sg rfl) (jstep hT3 k1.tmps t1 t2);have hd4:a4.defers=[]:=k1.defers;rcases k3 with ⟨hi2,rfl⟩ | ⟨hi2,rfl⟩
 .cases e <;> simp only[ExR] at k2;simp only[Exit.then];clear k1 k2 t1 t2;refine wpIn_seq (wpIn_block ?_);refine Wg (G:=GA (T15 r s t nm X (iv i)) 0) 9 longR kRnd (round_w (h:=[]) (N:=0) (b4:=b4) (o4:=o4) (b5:=b5) (o5:=o5) (b6:=b6) (o6:=o6) (b9:=b9) (o9:=o9) (b10:=b10) (o10:=o10) (b11:=b11) (o11:=o11) (b13:=b13) (o13:=o13) (i:=(i:Int)) rfl hr hs ht lr) (stN hd4 hf4 hT4 (Sg (x:=X) rfl)) ?_;intro T5 h5 a5 w5 g5 st5 hGA;have htk:=hGA.2.1;have hl5:=hGA.1;refine (wpIn_wide (n:=0)).2 (spoil_st st5.fr.size st5 hGA ?_);intro a6 w6 hd6 hsp hsz6 htk6;simp only[Exit.inBlock,Exit.then];have hf46:Fr w4 (λ_=>False) w6:=⟨hsp.bel.os.trans st5.fr.os,hsp.bel.tape.trans st5.fr.tape,hsp.bel.output.trans st5.fr.output,Nat.le_trans st5.fr.size hsp.bel.size,λk hk hn=>(hsp.bel.block k hk).trans (st5.fr.block k hk hn)⟩;have hf6:Fr w1 (λ_=>False) w6:=Su hf4 hf46;have hT5:=Tn _ _ _ rfl hT4 (fT (n:=188) st5.tmps htk hl5);have hT6:RepL w6 gB (T15 r s t nm X (iv i)++L4) a6.tmps.toList:=RepL.nb (g:=gB) (g':=gB) (λ_ h=>h) (λk hk=>hf46.block k (hDs hf4 k hk) (λh=>h)) _ _ (Sg rfl) (rep_swap hT5 rfl htk6 (by simpa using hsz6));refine wpIn_mono (Fw _ _ kLC (r12_w (i:=i) om hi2) _ _ _ _ _ _ (stN hd6 hf6 hT6 (Sg rfl))) ?_;rintro e a7 w7 ⟨z,T7,h7,g7,k1,k2,k3⟩;cases z <;> simp only[AX.thn] at k3;cases e <;> simp only[ExR] at k2;simp only[Exit.then];obtain⟨t1,t2,rfl⟩:=k3;refine⟨2-(i+1),by omega,i+1,by omega,rfl,k1.defers,Su hf6 k1.fr,?_⟩;exact RepL.nb (g:=gB) (g':=gB) (λ_ h=>h) (λk hk=>k1.fr.block k (hDs hf6 k hk) (λh=>h)) _ _ (Sg rfl) (jstep hT6 k1.tmps t1 t2)
 .cases e <;> simp only[ExR] at k2;subst k2;simp only[Exit.then,Exit.inBlock,if_true];refine wpIn_mono (Fw _ _ kLD (r44_w (i:=i)) _ _ _ _ _ _ (stN hd4 hf4 hT4 (Sg rfl))) ?_;rintro e a5 w5 ⟨z,T5,h5,g5,st5,k2,rfl,k4⟩;cases e <;> simp only[ExR] at k2;obtain⟨v,hv,hrv⟩:=Ii (P:=Tryz.prog) (fn:=Tryz.f3) (rs:=[.tmp 8]) (by kernel_rfl) (rs1 (show Ja T5 h5 (.tmp 8)=some (bv true) from k4)) st5.sim st5.tmps;have hfin:Fr w (λ_=>False) w5:=Su hfr1 (Su hf4 st5.fr);refine⟨st5.defers,v,by simpa using hv,.ret (bv true),[],g,?_,hsim.later (V2 (by simp)) hfin.size (λk hk=>hfin.block k (hsim.lt k hk) (λh=>h)),Gh.le.refl g,⟨hfin.os,hfin.tape,hfin.output,hfin.size,λk hk _=>hfin.block k hk (λh=>h)⟩,λk hk=>.inl hk,rfl,rfl⟩;simp only[EndR,Rep] at hrv ⊢;exact hrv
end
section
open Go.Ab Go.RowKit Go.Deep
section
variable {H : Type} {enc : TypeId × Value -> H} {P : Program} {w : World} {base : Nat} {spare : Nat -> Bool} {held : Bool}
def part_len {t e:TypeId}{fs:Array Field}{cs:Array Value}{x:DataW H}{p:List MemPlace}{ts:List TypeId}{ds:List (DataW H)}{j:Nat}{f:Field}{A:Option Addr}{l c:Nat}
  (hw:(DataW.weightsEach P ts ds).all (· <= reachBytes)=true) (ht:ts[j]?=some t) (hd:ds[j]?=some x) (hu:P.underlying t=some (.struct fs)) (h:DataW.Trod enc P w base spare held t (.agg cs) x p)
  (hf:fs[i]?=some f) (ho:f.offset=i) (hc:P.cellsOf f.type=1) (he:P.underlying f.type=some (.slice e)) (hv:cs.toList[i]?=some (.slice A l c)):l*P.bytesOf e<=reachBytes:=by
 obtain⟨fuel,h⟩:=h;obtain⟨xs,n,rfl,hx,hcl,hxl,hat⟩:=DataW.trod_struct hu h;have hi:=hat i f hf;have hlt:i<xs.length:=by rw[hxl];exact (Array.getElem?_eq_some_iff.1 hf).1
 have hit:i<cs.toList.length:=(List.getElem?_eq_some_iff.1 hv).1;have hd1:((cs.toList.drop f.offset).take (P.cellsOf f.type))=[.slice A l c]:=by
  rw[ho,hc,List.drop_eq_getElem_cons hit,(List.getElem?_eq_some_iff.1 hv).2];rfl
 have hi2:DataW.trod enc P w base spare held n f.type [.slice A l c]=some xs[i]:=by
  rw[<-hd1,<-List.getElem?_eq_getElem hlt];exact hi
 have hx1:x=.agg (xs.map (·.1)):=congrArg (·.1) hx;rcases open_slice he hi2 with ⟨e0,_⟩ | ⟨ad,len,cap,m,k,D,Pl,e0,_,hl,_,hmm,ex,_⟩
 .simp only[List.cons.injEq,Value.slice.injEq,and_true] at e0;obtain⟨_,rfl,_⟩:=e0;simp
 .simp only[List.cons.injEq,Value.slice.injEq,and_true] at e0;obtain⟨_,rfl,_⟩:=e0;have ex1:xs[i].1=.slice ((List.range l).map D) ((List.range (m-l)).map λj=>D (l+j)):=congrArg (·.1) ex;have m1:(l+(m-l))*P.bytesOf e∈DataW.weights P f.type xs[i].1:=by
   rw[ex1];simp[DataW.weights,he]
  have m2:(l+(m-l))*P.bytesOf e∈DataW.weights P t x:=by
   rw[hx1];simp only[DataW.weights,hu];refine DataW.weights_mem_each (j:=i) (t:=f.type) (d:=xs[i].1) ?_ ?_ _ m1
   .have hfl:fs.toList[i]?=some f:=by simpa using hf
    simp[hfl]
   .simp[List.getElem?_eq_getElem hlt]
  have:=List.all_eq_true.1 hw _ (DataW.weights_mem_each ht hd _ m2);have h2:(l+(m-l))*P.bytesOf e<=reachBytes:=by simpa using this
  exact Nat.le_trans (Nat.mul_le_mul_right _ (Nat.le_add_right _ _)) h2
end
end
section
open Go.Ab Go.RowKit Go.Deep
section
variable {H : Type} {enc : TypeId × Value -> H} {P : Program} {w : World} {base : Nat} {spare : Nat -> Bool} {held : Bool}
def pF {P:Program}{e:TypeId}{d:DataW H}{m:Nat} : ∀ {l:List (DataW H)},d∈l->m∈DataW.weights P e d->m∈DataW.weightsAll P e l
 | x::l,h,hm=>by
  simp only[DataW.weightsAll];rcases List.mem_cons.1 h with rfl | h
  .exact List.mem_append_left _ hm
  .exact List.mem_append_right _ (pF h hm)
def Wd (enc:TypeId×Value->H) (P:Program) (w:World) (base:Nat) (spare:Nat->Bool) (held:Bool) (R:Nat) (t:TypeId) (cs:List Value):Prop :=
 ∃ fuel x,DataW.trod enc P w base spare held fuel t cs=some x /\ ∀ m∈DataW.weights P t x.1,m<=R
def Wd.field {R:Nat}{t:TypeId}{cs:List Value}{fs:Array Field}{f:Field}(h:Wd enc P w base spare held R t cs) (hu:P.underlying t=some (.struct fs)) (hf:fs[i]?=some f) :
  Wd enc P w base spare held R f.type ((cs.drop f.offset).take (P.cellsOf f.type)):=by
 obtain⟨fuel,x,h,hm⟩:=h;obtain⟨xs,n,_,hx,hcl,hxl,hat⟩:=DataW.trod_struct hu h;have hi:=hat i f hf;have hlt:i<xs.length:=by rw[hxl];exact (Array.getElem?_eq_some_iff.1 hf).1
 rw[List.getElem?_eq_getElem hlt] at hi;refine⟨n,xs[i],hi,λm hm1=>hm m ?_⟩;rw[hx];simp only[DataW.weights,hu];refine DataW.weights_mem_each (j:=i) (t:=f.type) (d:=xs[i].1) ?_ ?_ _ hm1
 .have hfl:fs.toList[i]?=some f:=by simpa using hf
  simp[hfl]
 .simp[List.getElem?_eq_getElem hlt]
def Wd.part {R:Nat}{t:TypeId}{cs cs1:List Value}{fs:Array Field}{o:Nat}{f:Field}(h:Wd enc P w base spare held R t cs) (hu:P.underlying t=some (.struct fs)) (hf:fs[i]?=some f) (ho:f.offset=o) (hc:P.cellsOf f.type=k) (he:(cs.drop o).take k=cs1):Wd enc P w base spare held R f.type cs1:=by
 subst ho hc he;exact h.field hu hf
def Wd.slice {R:Nat}{t e:TypeId}{A:Option Addr}{l c:Nat}(h:Wd enc P w base spare held R t [.slice A l c]) (hu:P.underlying t=some (.slice e)) :
  l*P.bytesOf e<=R /\ ∀ i,i<l -> ∃ ad cs',A=some ad/\(∀ j v,cs'[j]?=some v->w.cell? ((ad.add (i*P.cellsOf e)).add j)=some v)/\cs'.length=P.cellsOf e/\Wd enc P w base spare held R e cs':=by
 obtain⟨fuel,x,h,hm⟩:=h;rcases open_slice hu h with ⟨e0,_⟩ | ⟨ad,len,cap,m,k,D,Pl,e0,_,hl,_,hmm,ex,hat⟩
 .simp only[List.cons.injEq,Value.slice.injEq,and_true] at e0;obtain⟨_,rfl,_⟩:=e0;exact⟨by simp,λi hi=>by omega⟩
 .simp only[List.cons.injEq,Value.slice.injEq,and_true] at e0;obtain⟨rfl,rfl,rfl⟩:=e0;have hlm:l<=m:=by rw[hmm];split <;> omega
  have ex1:x.1=.slice ((List.range l).map D) ((List.range (m-l)).map λj=>D (l+j)):=congrArg (·.1) ex;rw[ex1] at hm;simp only[DataW.weights,hu] at hm;refine⟨Nat.le_trans (Nat.mul_le_mul_right _ (Nat.le_add_right l (m-l))) (hm _ (by simp)),λi hi=>?_⟩;obtain⟨cs',hc,ht⟩:=hat i om;obtain⟨_,hcl,hcat⟩:=World.cells?_some hc;refine⟨ad,cs',rfl,λj v hv=>?_,hcl,k,_,ht,λm' hm'=>hm m' ?_⟩
  .rw[hcat j (by have:=(List.getElem?_eq_some_iff.1 hv).1;omega)];exact hv
  .exact List.mem_cons_of_mem _ (List.mem_append_left _ (pF (List.mem_map.2 ⟨i,List.mem_range.2 hi,rfl⟩) hm'))
def qW {g:Gh} : ∀ {cs:List AV}{b off:Nat},RepC w g cs b off -> ∀ {k:Nat}{c:AV},cs[k]?=some c -> ∃ u,w.cell? ⟨b,off+k,none⟩=some u/\Rep w g c u
 | [],_,_,_,k,c,hk=>by simp at hk
 | d::cs,b,off,h,0,c,hk=>by
  simp only[RepC] at h;simp only[List.getElem?_cons_zero,Option.some.injEq] at hk;subst hk;exact h.1
 | d::cs,b,off,h,k+1,c,hk=>by
  simp only[RepC] at h;obtain⟨u,h1,h2⟩:=qW h.2 (k:=k) (c:=c) (by simpa using hk);exact⟨u,by rw[<-h1];congr 2;omega,h2⟩
end
end
section
open Go.Ab Go.RowKit Go.Deep Civ
def fV {H:Type}{enc:TypeId×Value->H}{W:World}{base:Nat}{spare:Nat->Bool}{held:Bool}{ts:List TypeId}{ds:List (DataW H)}{j:Nat}{v:Value}{x:DataW H}{p:List MemPlace}{r:Rel}
  (hw:(DataW.weightsEach Tryz.prog ts ds).all (· <= reachBytes)=true) (ht:ts[j]?=some 25) (hd:ds[j]?=some x) (h:DataW.Trod enc Tryz.prog W base spare held 25 v x p) (k:Rep W (g0 W) (.agg (relC r)) v) :
  r.1.length*72<=reachBytes/\r.2.length*32<=reachBytes /\ ∀ n∈r.1,n.2.2.length*40<=reachBytes:=by
 simp only[Rep,RepL] at k;obtain⟨cs,rfl,u2,us2,e1,⟨_,A2,c2,rfl,hq1,hq2,hq3,hq4,hq5⟩,u4,us4,rfl,⟨_,A4,c4,rfl,_⟩,rfl⟩:=k;have z4:=part_len hw ht hd Tryz.underlying25 h (i:=1) (e:=90) rfl rfl (by kernel_rfl) (by kernel_rfl) (by rw[e1];rfl);obtain⟨fuel,h⟩:=h;have hW:Wd enc Tryz.prog W base spare held reachBytes 25 cs.toList:=⟨fuel,_,h,λm hm=>by
  have:=List.all_eq_true.1 hw _ (DataW.weights_mem_each ht hd _ hm);simpa using this⟩
 have h1:=hW.part (cs1:=[.slice A2 r.1.length c2]) Tryz.underlying25 (i:=0) (o:=0) (k:=1) rfl rfl (by kernel_rfl) (by rw[e1];rfl);obtain⟨z2,hel⟩:=h1.slice (e:=76) (by kernel_rfl);rw[show Tryz.prog.bytesOf 76=72 by kernel_rfl] at z2;rw[show Tryz.prog.bytesOf 90=32 by kernel_rfl] at z4;refine⟨z2,z4,λn hn=>?_⟩;obtain⟨i,hi,rfl⟩:=List.getElem_of_mem hn;obtain⟨ad,cs',rfl,hcell,hcl,hN⟩:=hel i hi;rw[show Tryz.prog.cellsOf 76=5 by kernel_rfl] at hcell hcl;obtain⟨b,off,e,_,hrc⟩:=hq5 (by
  intro h0;have:=F0 r.1;rw[h0] at this;simp only[List.length_nil] at this;omega)
 cases e;have hk:(rows namC r.1)[i*5+4]?=some (chS r.1[i].2.2):=by
  have:=congrArg (·[4]?) (Lp B8 hi);simp only[List.getElem?_take,List.getElem?_drop] at this;simpa using this
 obtain⟨y,hy1,hy2⟩:=qW hrc hk;have h4:cs'[4]?=some cs'[4]:=List.getElem?_eq_getElem om;have hyc:cs'[4]=y:=by
  have:=hcell 4 _ h4;rw[show (Addr.add (Addr.add ⟨b,off,none⟩ (i*5)) 4)=⟨b,off+(i*5+4),none⟩ by simp only[Addr.add_lit,Nat.add_assoc],hy1] at this;exact (Option.some.inj this).symm
 simp only[Rep] at hy2;obtain⟨_,A5,c5,rfl,_⟩:=hy2;have h5:=hN.part (cs1:=(cs'.drop 1).take 4) Tryz.underlying76 (i:=1) (o:=1) (k:=4) rfl rfl (by kernel_rfl) rfl;have h6:=h5.part (cs1:=[.slice A5 r.1[i].2.2.length c5]) Tryz.underlying30 (i:=1) (o:=3) (k:=1) rfl rfl (by kernel_rfl) (by
  rw[<-hyc];match cs',hcl with
  | [a,b,c,d,e],_=>rfl)
 have z5:=(h6.slice (e:=86) (by kernel_rfl)).1;rwa [show Tryz.prog.bytesOf 86=40 by kernel_rfl] at z5
def tab_len {H:Type}{enc:TypeId×Value->H}{W:World}{base:Nat}{spare:Nat->Bool}{held:Bool}{ts:List TypeId}{ds:List (DataW H)}{j:Nat}{x:DataW H}{p:List MemPlace}{t:Tab}
  (hw:(DataW.weightsEach Tryz.prog ts ds).all (· <= reachBytes)=true) (ht:ts[j]?=some 30) (hd:ds[j]?=some x) (h:DataW.Trod enc Tryz.prog W base spare held 30 v x p) (k:Rep W (g0 W) (.agg [iv t.1.1,iv t.1.2.1,sv t.1.2.2,chS t.2]) v) :
  t.2.length*40<=reachBytes:=by
 simp only[Rep,RepL] at k;obtain⟨cs,rfl,u1,us1,e1,rfl,u2,us2,rfl,rfl,u3,us3,rfl,rfl,u4,us4,rfl,⟨_,A5,c5,rfl,_⟩,rfl⟩:=k;obtain⟨fuel,h⟩:=h;have hW:Wd enc Tryz.prog W base spare held reachBytes 30 cs.toList:=⟨fuel,_,h,λm hm=>by
  have:=List.all_eq_true.1 hw _ (DataW.weights_mem_each ht hd _ hm);simpa using this⟩
 have h6:=hW.part (cs1:=[.slice A5 t.2.length c5]) Tryz.underlying30 (i:=1) (o:=3) (k:=1) rfl rfl (by kernel_rfl) (by rw[e1];rfl);have z5:=(h6.slice (e:=86) (by kernel_rfl)).1;rwa [show Tryz.prog.bytesOf 86=40 by kernel_rfl] at z5
end
section
open Go.Ab Go.RowKit Civ
abbrev LnkD:Ds:=.pair .str .str
end
end Go.Proofs.YtfcecekilahfiaaGreatDoor
section
namespace Go
variable {H : Type} {enc : TypeId × Value -> H}
def iR {a:Assume}{C:Checked}{os:Os}{f:FuncId}{fn:Func}{s:ChangeSpec}{apart fresh handsOn again:Bool}{laid:List (String×DataW Unit)}
  (own:ownKnob C.prog.godebug=none) (started:os.Started) (noInit:C.prog.inits.idxOf? f=none) (hfn:C.prog.funcs[f]?=some fn)
  (witness : ∃ (w:World) (tape:Tape) (i:Input),w.os=os/\(w.forCall tape i).Shaped C.prog/\i.vars=[]/\Input.okWide C.prog (w.forCall tape i) .any w.heap.size f i /\
   ((s.pre enc C.prog fn [] apart (w.forCall tape i).memory i.args/\laidMetH C.prog laid (w.forCall tape i).memory)/\sizedMet enc C.prog fn (OpenSpec.ofChange s) apart (w.forCall tape i).memory i.args)/\a.holds C.prog (lone (Frame.enter C.prog f i.args .normal) [] (w.forCall tape i)))
  (contract : ∀ (W:World) (base:Nat) (args:Array Value) (ds gs:List (DataW H)) (before:List MemPlace),
   (∀ (j:Nat) t v,fn.params[j]?=some t->args[j]?=some v->Value.okWide C.prog W .any base t v) ->
   DataW.Whole enc C.prog fn.params.toList s.vars apart W args.toList ds gs before ->
   (DataW.weightsEach C.prog (fn.params.toList++s.plain.varTypes C.prog) (ds++gs)).all (· <= reachBytes)=true ->
   laidMetH C.prog laid W->W.ShapedOpen C.prog ->
   Calls C.prog f args W λe W' => ∃ v,e=.returned v/\s.post enc C.prog fn apart fresh handsOn again W args v W') :
  ReturnsInHanded a C os f .any (λw args=>(s.pre enc C.prog fn [] apart w args/\laidMetH C.prog laid w)/\sizedMet enc C.prog fn (OpenSpec.ofChange s) apart w args) (s.post enc C.prog fn apart fresh handsOn again):=by
 refine returnsInHanded_of_calls own started noInit witness ?_;intro w tape i _ hsh _ hok hpre hholds;obtain⟨_,_,_,fn',hfn',_,_,_,_,hval⟩:=hok;have e:fn'=fn:=Option.some.inj (hfn'.symm.trans hfn);subst e;obtain⟨⟨⟨ds,gs,before,hw,hc⟩,hx⟩,hz⟩:=hpre;have hw':=DataW.Whole.of_heap (w':=w.forCall tape i) (by rfl) hw;refine (contract (w.forCall tape i) w.heap.size i.args ds gs before hval hw' (hz.weights hw) (hx.of_heap (by rfl)) hsh).mono λe W' ⟨v,he,hp⟩=>?_;subst he;exact ChangeSpec.post_blind hp
end Go
namespace Go.Proofs.YtfcecekilahfiaaGreatDoor
open Go.ChangeShapes Go.WideShapes Go.ChangeAt Go.RowKit Go.Ab
def LaidOk (l:List (String×DataW Unit)):Prop:=l.length=l.length
def globW {W:World}{l:List (String×DataW Unit)}(hsh:W.ShapedOpen Tryz.prog) (hL:laidMetH Tryz.prog l W) (hl:LaidOk l):GlobW W where
 tt:=trivial
 maxLen:=cell_of_shapedOpen_int (t:=3) (zero := #[.int .i64 0]) hsh (of_decide_eq_true (by kernel_rfl)) (by kernel_rfl) rfl (by kernel_rfl) (by kernel_rfl) Tryz.underlying3
end Go.Proofs.YtfcecekilahfiaaGreatDoor
end
