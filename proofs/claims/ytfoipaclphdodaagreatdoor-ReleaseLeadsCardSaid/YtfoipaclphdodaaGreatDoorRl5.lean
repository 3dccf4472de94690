/-
  Part 5 of the proof: own lemmas and contracts on plain data. No condition beyond those that each lemma states.
-/
import Derived.Test.YtfoipaclphdodaaGreatDoorRl4
import Derived.Lib.IndexBytes
import Derived.Test.YtfoipaclphdodaaGreatDoorCards
import Derived.Test.YtfoipaclphdodaaGreatDoorTie
import Derived.Lay
import Derived.Handed
import Derived.SizedLaws
import Derived.Shelf.Vars
import Derived.SevenTiedAt
import Derived.LaidSub
import Derived.MakeChecks
set_option linter.all false
set_option maxRecDepth 1000000
set_option maxHeartbeats 4000000
namespace Go.Proofs.YtfoipaclphdodaaGreatDoor
section
open Go.Ab Go.RowKit Civ
attribute [local simp] Zbi Zc1 Zbv Zhm ZcL
theorem puts_a {v:Nat}{l:List Nam}{ns:List Nam}{fl:Bool}{lw:AV}{K R:Nat}{h:AH}(hK:h[K]?=some (kE R lw (v,l))) (hR:h[R]?=some (rE (v,l))) (hne:K≠R) (hs:ZnA 0 (v,l)) (hp : ∀ n∈ns,ZnB n∧n.2.2.length≤3518437208883) (hz:ns.length≤1960000000000) :
  ACalls Tryz.prog 128 [.sl ns.length 5 fl (rows namC ns),.bnd (.func 129) [.ptr K 0 0]] h fun x h'=>x=.ret (iv (ZcH l ns).2)∧h'=(h.set K (kE R lw (putsV v l ns,(ZcH l ns).1))).set R (rE (putsV v l ns,(ZcH l ns).1)):=by
 have:=eachN_a (f:=putS) (I:=fun i s=>ZnA i s) (l:=ns) (fl:=fl) hK hR hne hs (fun i s hi h1 _=>ok_put h1 (hp _ (List.getElem_mem hi)).1) (fun i s hi h h1 h2 h3=>put_a h2 h3 hne h1.1 (by have:=h1.2.2;omega) (hp _ (List.getElem_mem hi)).2)
 rw[run_put'] at this
 exact this
theorem ok_drops {v:Nat}{l:List Nam}(ds:List ByteArray) (h:okTs (v,l)):okTs (v,(Za2 l ds).1):=by
 have:=ok_run (f:=Ziv) (I:=fun _ s=>okTs s) (fun i s x h=>Zt3 h) (fun i j s _ h=>h) ds 0 (v,l) h
 rw[ZkL] at this
 exact this
theorem ZjH {v:Nat} : ∀ {l:List Nam}(ps:List NPt),okTs (v,l)→(∀ p∈ps,Zt6 p)→okTs (v,(Zbm patE patV l ps).1)
 | l,[],h,_=>h
 | l,p::ps,h,hp=>by
  have h1:=ZpA (p:=p) h (hp p (by simp))
  have e:=Zf3 (p::ps) (v,l)
  rw[runS] at e
  have e2:(Zbm patE patV l (p::ps)).1=(if (Zck (v,l) p).2≠0 then Zck (v,l) p else runS Zck (Zck (v,l) p).1 ps).1.2:=(congrArg (fun x=>x.1.2) e).symm
  rw[e2]
  split
  ·exact⟨h1.1,h1.2⟩
  rw[Zf3];exact ZjH ps ⟨h1.1,h1.2⟩ fun q hq=>hp q (by simp[hq])
theorem Zt2 {v:Nat} : ∀ {l:List Nam}(k:Nat) (ns:List Nam),ZnA k (v,l)→(∀ n∈ns,ZnB n)→ZnA (k+ns.length) (v,(ZcH l ns).1)
 | l,k,[],h,_=>h
 | l,k,n::ns,h,hp=>by
  have h1:=ok_put (n:=n) h (hp n (by simp))
  rw[ZcH]
  by_cases hh:hasN l n.1=true
  ·rw[if_pos hh];exact⟨h.1,h.2.1,Nat.le_trans h.2.2 (by rw[List.length_cons];omega)⟩
  rw[if_neg hh]
  rw[ZtI hh] at h1
  have:=Zt2 (v:=v) (k+1) ns (l:=insN l n) ⟨h1.1,h1.2.1,h1.2.2⟩ fun m hm=>hp m (by simp[hm])
  rwa [show k+(n::ns).length=k+1+ns.length by rw[List.length_cons];omega]
theorem okTs_put {s:Tbs}(h:okTs s):ZnA 0 s:=⟨h.1.1,fun n hn=>(h.1.2 n hn).1,by have:=h.2;omega⟩
theorem upd_a {r:Rel}{u:Upd}{h:AH}(hr:Zgb r) (h0:ZaU r=0) (hu:okUpd u) :
  Ac 62 [.agg (relC r),.agg (updC u)] h (.tup [.agg (relC (updV r u).1),iv (updV r u).2]):=by
 obtain⟨a1,a2,a3,a4,a5,a6⟩:=Zb6 h0
 obtain⟨u1,u2,u3,u4,u5⟩:=hu
 refine tW' k62 fun N hn hlt _ hbd=>?_
 simp only[tb'] at hbd ⊢
 refine wr'<|E' (ZaR cv rfl hl0 ha0) pt<|E' (ZaR cv rfl hl1 ha1) pt<|E' (ZaV hl2 ha2) pt<|ms<|wr'<|fq<|Vw (Zaa lk gx gt3)<|Zad mp (ZpT u5) pt<|Vw (Zat (Zjl cv rfl))<|?_
 refine Vw (Zat (Zjk cv rfl))<|E' (ZaR cv rfl hl3 ha3) pt<|mw<|Zam<|?_
 refine ZaP (ALe.own0Cell (st':=5) (ty:=40) gx gt0 hl4 pt0 (Eq.trans (congrArg (fun z=>List.set z _ _) ha4) hs3)) ?_
 refine Zac<|wr'<|fq<|Vw (Zaa lk gx gt0)<|Vw (ZaA lk)<|ms<|Zaf<|?_
 refine w_lp (ι:=Nat×Nat) (fun (x_:Nat×Nat)=>match x_ with | ⟨i,v⟩=>[(19,iv (i:Int)),(8,.any)]++rn' 20 21) (fun (x_:Nat×Nat)=>match x_ with | ⟨i,v⟩=>[(3,.mk 0 184 2 [.own (N+4) v (r.1.take i).length,.sl u.2.2.2.length 2 false (rows lnkC u.2.2.2)]),(4,.mk v 40 5 (rows namC (r.1.take i)))]) (fun (x_:Nat×Nat)=>match x_ with | ⟨i,v⟩=>i≤r.1.length) (fun (x_:Nat×Nat)=>match x_ with | ⟨i,v⟩=>r.1.length-i) (⟨0,0⟩) (by exact Nat.zero_le _) ?_
 rintro⟨i,v⟩ hi1
 try simp only[sm',Nat.reduceAdd]
 replace hi1:i≤r.1.length:=hi1
 have htl:(r.1.take i).length≤20:=by rw[List.length_take];omega
 refine wr'<|Vw (ZaO lk lk)<|sn'<|Zac<|?_
 refine cd' lk (fun hc1=>?_) (fun hc1=>?_)
 ·have hi:i<r.1.length:=by omega
  have hst:=List.take_succ_eq_append_getElem hi
  have hlu:=ZcO (a3 _ (List.getElem_mem hi)).2
  refine za<|Zac<|Zaf<|wr'<|?_
  refine V' (ZaJ lk lk ZaL nb ro om ro rfl) pt ?_
  refine Vw (Zas lk ZmO rfl)<|E' (ZaV hl5 ha5) pt<|E' (Zai lk cv gx rfl nb rfl Zsg hs5) ptn<|sn'<|ZaH<|Dw vm<|Dw vm<|Dw (Zca lk)<|dg<|dg<|Dw (Zaa lk gx gt0)<|dg<|Dw (Zaa lk gx gt0)<|?_
  refine dg<|Dw (Zag lk gx Zse rfl)<|?_
  refine ZaC mp (fun hE hX=>Zpj om) pt ?_
  refine Dw (Zat (ZiX cv rfl cv rfl))<|Zc5 rfl rfl (hlk hn rfl) (ZfJ (ZiW cv rfl)) pt ZvW<|ZaM<|?_
  refine Zc4 Zsi ?_
  refine E' (ZbK (Zbp lk gx rfl ZmO nb) lk gx (ZbF _) om rfl hs4) pt ?_
  refine Vw (Zca lk)<|fq<|fq<|E' (Zai lk cv gx rfl nb rfl Zsh hs3) ptn<|Zam<|Zau<|Zan<|Zap<|?_
  refine ad<|mw<|Zam<|Zaz<|?_
  refine lU' (⟨i+1,v+1⟩) (by (try dsimp only);omega) (by refine zz ?_;exact bk' 5 hn hlt (by rw[hst,List.length_append,ZaF];rfl) (hT:=by simp[AV.lt,AV.ltL,Ent.lt]) (hE:=by simp[AV.lt,AV.ltL,Ent.lt]))
 rw[List.take_of_length_le (show r.1.length≤i by omega)] at *
 have hT0:okTs (v,r.1):=⟨⟨a4,fun n hn=>⟨hr.1 n hn,(a3 n hn).2⟩⟩,a1⟩
 refine Zay<|Zar<|Zar<|ZaN<|Zan<|wr'<|fq<|Vw (Zaa lk gx gt0)<|mw<|Vw (ZsK mp)<|?_
 refine Zno mp (drops_a (v:=v) (l:=r.1) (ds:=u.1) (K:=N+3) (R:=N+4) (lw:=.sl u.2.2.2.length 2 false (rows lnkC u.2.2.2)) gx gx om hT0) hs3 hs4 pt ?_
 refine ms<|Zac<|wm<|Vw (Za7 lk lki)<|sn'<|?_
 refine cd' lk (fun hc2=>?_) (fun hc2=>?_)
 ·have hd0:(Za2 r.1 u.1).2=0:=hc2
  have hT1:=ok_drops u.1 hT0
  refine Zap<|fq<|Vw (Zaa lk gx gt2)<|mw<|Vw (ZsK mp)<|?_
  refine Zno mp (ZtV (v:=v) (l:=(Za2 r.1 u.1).1) (ps:=u.2.2.1) (K:=N+3) (R:=N+4) (lw:=.sl u.2.2.2.length 2 false (rows lnkC u.2.2.2)) gx gx om hT1 u2) hs3 hs4 pt ?_
  refine ms<|Zac<|wm<|Vw (Za7 lk lki)<|sn'<|?_
  refine cd' lk (fun hc3=>?_) (fun hc3=>?_)
  ·have hp0:(Zbm patE patV (Za2 r.1 u.1).1 u.2.2.1).2=0:=hc3
   have hT2:=okTs_put (ZjH u.2.2.1 hT1 u2)
   have hV:ZdV r u=ZcH (Zbm patE patV (Za2 r.1 u.1).1 u.2.2.1).1 u.2.1:=by unfold ZdV;rw[if_neg (by simpa using hd0),if_neg (by simpa using hp0)]
   refine Zap<|fq<|Vw (Zaa lk gx gt1)<|mw<|Vw (ZsK mp)<|?_
   refine Zno mp (puts_a (v:=v) (l:=(Zbm patE patV (Za2 r.1 u.1).1 u.2.2.1).1) (ns:=u.2.1) (K:=N+3) (R:=N+4) (lw:=.sl u.2.2.2.length 2 false (rows lnkC u.2.2.2)) gx gx om hT2 u1 u4) hs3 hs4 pt ?_
   refine ms<|Zac<|wm<|Vw (Za7 lk lki)<|sn'<|?_
   refine cd' lk (fun hc4=>?_) (fun hc4=>?_)
   ·have hu0:(ZcH (Zbm patE patV (Za2 r.1 u.1).1 u.2.2.1).1 u.2.1).2=0:=hc4
    have hE:=updV_ok (r:=r) (u:=u) (by rw[hV];exact hu0)
    rw[hV] at hE
    have hT3:=Zt2 0 u.2.1 hT2 (fun n hn=>(u1 n hn).1)
    have hok:Zgb ((ZcH (Zbm patE patV (Za2 r.1 u.1).1 u.2.2.1).1 u.2.1).1,u.2.2.2):=⟨hT3.2.1,u3⟩
    refine Zap<|mw<|Vw (Zca lk)<|fq<|Vw (Zag lk gx ZbR rfl)<|Zad mp (rchk_o gx hok) pt<|ms<|Zac<|wm<|Vw (Zba lk lki)<|?_
    refine sn' ?_
    refine cd' lk (fun hc5=>?_) (fun hc5=>?_)
    ·rw[if_pos hc5] at hE
     refine wr'<|Vw (Zat ZcG)<|mw<|E' (Zai lk cv gx rfl nb rfl ZcT hs2) ptn<|mr<|Zah<|Zae (rsn (rm1 (rr_c gt gx (ld1 ZbR rfl)) (rm1 (rr_t gt) rm0)))<|rtW'<|?_
     rw[hE];exact Zed
    rw[if_neg hc5] at hE
    refine ZaB ?_
    refine ZaP (ALe.iceCellR (hga hn rfl) (hga hn rfl) om gt0 (List.take_of_length_le (by rw[Zbk ZaL];first | exact Nat.le_refl _ | omega)) (by rw[Zbk ZaL];first | exact Nat.le_refl _ | omega) pt0 hs4 hs3) ?_
    refine wm<|Vw (Zca lk)<|fq<|Vw (Zag lk gx ZbR rfl)<|E' (Zai lk cv gx rfl nb rfl ZcT hs2) ptn<|mr<|Zae (rsn (rm1 (rr_c gt gx (ld1 ZbR rfl)) (rm1 (rr_t gt) rm0)))<|rtW'<|?_
    rw[hE];exact Wk.refl _
   have hE:=Zkv (r:=r) (u:=u) (by rw[hV];exact hc4)
   rw[hV] at hE
   refine za<|Zac<|wm<|Vw (Zba lk lki)<|sn'<|?_
   refine ZeM lk (by exact decide_eq_true hc4) ?_
   refine wr'<|Vw (Zat ZcG)<|mw<|E' (Zai lk cv gx rfl nb rfl ZcT hs2) ptn<|mr<|Zah<|Zae (rsn (rm1 (rr_c gt gx (ld1 ZbR rfl)) (rm1 (rr_t gt) rm0)))<|rtW'<|?_
   rw[hE];exact Zed
  have hV:ZdV r u=Zbm patE patV (Za2 r.1 u.1).1 u.2.2.1:=by unfold ZdV;rw[if_neg (by simpa using hd0),if_pos hc3]
  have hE:=Zkv (r:=r) (u:=u) (by rw[hV];exact hc3)
  rw[hV] at hE
  refine za<|Zac<|wm<|Vw (Za7 lk lki)<|sn'<|?_
  refine ZdG lk (by exact decide_eq_false hc3) ?_
  refine za<|Zac<|wm<|Vw (Zba lk lki)<|sn'<|?_
  refine ZeM lk (by exact decide_eq_true hc3) ?_
  refine wr'<|Vw (Zat ZcG)<|mw<|E' (Zai lk cv gx rfl nb rfl ZcT hs2) ptn<|mr<|Zah<|Zae (rsn (rm1 (rr_c gt gx (ld1 ZbR rfl)) (rm1 (rr_t gt) rm0)))<|rtW'<|?_
  rw[hE];exact Zed
 have hV:ZdV r u=((Za2 r.1 u.1).1,(Za2 r.1 u.1).2):=if_pos hc2
 have hE:=Zkv (r:=r) (u:=u) (by rw[hV];exact hc2)
 rw[hV] at hE
 refine za<|Zac<|wm<|Vw (Za7 lk lki)<|sn'<|?_
 refine ZdG lk (by exact decide_eq_false hc2) ?_
 refine za<|Zac<|wm<|Vw (Za7 lk lki)<|sn'<|?_
 refine ZdG lk (by exact decide_eq_false hc2) ?_
 refine za<|Zac<|wm<|Vw (Zba lk lki)<|sn'<|?_
 refine ZeM lk (by exact decide_eq_true hc2) ?_
 refine wr'<|Vw (Zat ZcG)<|mw<|E' (Zai lk cv gx rfl nb rfl ZcT hs2) ptn<|mr<|Zah<|Zae (rsn (rm1 (rr_c gt gx (ld1 ZbR rfl)) (rm1 (rr_t gt) rm0)))<|rtW'<|?_
 rw[hE];exact Zed
theorem ZvC {r:Rel}{u:Upd}{h:AH}(hr:Zgb r) (hu:okUpd u) :
  Ac 18 [.agg (relC r),.agg (updC u)] h (.tup [.agg (relC (ZiH r u).1),iv (ZiH r u).2]):=by
 refine tW' k18 fun N hn _ _ hbd=>?_
 simp only[tb'] at hbd ⊢
 refine wr'<|E' (ZaR cv rfl hl0 ha0) pt<|E' (ZaR cv rfl hl1 ha1) pt<|E' (ZaV hl2 ha2) pt<|ms<|Zac<|wr'<|Vw (Zag lk gx ZbR rfl)<|Zad mp (ZlW (t:=r.1) (k:=r.2) hr) pt<|mw<|?_
 refine sn'<|wm<|Vw (Zba lk lki)<|sn'<|?_
 refine cd' lk (fun hc1=>?_) (fun hc1=>?_)
 ·have hE:ZiH r u=(rel0,ZaU r):=if_pos hc1
  refine wr'<|Vw (Zat Zln)<|mw<|E' (Zai lk cv gx rfl nb rfl ZcT hs2) ptn<|mr<|Zah<|Zae (rsn (rm1 (rr_c gt gx (ld1 ZbR rfl)) (rm1 (rr_t gt) rm0)))<|rtW'<|?_
  rw[hE];exact Zed
 have h0:ZaU r=0:=Decidable.of_not_not hc1
 have hE:ZiH r u=updV r u:=if_neg hc1
 refine za<|wr'<|Vw (Zag lk gx ZbR rfl)<|Vw (Zag lk gx Zsf rfl)<|Zad mp (upd_a hr h0 hu) pt<|Vw (ZaQ lk gt)<|Vw (ZaQ lk gt)<|E' (Zai lk cv gx rfl nb rfl ZcT hs2) ptn<|mr<|?_
 refine Zae (rsn (rm1 (rr_c gt gx (ld1 ZbR rfl)) (rm1 (rr_t gt) rm0)))<|rtW'<|?_
 rw[hE];exact Wk.refl _
theorem Zk0 {s:ByteArray}(h:ZcD s=true):s.size≤maxLen:=by
 unfold ZcD at h
 simp only[Bool.and_eq_true,decide_eq_true_eq] at h
 have:=h.1.1.2
 simp only[maxLen];omega
theorem Zl3 {r:Rel}(h:ZaU r=0):Zgb r:=by
 obtain⟨_,_,a3,_,a5,_⟩:=Zb6 h
 refine⟨fun n hn=>⟨Zk0 (a3 n hn).1,ZpB (a3 n hn).2⟩,fun l hl=>⟨?_,Zk0 (a5 l hl).1⟩⟩
 have:=ZcE.1 (a5 l hl).2.2
 obtain⟨n,hn,e⟩:=List.mem_map.1 this
 rw[←e];exact Zk0 (a3 n hn).1
theorem okP_pat {t u:Tab}(h:okT u):okP (ZcI t u):=⟨h.1,fun x hx=>h.2 x (List.mem_of_mem_take (List.mem_of_mem_drop hx))⟩
theorem Zl2 {r s:Rel}(hr:ZaU r=0) (hs:ZaU s=0):okUpd (betU r s):=by
 obtain⟨a1,a2,a3,a4,a5,a6⟩:=Zb6 hr
 obtain⟨b1,b2,b3,b4,b5,b6⟩:=Zb6 hs
 have kr:=Zl3 hr
 have ks:=Zl3 hs
 refine⟨fun n hn=>?_,fun p hp=>?_,ks.2,?_,?_⟩
 ·have hm:n∈s.1:=(List.mem_filter.1 hn).1
  exact⟨ks.1 n hm,by have:=ZcO (b3 n hm).2;omega⟩
 ·obtain⟨n,hn,he⟩:=ZhS.1 hp
  obtain⟨e1,t,h1,_,e2⟩:=Ze1 he
  have k2:=ks.1 n hn
  refine⟨by rw[e1];exact k2.1,?_⟩
  rw[e2]
  exact okP_pat k2.2
 ·have:=Zqs r.1 s.1
  show (betP r.1 s.1).length≤_
  omega
 show s.2.length≤_
 omega
end
section
open Go.Ab Go.RowKit Civ
attribute [local simp] Zbi Zc1 Zbv Zhm ZbL Zce ZbZ ZcL
section
theorem Zfp {a0 a1 c0 c1:AV}{l:List AV}:setCells (a0::a1::l) 0 [c0,c1]=c0::c1::l:=rfl
theorem Zcx {a0 a1:AV}{l:List AV}:((a0::a1::l).drop 0).take 2=[a0,a1]:=rfl
theorem Zfx {τ:Operand→AV}:Zak τ [] [(.sl 0 0 true []),(.sl 0 0 true [])]=some [(.sl 0 0 true []),(.sl 0 0 true [])]:=rfl
theorem Zg6 {a0 a1 a2 a3 c0 c1 c2 c3:AV}{l:List AV}:setCells (a0::a1::a2::a3::l) 0 [c0,c1,c2,c3]=c0::c1::c2::c3::l:=rfl
theorem Zfw {τ:Operand→AV}:Zak τ [] [(.sl 0 0 true []),(.sl 0 0 true [])]=some [(.sl 0 0 true []),(.sl 0 0 true [])]:=rfl
theorem Zkj {a0 a1 a2 a3:AV}{l:List AV}:((a0::a1::a2::a3::l).drop 0).take 4=[a0,a1,a2,a3]:=rfl
theorem ZvS {a0 a1 a2 a3:AV}{l:List AV}:(a0::a1::a2::a3::l).take 4=[a0,a1,a2,a3]:=rfl
end
def c41:AC:=(Sr [Oo 0 (.new 25 2 [nl,nl])] (Sr [Cl 4 40 [],Cl 5 15 [(t 4)],Mv 3 5,Ex 6 3 0,Ex 7 3 1,Oo 1 (.new 25 2 [nl,nl]),⟨none,none,(.store 2 (t 1) (t 6))⟩,Mv 2 7] (Sr [Oo 8 (.load true 2 (t 1)),⟨none,none,(.store 2 (t 0) (t 8))⟩] .ret)))
theorem k41:Zaw Tryz.prog 41=some ⟨c41,[(.cell 0 true 2)],9⟩:=by kernel_rfl
def c9:AC:=(Sr [Mb 0 false] (Sr [Cl 12 40 [],Cl 13 14 [(t 12)],Mv 11 13,Ex 14 11 0,Ex 15 11 1,Oo 1 (.new 25 2 [nl,nl]),⟨none,none,(.store 2 (t 1) (t 14))⟩,Mv 2 15] (Sr [Oo 17 (.build [nl,nl] []),Oo 18 (.load true 2 (t 1)),Cl 19 10 [(t 17),(t 18)],Mv 16 19,Ex 20 16 0,Ex 21 16 1,Oo 3 (.new 30 4 [nl,nl,nl,nl]),⟨none,none,(.store 4 (t 3) (t 20))⟩,Mv 4 21] (Sr [Oo 23 (.build [nl,nl] []),Oo 24 (.load true 4 (t 3)),Cl 25 18 [(t 23),(t 24)],Mv 22 25,Ex 26 22 0,Ex 27 22 1,Oo 5 (.new 25 2 [nl,nl]),⟨none,none,(.store 2 (t 5) (t 26))⟩,Mv 6 27] (Sr [Oo 29 (.load true 2 (t 1)),Oo 30 (.call (.func 11) [(t 29),(.const (.string ⟨#[79,108,100]⟩))]),Mv 28 30,Ex 31 28 0,Ex 32 28 1,Oo 7 (.new 38 4 [(iv 0),(iv 0),Ss,nl]),⟨none,none,(.store 4 (t 7) (t 31))⟩,Mv 8 32] (Sr [Oo 34 (.load true 2 (t 1)),Oo 35 (.call (.func 11) [(t 34),(.const (.string ⟨#[78,101,119]⟩))]),Mv 33 35,Ex 36 33 0,Ex 37 33 1,Oo 9 (.new 38 4 [(iv 0),(iv 0),Ss,nl]),⟨none,none,(.store 4 (t 9) (t 36))⟩,Mv 10 37] (Sd [Mv 38 2,Bc 39 .eql 38 0,Mv 40 39,Ot 41 40 (mt 4),Ot 42 40 (.bin .eql (t 41) (Ci 0)),Oo 43 (.pick (t 40) (t 42) (.const (.bool false))),Mv 44 43,Ot 45 44 (mt 6),Ot 46 44 (.bin .eql (t 45) (Ci 0)),Oo 47 (.pick (t 44) (t 46) (.const (.bool false))),Mv 48 47,Ot 49 48 (mt 8),Ot 50 48 (.bin .eql (t 49) (Ci 0)),Oo 51 (.pick (t 48) (t 50) (.const (.bool false))),Mv 52 51,Ot 53 52 (mt 10),Ot 54 52 (.bin .eql (t 53) (Ci 5)),Oo 55 (.pick (t 52) (t 54) (.const (.bool false))),Mv 56 55,Ot 57 56 (.load true 2 (t 1)),Ot 58 56 (.call (.func 17) [(t 57)]),Ot 59 56 (.bin .eql (t 58) (Ci 0)),Oo 60 (.pick (t 56) (t 59) (.const (.bool false))),Mv 61 60,Ot 62 61 (.load true 2 (t 1)),Ot 63 61 (.call (.func 41) []),Ot 64 61 (.call (.func 25) [(t 62),(t 63)]),Oo 65 (.pick (t 61) (t 64) (.const (.bool false))),Mv 66 65,Ot 67 66 (.load true 2 (t 5)),Ot 68 66 (.call (.func 41) []),Ot 69 66 (.call (.func 25) [(t 67),(t 68)]),Oo 70 (.pick (t 66) (t 69) (.const (.bool false))),Mv 71 70,Ot 72 71 (.fa 1 (t 3)),Ot 73 71 (.load false 1 (t 72)),Ot 74 71 (.len false (t 73)),Ot 75 71 (.bin .eql (t 74) (Ci 1)),Oo 76 (.pick (t 71) (t 75) (.const (.bool false))),Mv 77 76,Ot 78 77 (.load true 4 (t 7)),Ot 79 77 (.call (.func 41) []),Ot 80 77 (.fld false 0 1 (t 79)),Ot 81 77 (.ia 5 (t 80) (Ci 0)),Ot 82 77 (.fa 1 (t 81)),Ot 83 77 (.load true 4 (t 82)),Ot 84 77 (.call (.func 13) [(t 78),(t 83)]),Oo 85 (.pick (t 77) (t 84) (.const (.bool false))),Mv 0 85] .ret)))))))
theorem k9:Zaw Tryz.prog 9=some ⟨c9,[(.tmp 0)],86⟩:=by kernel_rfl
def nNew:ByteArray:=bA [78,101,119]
theorem mk1 {h:AH}:Ac 14 [.agg (srcC src0)] h (.tup [.agg (relC rel1),iv 0]):=by
 have:=make_a (a:=src0.1) (z:=src0.2.1) (k:=src0.2.2) (h:=h) Znk
 rw[show (src0.1,src0.2.1,src0.2.2)=src0 from rfl,make0] at this
 exact this
theorem rmk1 {h:AH}:Ac 15 [.agg (srcC src0)] h (.tup [.agg (relC rel1),iv 0]):=by
 have:=rmake_g (a:=src0.1) (z:=src0.2.1) (k:=src0.2.2) (h:=h) Znk rcrl0 fun h=>by
  rw[show ZbC (src0.1,src0.2.1,src0.2.2)=0 from chk0];exact rchkZ0
 rw[show (src0.1,src0.2.1,src0.2.2)=src0 from rfl,make0] at this
 exact this
theorem dif1 {h:AH}:Ac 10 [.agg [.sl 0 0 true [],.sl 0 0 true []],.agg (relC rel1)] h (.tup [.agg (updC upd1),iv 0]):=by
 have:=Zn4 (r:=rel0) (s:=rel1) (h:=h) ⟨fun _ h=>(by cases h),fun _ h=>(by cases h)⟩ ZkV
 rw[diff0] at this
 exact ACalls.wk (wkw (Wk.agg (wkw Wk.nilF (wkw Wk.nilF wk0))) (wk1 rfl wk0)) this
theorem app2 {h:AH}:Ac 18 [.agg [.sl 0 0 true [],.sl 0 0 true []],.agg (updC upd1)] h (.tup [.agg (relC rel1),iv 0]):=by
 have h0:ZaU rel0=0:=rfl
 have e:betU rel0 rel1=upd1:=rfl
 have:=ZvC (r:=rel0) (u:=upd1) (h:=h) ⟨fun _ h=>(by cases h),fun _ h=>(by cases h)⟩ (e ▸ Zl2 h0 Zrh)
 rw[show ZiH rel0 upd1=(rel1,0) from (if_neg (by rw[h0];simp)).trans (e ▸ leadR h0 Zrh)] at this
 exact ACalls.wk (wkw (Wk.agg (wkw Wk.nilF (wkw Wk.nilF wk0))) (wk1 rfl wk0)) this
theorem findR1:Zir rel1 nOld=(tab0,0):=by
 rw[Zir,if_neg (by rw[Zrh];simp)];rfl
theorem findR2:Zir rel1 nNew=(Zfr,5):=by
 rw[Zir,if_neg (by rw[Zrh];simp)];rfl
theorem fnd1 {h:AH}:Ac 11 [.agg (relC rel1),sv nOld] h (.tup [tabA tab0,iv 0]):=by
 have:=ZuF (t:=rel1.1) (k:=rel1.2) (nm:=nOld) (h:=h) ZkV (by decide)
 rw[show (rel1.1,rel1.2)=rel1 from rfl,findR1] at this
 exact this
theorem fnd2 {h:AH}:Ac 11 [.agg (relC rel1),sv nNew] h (.tup [tabA Zfr,iv 5]):=by
 have:=ZuF (t:=rel1.1) (k:=rel1.2) (nm:=nNew) (h:=h) ZkV (by decide)
 rw[show (rel1.1,rel1.2)=rel1 from rfl,findR2] at this
 exact this
theorem Zuh {h:AH}:Ac 41 [] h (.agg (relC rel1)):=by
 refine tI' k41 fun N hn _ _ hbd=>?_
 simp only[tb'] at hbd ⊢
 refine wr'<|E' (ZaV hl0 ha0) pt<|sn'<|wr'<|Zad mp0 (Zpy) pt<|Zad mp (rmk1) pt<|mw<|Vw (ZaQ lk gt)<|Vw (ZaQ lk gt)<|E' (ZaV hl1 ha1) pt<|E' (Zai lk cv gx rfl nb rfl Zfp hs1) ptn<|?_
 exact ms<|wr'<|Vw (Zag lk gx Zcx rfl)<|E' (Zai lk cv gx rfl nb rfl Zfp hs0) ptn<|sr<|Zae (rs1 (rr_c gt gx (ld1 Zcx rfl)))<|rT' rfl
theorem same1 {h:AH}:Ac 25 [.agg (relC rel1),.agg (relC rel1)] h (bv true):=by
 have:=Zjy (t:=rel1.1) (u:=rel1.1) (k:=rel1.2) (m:=rel1.2) (f1:=false) (f2:=false) (f3:=false) (f4:=false) (h:=h)
 rw[decide_eq_true rfl] at this
 exact this
theorem stab1 {h:AH}:Ac 13 [tabA tab0,tabA tab0] h (bv true):=by
 have:=Ztl (t:=tab0) (u:=tab0) (f1:=false) (f2:=false) (h:=h)
 rw[decide_eq_true rfl] at this
 exact this
theorem ZqN {h:AH}:Ac 9 [] h (bv true):=by
 refine tI' k9 fun N hn _ _ hbd=>?_
 simp only[tb'] at hbd ⊢
 refine wk'<|wr'<|Zad mp0 (Zpy) pt<|Zad mp (mk1) pt<|mw<|Vw (ZaQ lk gt)<|Vw (ZaQ lk gt)<|E' (ZaV hl0 ha0) pt<|E' (Zai lk cv gx rfl nb rfl Zfp hs0) ptn<|?_
 refine ms<|wr'<|Vw (Zat Zfx)<|Vw (Zag lk gx Zcx rfl)<|Zad mp (dif1) pt<|mw<|Vw (ZaQ lk gt)<|Vw (ZaQ lk gt)<|E' (ZaV hl1 ha1) pt<|E' (Zai lk cv gx rfl nb rfl Zg6 hs1) ptn<|mw<|?_
 refine sn'<|wr'<|Vw (Zat Zfw)<|Vw (Zag lk gx Zkj rfl)<|Zad mp (app2) pt<|mw<|Vw (ZaQ lk gt)<|Vw (ZaQ lk gt)<|E' (ZaV hl2 ha2) pt<|E' (Zai lk cv gx rfl nb rfl Zfp hs2) ptn<|mw<|Zam<|?_
 refine Zan<|wr'<|Vw (Zag lk gx Zcx rfl)<|Zad mp (fnd1) pt<|mw<|Vw (ZaQ lk gt)<|Vw (ZaQ lk gt)<|E' (ZaV hl3 ha3) pt<|E' (Zai lk cv gx rfl nb rfl Zg6 hs3) ptn<|ms<|Zac<|?_
 refine Zap<|Vw (Zag lk gx Zcx rfl)<|Zad mp (fnd2) pt<|mw<|Vw (ZaQ lk gt)<|Vw (ZaQ lk gt)<|E' (ZaV hl4 ha4) pt<|E' (Zai lk cv gx rfl nb rfl Zg6 hs4) ptn<|ms<|Zac<|ZaH<|Dw vm<|?_
 refine Dw (Za7 lk lki)<|Dw vm<|?_
 refine ZfM (t:=40) gt (b:=true) (by rfl) pt ?_
 refine dO<|Dw vm<|dO<|Dw (Za7 lk lki)<|Dw (Zal lk lk)<|Dw vm<|?_
 refine ZfM (t:=44) gt (b:=true) (by rfl) pt ?_
 refine dO<|Dw vm<|dO<|Dw (Za7 lk lki)<|Dw (Zal lk lk)<|Dw vm<|?_
 refine ZfM (t:=48) gt (b:=true) (by rfl) pt ?_
 refine dO<|Dw vm<|dO<|Dw (Za7 lk lki)<|Dw (Zal lk lk)<|Dw vm<|?_
 refine ZfM (t:=52) gt (b:=true) (by rfl) pt ?_
 refine dO<|Dw vm<|dO<|Dw (Za7 lk lki)<|Dw (Zal lk lk)<|Dw vm<|?_
 refine ZfM (t:=56) gt (b:=true) (by rfl) pt ?_
 refine dO<|Dw (Zag lk gx Zcx rfl)<|dO<|?_
 refine ZaC mp (fun hE hX=>rchk1) pt ?_
 refine dO<|Dw (Za7 lk lki)<|Dw (Zal lk lk)<|Dw vm<|?_
 refine ZfM (t:=61) gt (b:=true) (by rfl) pt ?_
 refine dO<|Dw (Zag lk gx Zcx rfl)<|dO<|?_
 refine ZaC mp0 (fun hE hX=>Zuh) pt ?_
 refine d_do gt ?_
 refine ZaC mp (fun hE hX=>same1) pt ?_
 refine Dw (Zal lk lk)<|Dw vm<|dO<|Dw (Zag lk gx Zcx rfl)<|dO<|?_
 refine ZaC mp0 (fun hE hX=>Zuh) pt ?_
 refine d_do gt ?_
 refine ZaC mp (fun hE hX=>same1) pt ?_
 refine Dw (Zal lk lk)<|Dw vm<|dO<|dg<|dO<|Dw (Zaa lk gx gt1)<|dO<|Dw (ZaA lk)<|dO<|Dw (Za7 lk lki)<|Dw (Zal lk lk)<|Dw vm<|?_
 refine ZfM (t:=77) gt (b:=true) (by rfl) pt ?_
 refine dO<|Dw (Zag lk gx Zkj rfl)<|dO<|?_
 refine ZaC mp0 (fun hE hX=>Zuh) pt ?_
 refine dO<|Dw (v_fld lk gt)<|dO<|?_
 refine D' (ZaJ (k:=0) lk lki ZaL nb (by first | rfl | first | omega | decide) (by first | omega | decide) ro rfl) pt ?_
 refine dO<|Dw (Zbl lk dp1)<|dO<|Dw (Zas lk ZvS rfl)<|dO<|?_
 refine ZaC mp (fun hE hX=>stab1) pt ?_
 refine Dw (Zal lk lk)<|Dw vm<|ZaM<|?_
 refine Za5 ?_
 exact sr<|Zae rz<|rT' rfl
end
section
open Go.Ab Go.RowKit Civ
attribute [local simp] Zbi Zc1 Zbv Zhm ZbL Zce ZbZ ZcL
def c7:AC:=(Sr [Oo 2 (.box 53 3 (t 0)),Mb 4 false] (.seq (Sr [Cl 10 9 [],Oo 11 (.un .not (t 10)),Mv 12 11,Of 13 12 (.call (.func 26) []),Of 14 12 (.un .not (t 13)),Oo 15 (.pick (t 12) (.const (.bool true)) (t 14))] (Cd 15 (Sr [Mb 4 false] .ret) .skip)) (Sr [Oo 17 (.load true 3 (t 2)),Cl 18 14 [(t 17)],Mv 16 18,Ex 19 16 0,Ex 20 16 1,Oo 5 (.new 25 2 [nl,nl]),⟨none,none,(.store 2 (t 5) (t 19))⟩,Mv 6 20] (.seq (Sr [Mv 21 6,Bc 22 .neq 21 0] (Cd 22 (Sr [Fa 23 0 5,Ld 24 23,Oo 25 (.len false (t 24)),Bc 26 .eql 25 0,Mv 4 26] .ret) .skip)) (Sr [Oo 28 (.load true 2 (t 5)),Mv 29 1,Cl 30 11 [(t 28),(t 29)],Mv 27 30,Ex 31 27 0,Ex 32 27 1,Oo 7 (.new 38 4 [(iv 0),(iv 0),Ss,nl]),⟨none,none,(.store 4 (t 7) (t 31))⟩,Mv 6 32] (Sr [Oo 34 (.load true 3 (t 2)),Mv 35 1,Cl 36 27 [(t 34),(t 35)],Mv 33 36,Ex 37 33 0,Ex 38 33 1,Oo 8 (.new 38 4 [(iv 0),(iv 0),Ss,nl]),⟨none,none,(.store 4 (t 8) (t 37))⟩,Mv 9 38] (Sr [Mv 39 6,Mv 40 9,Bn 41 .eql 39 40,Mv 42 41,Ot 43 42 (.load true 4 (t 7)),Ot 44 42 (.load true 4 (t 8)),Ot 45 42 (.call (.func 13) [(t 43),(t 44)]),Oo 46 (.pick (t 42) (t 45) (.const (.bool false))),Mv 4 46] .ret)))))))
theorem k7:Zaw Tryz.prog 7=some ⟨c7,[(.tmp 4)],47⟩:=by kernel_rfl
def c4:AC:=(Sr [Oo 1 (.box 53 3 (t 0)),Mb 2 false] (Sr [Oo 8 (.load true 3 (t 1)),Cl 9 14 [(t 8)],Mv 7 9,Ex 10 7 0,Ex 11 7 1,Oo 3 (.new 25 2 [nl,nl]),⟨none,none,(.store 2 (t 3) (t 10))⟩,Mv 4 11] (Sr [Oo 13 (.load true 3 (t 1)),Cl 14 15 [(t 13)],Mv 12 14,Ex 15 12 0,Ex 16 12 1,Oo 5 (.new 25 2 [nl,nl]),⟨none,none,(.store 2 (t 5) (t 15))⟩,Mv 6 16] (Sr [Cl 17 9 [],Mv 18 17,Ot 19 18 (.load true 2 (t 3)),Ot 20 18 (mt 4),Ot 21 18 (mt 6),Ot 22 18 (.load true 2 (t 5)),Ot 23 18 (.call (.func 16) [(t 19),(t 20),(t 21),(t 22)]),Oo 24 (.pick (t 18) (t 23) (.const (.bool false))),Mv 25 24,Ot 26 25 (mt 4),Ot 27 25 (.bin .neq (t 26) (Ci 0)),Ot 28 25 (mt 27),Of 29 28 (.load true 2 (t 3)),Of 30 28 (.call (.func 17) [(t 29)]),Of 31 28 (.bin .eql (t 30) (Ci 0)),Ot 32 25 (.pick (t 28) (.const (.bool true)) (t 31)),Oo 33 (.pick (t 25) (t 32) (.const (.bool false))),Mv 2 33] .ret))))
theorem k4:Zaw Tryz.prog 4=some ⟨c4,[(.tmp 2)],34⟩:=by kernel_rfl
theorem sameR_r {r:Rel}{h:AH}:Ac 25 [.agg (relC r),.agg (relC r)] h (bv true):=by
 have:=Zjy (t:=r.1) (u:=r.1) (k:=r.2) (m:=r.2) (f1:=false) (f2:=false) (f3:=false) (f4:=false) (h:=h)
 rw[decide_eq_true rfl] at this
 exact this
end
section
open Go.Ab Go.RowKit Civ
attribute [local simp] Zbi Zc1 Zbv Zhm ZcL
section
theorem ZcS {a0 a1:AV}{l:List AV}:((a0::a1::l).drop 0).take 2=[a0,a1]:=rfl
theorem Zki {a0 a1 a2 a3 c0 c1 c2 c3:AV}{l:List AV}:setCells (a0::a1::a2::a3::l) 0 [c0,c1,c2,c3]=c0::c1::c2::c3::l:=rfl
theorem ZrZ {a0 a1 a2 a3:AV}{l:List AV}:((a0::a1::a2::a3::l).drop 0).take 4=[a0,a1,a2,a3]:=rfl
theorem Zr0 {a0 a1 c0 c1:AV}{l:List AV}:setCells (a0::a1::l) 0 [c0,c1]=c0::c1::l:=rfl
end
def c6:AC:=(Sr [Oo 2 (.box 25 2 (t 0)),Oo 3 (.box 25 2 (t 1)),Mb 4 false] (Sr [Oo 11 (.load true 2 (t 2)),Oo 12 (.load true 2 (t 3)),Cl 13 10 [(t 11),(t 12)],Mv 10 13,Ex 14 10 0,Ex 15 10 1,Oo 5 (.new 30 4 [nl,nl,nl,nl]),⟨none,none,(.store 4 (t 5) (t 14))⟩,Mv 6 15] (.seq (Sr [Cl 16 9 [],Oo 17 (.un .not (t 16))] (Cd 17 (Sr [Mb 4 false] .ret) .skip)) (.seq (Sr [Mv 18 6,Bc 19 .neq 18 0] (Cd 19 (Sr [Fa 20 0 5,Ld 21 20,Oo 22 (.len false (t 21)),Fa 23 1 5,Ld 24 23,Oo 25 (.len false (t 24)),Bn 26 .add 22 25,Fa 27 2 5,Ld 28 27,Oo 29 (.len false (t 28)),Bn 30 .add 26 29,Fa 31 3 5,Ld 32 31,Oo 33 (.len false (t 32)),Bn 34 .add 30 33,Bc 35 .eql 34 0,Mv 4 35] .ret) .skip)) (Sr [Oo 37 (.load true 2 (t 2)),Oo 38 (.load true 4 (t 5)),Cl 39 18 [(t 37),(t 38)],Mv 36 39,Ex 40 36 0,Ex 41 36 1,Oo 7 (.new 25 2 [nl,nl]),⟨none,none,(.store 2 (t 7) (t 40))⟩,Mv 6 41] (Sr [Oo 43 (.load true 2 (t 2)),Oo 44 (.load true 2 (t 2)),Cl 45 10 [(t 43),(t 44)],Mv 42 45,Ex 46 42 0,Ex 47 42 1,Oo 8 (.new 30 4 [nl,nl,nl,nl]),⟨none,none,(.store 4 (t 8) (t 46))⟩,Mv 9 47] (Sr [Mv 48 6,Bc 49 .eql 48 0,Mv 50 49,Ot 51 50 (mt 9),Ot 52 50 (.bin .eql (t 51) (Ci 0)),Oo 53 (.pick (t 50) (t 52) (.const (.bool false))),Mv 54 53,Ot 55 54 (.load true 2 (t 7)),Ot 56 54 (.load true 2 (t 3)),Ot 57 54 (.call (.func 25) [(t 55),(t 56)]),Oo 58 (.pick (t 54) (t 57) (.const (.bool false))),Mv 59 58,Ot 60 59 (.fa 0 (t 8)),Ot 61 59 (.load false 1 (t 60)),Ot 62 59 (.len false (t 61)),Ot 63 59 (.fa 1 (t 8)),Ot 64 59 (.load false 1 (t 63)),Ot 65 59 (.len false (t 64)),Ot 66 59 (.bin .add (t 62) (t 65)),Ot 67 59 (.fa 2 (t 8)),Ot 68 59 (.load false 1 (t 67)),Ot 69 59 (.len false (t 68)),Ot 70 59 (.bin .add (t 66) (t 69)),Ot 71 59 (.bin .eql (t 70) (Ci 0)),Oo 72 (.pick (t 59) (t 71) (.const (.bool false))),Mv 4 72] .ret)))))))
theorem k6:Zaw Tryz.prog 6=some ⟨c6,[(.tmp 4)],73⟩:=by kernel_rfl
theorem ZuU {r s:Rel}(h:(Zdo r s).2=0):ZaU r=0∧ZaU s=0∧(Zdo r s).1=betU r s:=by
 unfold Zdo at h ⊢
 split at h
 ·rename_i h1;exact absurd h h1
 rename_i h1
 split at h
 ·rename_i h2;exact absurd h h2
 rename_i h2
 rw[if_neg h1,if_neg h2]
 exact⟨Decidable.of_not_not h1,Decidable.of_not_not h2,rfl⟩
theorem Zq9 {r s:Rel}(h:(Zdo r s).2≠0):(Zdo r s).1=upd0:=by
 unfold Zdo at h ⊢
 split
 ·rfl
 rename_i h1
 rw[if_neg h1] at h
 split
 ·rfl
 rename_i h2
 rw[if_neg h2] at h
 exact absurd rfl h
theorem leads_w {r s:Rel}{h:AH}(hr:Zgb r) (hs:Zgb s):Ac 6 [.agg (relC r),.agg (relC s)] h (bv true):=by
 refine tI' k6 fun N hn _ _ hbd=>?_
 simp only[tb'] at hbd ⊢
 refine wr'<|E' (ZaR cv rfl hl0 ha0) pt<|E' (ZaR cv rfl hl1 ha1) pt<|ms<|wr'<|Vw (Zag lk gx ZcS rfl)<|Vw (Zag lk gx ZcS rfl)<|Zad mp (Zn4 hr hs) pt<|mw<|Vw (ZaQ lk gt)<|?_
 refine Vw (ZaQ lk gt)<|E' (ZaV hl2 ha2) pt<|E' (Zai lk cv gx rfl nb rfl Zki hs2) ptn<|ms<|Zac<|wr'<|Zad mp0 (ZqN) pt<|Vw (ZaE lk)<|sn'<|Za8 lk<|?_
 refine za<|Zac<|wm<|Vw (Zba lk lki)<|sn'<|?_
 refine cd' lk (fun hc2=>?_) (fun hc2=>?_)
 ·have hb:=Zq9 hc2
  have y1:(Zdo r s).1.1.length=0:=by rw[hb];rfl
  have y2:(Zdo r s).1.2.1.length=0:=by rw[hb];rfl
  have y3:(Zdo r s).1.2.2.1.length=0:=by rw[hb];rfl
  have y4:(Zdo r s).1.2.2.2.length=0:=by rw[hb];rfl
  refine wr'<|fq<|Vw (Zaa lk gx gt0)<|Vw (ZaA lk)<|fq<|Vw (Zaa lk gx gt1)<|Vw (ZaA lk)<|?_
  refine V' (ZbM lk lk om om) pt ?_
  refine fq<|Vw (Zaa lk gx gt2)<|Vw (ZaA lk)<|?_
  refine V' (ZbM lk lk om om) pt ?_
  refine fq<|Vw (Zaa lk gx gt3)<|Vw (ZaA lk)<|?_
  refine V' (ZbM lk lk om om) pt ?_
  refine Vw (Za7 lk lki)<|mr<|Zah<|Zae rz<|rT'<|?_
  exact bvx (decide_eq_true om)
 obtain⟨hcr,hcs,hd⟩:=ZuU (Decidable.of_not_not hc2)
 rw[hd]
 have hA:ZiH r (betU r s)=(s,0):=by unfold ZiH;rw[if_neg (by rw[hcr];simp),leadR hcr hcs]
 have hD:Zdo r r=(betU r r,0):=by unfold Zdo;rw[if_neg (by rw[hcr];simp),if_neg (by rw[hcr];simp)]
 obtain⟨z1,z2,z3⟩:=bet_self hcr
 replace z1:(Zdo r r).1.1.length=0:=by rw[hD];show (betU r r).1.length=0;rw[z1];rfl
 replace z2:(Zdo r r).1.2.1.length=0:=by rw[hD];show (betU r r).2.1.length=0;rw[z2];rfl
 replace z3:(Zdo r r).1.2.2.1.length=0:=by rw[hD];show (betU r r).2.2.1.length=0;rw[z3];rfl
 refine za<|wr'<|Vw (Zag lk gx ZcS rfl)<|Vw (Zag lk gx ZrZ rfl)<|Zad mp (ZvC (r:=r) (u:=betU r s) hr (Zl2 hcr hcs)) pt<|?_
 rw[hA]
 refine mw<|Vw (ZaQ lk gt)<|Vw (ZaQ lk gt)<|E' (ZaV hl3 ha3) pt<|E' (Zai lk cv gx rfl nb rfl Zr0 hs3) ptn<|ms<|wr'<|Vw (Zag lk gx ZcS rfl)<|Vw (Zag lk gx ZcS rfl)<|Zad mp (Zn4 hr hr) pt<|mw<|?_
 refine Vw (ZaQ lk gt)<|Vw (ZaQ lk gt)<|E' (ZaV hl4 ha4) pt<|E' (Zai lk cv gx rfl nb rfl Zki hs4) ptn<|ms<|wm<|Vw (Za7 lk lki)<|mw<|?_
 refine Ztm (t:=50) gt (b:=true) (by exact decide_eq_true rfl) pt ?_
 refine sd<|mw<|sd<|Vw (Za7 lk lki)<|Vw (Zal lk lk)<|mw<|?_
 refine Ztm (t:=54) gt (b:=true) (by exact decide_eq_true (show (Zdo r r).2=0 by rw[hD])) pt ?_
 refine sd<|Vw (Zag lk gx ZcS rfl)<|sd<|Vw (Zag lk gx ZcS rfl)<|sd<|Zad mp (sameR_r) pt<|Vw (Zal lk lk)<|mw<|sd<|fq<|sd<|Vw (Zaa lk gx gt0)<|sd<|Vw (ZaA lk)<|?_
 refine sd<|fq<|sd<|Vw (Zaa lk gx gt1)<|sd<|Vw (ZaA lk)<|sd<|?_
 refine V' (ZbM lk lk om om) pt ?_
 refine sd<|fq<|sd<|Vw (Zaa lk gx gt2)<|sd<|Vw (ZaA lk)<|sd<|?_
 refine V' (ZbM lk lk om om) pt ?_
 refine sd<|Vw (Za7 lk lki)<|Vw (Zal lk lk)<|mr<|Zae rz<|rT'<|?_
 exact bvx (decide_eq_true om)
end
section
open Go.Ab Go.RowKit Civ
abbrev LnkD:Ds:=.pair .str .str
end
end Go.Proofs.YtfoipaclphdodaaGreatDoor
section
namespace Go
variable {H : Type} {enc : TypeId × Value → H}
theorem ZnU {a:Assume}{C:Checked}{os:Os}{f:FuncId}{fn:Func}{s:ChangeSpec}{apart fresh handsOn again:Bool}{laid:List (String×DataW Unit)}
  (own:ownKnob C.prog.godebug=none) (started:os.Started) (noInit:C.prog.inits.idxOf? f=none) (hfn:C.prog.funcs[f]?=some fn)
  (witness : ∃ (w:World) (tape:Tape) (i:Input),w.os=os∧(w.forCall tape i).Shaped C.prog∧i.vars=[]∧Input.okWide C.prog (w.forCall tape i) .any w.heap.size f i ∧
   ((s.pre enc C.prog fn [] apart (w.forCall tape i).memory i.args∧laidMetH C.prog laid (w.forCall tape i).memory)∧sizedMet enc C.prog fn (OpenSpec.ofChange s) apart (w.forCall tape i).memory i.args)∧a.holds C.prog (lone (Frame.enter C.prog f i.args .normal) [] (w.forCall tape i)))
  (contract : ∀ (W:World) (base:Nat) (args:Array Value) (ds gs:List (DataW H)) (before:List MemPlace),
   (∀ (j:Nat) t v,fn.params[j]?=some t→args[j]?=some v→Value.okWide C.prog W .any base t v) →
   DataW.Whole enc C.prog fn.params.toList s.vars apart W args.toList ds gs before →
   (DataW.weightsEach C.prog (fn.params.toList++s.plain.varTypes C.prog) (ds++gs)).all (· ≤ reachBytes)=true →
   laidMetH C.prog laid W→W.ShapedOpen C.prog →
   Calls C.prog f args W fun e W' => ∃ v,e=.returned v∧s.post enc C.prog fn apart fresh handsOn again W args v W') :
  ReturnsInHanded a C os f .any (fun w args=>(s.pre enc C.prog fn [] apart w args∧laidMetH C.prog laid w)∧sizedMet enc C.prog fn (OpenSpec.ofChange s) apart w args) (s.post enc C.prog fn apart fresh handsOn again):=by
 refine returnsInHanded_of_calls own started noInit witness ?_
 intro w tape i _ hsh _ hok hpre hholds
 obtain⟨_,_,_,fn',hfn',_,_,_,_,hval⟩:=hok
 have e:fn'=fn:=Option.some.inj (hfn'.symm.trans hfn)
 subst e
 obtain⟨⟨⟨ds,gs,before,hw,hc⟩,hx⟩,hz⟩:=hpre
 have hw':=DataW.Whole.of_heap (w':=w.forCall tape i) (by rfl) hw
 refine (contract (w.forCall tape i) w.heap.size i.args ds gs before hval hw' (hz.weights hw) (hx.of_heap (by rfl)) hsh).mono fun e W' ⟨v,he,hp⟩=>?_
 subst he
 exact ChangeSpec.post_blind hp
end Go
namespace Go.Proofs.YtfoipaclphdodaaGreatDoor
open Go.ChangeShapes Go.WideShapes Go.ChangeAt Go.RowKit Go.Ab
def LaidOk (l:List (String×DataW Unit)):Prop:=l.length=l.length
theorem globW {W:World}{l:List (String×DataW Unit)}(hsh:W.ShapedOpen Tryz.prog) (hL:laidMetH Tryz.prog l W) (hl:LaidOk l):GlobW W where
 tt:=trivial
 maxLen:=cell_of_shapedOpen_int (t:=3) (zero := #[.int .i64 0]) hsh (of_decide_eq_true (by kernel_rfl)) (by kernel_rfl) rfl (by kernel_rfl) (by kernel_rfl) Tryz.underlying3
end Go.Proofs.YtfoipaclphdodaaGreatDoor
end
