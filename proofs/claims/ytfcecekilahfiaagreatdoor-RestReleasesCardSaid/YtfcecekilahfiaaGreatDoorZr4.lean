/-
  Part 4 of the proof: own lemmas and contracts on plain data. No condition beyond those that each lemma states.
-/
import Derived.Test.YtfcecekilahfiaaGreatDoorZr3
import Derived.Shelf.SlSortCmp.NoneTotal
import Derived.Laws.IdiomCopy
import Derived.Shelf.Spec.SlicesInsert
import Derived.Laws.NewBlocks
import Derived.Deep.RegionLaw
import Derived.Lib.Walk
import Derived.Shelf.RegionOpenPlain
set_option linter.all false
set_option maxRecDepth 1000000
set_option maxHeartbeats 4000000
namespace Go.Proofs.YtfcecekilahfiaaGreatDoor
open Go.Ab
variable {h:AH}{f1:Bool}{b:ByteArray}{k:List Lnk}{z:List Zon}{n:Nam}{i ty:Nat}{s:Src}
section
open Go.Ab Go.RowKit Civ
attribute [local simp] Eb Fi E5 Dn Cp Gw Ix
attribute [local simp] tms_lt
def oN {a:List Rul}{nm:ByteArray}{es:List Era}{n:Int}(hz:okZ es):Ac 216 [.agg [sv nm,.sl es.length 10 false (rows eraC es),.sl (By es).length 1 false (rows intC (By es)),.sl es.length 1 false (rows (tmsE a) es)],iv n] h (.agg (locC3 (Co a es n))):=by
 have hlen:=hz.len;have hel:=Hv es;have hkl:=kAt_lt hz.ne n;have hke:=dP (By es) n;refine tI' k216 λN hn _ _ hbd=>?_;simp only[tb'] at hbd ⊢;refine wr'<|E' (Bq cv rfl hl0 ha0) pt<|E' (Bz hl1 ha1) pt<|Am<|?_;refine B0 (ALe.icePtr gx gt2 (by simp) pt2 hs0) ?_;refine wk'<|Ab<|Ah<|?_;refine w_lp (ι:=Nat) (λ(i:Nat)=>[(5,iv (i:Int))]++rn' 10 16) (λ(i:Nat)=>[]) (λ(i:Nat)=>i<=kAt (By es) n) (λ(i:Nat)=>kAt (By es) n-i) (0) (by exact Nat.zero_le _) ?_;rintro i hi1;try simp only[sm',Nat.reduceAdd]
 replace hi1:i<=kAt (By es) n:=hi1;refine Ab<|wm<|Vw (Cj lk dp2)<|Vw (Ba lk gt)<|Vw (Bf lk)<|Vw (Bm lk lk)<|mw<|?_;refine sp' (t:=15) gt pt pt (λhg15=>?_) (λhg15=>?_)
 .have hst:=iA (a:=n) (show i<(By es).length by omega) hi1;refine sd<|Vw (Cj lk dp2)<|sd<|Vw (Ba lk gt)<|sd<|mw<|sd<|?_;refine V' (Bh lk lk Cw nb ro om ro rfl) pt ?_;refine sd<|Vw (Ba lk gt)<|sd<|mw<|sd<|Vw (Gy lk lk)<|Vw (Ar lk lk)<|sn'<|?_;refine cd' lk (λhc1=>?_) (λhc1=>?_)
  .have hi2:=hst.1 hc1;refine za<|Ah<|Aq<|mw<|?_;refine ad<|mw<|Am<|Aw<|Az<|?_;refine lT' (i+1) (by (try dsimp only);omega)
  have hie:i=kAt (By es) n:=by have:¬i+1<=kAt (By es) n:=λh=>hc1 (hst.2 h);omega
  have hx:=lW hz (List.getElem_mem hkl);subst hie;refine Bd<|As<|As<|Bp<|An<|wr'<|Vw (Cj lk dp0)<|Vw (Cj lk dp1)<|Vw (Ba lk gt)<|mw<|?_;refine V' (Bh (k:=kAt (By es) n) lk lk F5 nb ro om ro rfl) pt ?_;refine Vw (Ax lk Fx rfl)<|E' (Bz hl2 ha2) pt<|E' (Ai lk cv gx rfl nb rfl Gc hs2) ptn<|sn'<|wr'<|fq<|Vw (Aa lk gx gt2)<|mw<|ms<|Ab<|?_;refine wk'<|Ah<|?_;refine w_lp (ι:=Nat) (λ(j:Nat)=>[(7,iv (Ff (xSv es[kAt (By es) n]) ⟨#[]⟩ ((B6 a es[kAt (By es) n]).take j) n).1),(8,sv (Ff (xSv es[kAt (By es) n]) ⟨#[]⟩ ((B6 a es[kAt (By es) n]).take j) n).2),(9,iv (j:Int))]++rn' 34 39) (λ(j:Nat)=>[]) (λ(j:Nat)=>j<=(B6 a es[kAt (By es) n]).length) (λ(j:Nat)=>(B6 a es[kAt (By es) n]).length-j) (0) (by exact Nat.zero_le _) ?_;rintro j hi2;try simp only[sm',Nat.reduceAdd]
  replace hi2:j<=(B6 a es[kAt (By es) n]).length:=hi2;have hxl:=G1 (rl:=a) (x:=es[kAt (By es) n]);refine Ab<|wm<|Vw (Cj lk dp3)<|Vw (Ba lk gt)<|mw<|?_;refine V' (Bh (k:=kAt (By es) n) lk lk Kq nb ro om ro rfl) pt ?_;refine V' (Ba lk gt) pt ?_;refine V' ((by first | exact Bf lk | exact Ej lk)) pt ?_;refine Vw (Bm lk lk)<|sn'<|?_;refine cd' lk (λhc2=>?_) (λhc2=>?_)
  .have hj:j<(B6 a es[kAt (By es) n]).length:=by omega
   have hpk:=Kl ((B6 a es[kAt (By es) n]).take j) (B6 a es[kAt (By es) n])[j] (xSv es[kAt (By es) n]) ⟨#[]⟩ n;rw[<-List.take_succ_eq_append_getElem hj] at hpk;refine za<|Ab<|Ah<|wr'<|Vw (Cj lk dp3)<|Vw (Ba lk gt)<|mw<|?_;refine V' (Bh (k:=kAt (By es) n) lk lk Kq nb ro om ro rfl) pt ?_;refine Vw (Ba lk gt)<|mw<|?_;refine V' (Bh lk lk Iy nb ro om ro rfl) pt ?_;refine Vw (Cj lk dp0)<|Vw (Ba lk gt)<|mw<|Vw (Gy lk lk)<|sn'<|?_;refine cd' lk (λhc3=>?_) (λhc3=>?_)
   .rw[if_pos hc3] at hpk;refine Bl<|Dw (Cj lk dp3)<|Dw (Ba lk gt)<|Dw vm<|?_;refine D' (Bh lk lk (λ_=>rfl) nb ro om ro rfl) pt ?_;refine Dw (Ba lk gt)<|Dw vm<|?_;refine D' (Bh lk lk Iy nb ro om ro rfl) pt ?_;refine Dw (Cj lk dp1)<|Dw (Ba lk gt)<|Dw (Cj lk dp3)<|Dw (Ba lk gt)<|Dw vm<|?_;refine D' (Bh lk lk (λ_=>rfl) nb ro om ro rfl) pt ?_;refine Dw (Ba lk gt)<|Dw vm<|?_;refine D' (Bh lk lk Iy nb ro om ro rfl) pt ?_;refine Dw (Cj lk dp2)<|Dw (Ba lk gt)<|Dw vm<|Dw vm<|Bi<|?_;refine B9 ?_;refine Am<|Aw<|An<|Aq<|mw<|?_;refine ad<|mw<|Am<|Az<|?_;refine lU' (j+1) (by (try dsimp only);omega) (by refine zz ?_;exact ALe.same (by repeat (first | exact wk0 | refine wka ?_ | refine wk1 rfl ?_ | refine wk1 (by first | rfl | exact ivx om | (rw[hpk])) ?_)) rfl)
   rw[if_neg hc3] at hpk;refine Be<|Aw<|An<|Aq<|mw<|?_;refine ad<|mw<|Am<|Az<|?_;refine lU' (j+1) (by (try dsimp only);omega) (by refine zz ?_;exact ALe.same (by repeat (first | exact wk0 | refine wka ?_ | refine wk1 rfl ?_ | refine wk1 (by first | rfl | exact ivx om | (rw[hpk])) ?_)) rfl)
  rw[List.take_of_length_le (show (B6 a es[kAt (By es) n]).length<=j by omega)];have hpb:=R7 (l:=B6 a es[kAt (By es) n]) (at_:=n) (λt ht=>(Nf ht).2) hx.sv (show (⟨#[]⟩:ByteArray).size<=24 by decide);have hsh : -64800<=es[kAt (By es) n].1/\es[kAt (By es) n].1<=64800:=hx.sh;have hTG:=bZ (rl:=a) (a:=n) hkl;refine Bd<|As<|As<|Bp<|An<|Ab<|Bl<|dg<|Dw (Aa lk gx gt0)<|Dw vm<|?_;refine D' (Du lk lk om om) pt ?_;refine Dw vm<|dg<|Dw (Aa lk gx gt3)<|Dw vm<|Dw vm<|?_;refine Br mp (λhE hX=>Zx hx.fm hpb.2 hpb.1.1) pt ?_;refine Dw (Bb (Dq cw cw cw))<|Bi<|?_;refine B9 ?_;refine E' (Ai lk cv gx rfl nb rfl Bo hs1) ptn<|sr<|Ad (rs1 (rr_c gt gx (ld1 Ap rfl)))<|rT'<|?_;rw[hTG];rfl
 have hie:i=kAt (By es) n:=by omega
 have hx:=lW hz (List.getElem_mem hkl);subst hie;refine so<|so<|so<|so<|so<|so<|so<|Vw (Ao lk lkb)<|sn'<|Cf lk<|Bd<|As<|As<|?_;refine Bp<|An<|wr'<|Vw (Cj lk dp0)<|Vw (Cj lk dp1)<|Vw (Ba lk gt)<|mw<|?_;refine V' (Bh (k:=kAt (By es) n) lk lk F5 nb ro om ro rfl) pt ?_;refine Vw (Ax lk Fx rfl)<|E' (Bz hl2 ha2) pt<|E' (Ai lk cv gx rfl nb rfl Gc hs2) ptn<|sn'<|wr'<|fq<|Vw (Aa lk gx gt2)<|mw<|ms<|Ab<|?_;refine wk'<|Ah<|?_;refine w_lp (ι:=Nat) (λ(j:Nat)=>[(7,iv (Ff (xSv es[kAt (By es) n]) ⟨#[]⟩ ((B6 a es[kAt (By es) n]).take j) n).1),(8,sv (Ff (xSv es[kAt (By es) n]) ⟨#[]⟩ ((B6 a es[kAt (By es) n]).take j) n).2),(9,iv (j:Int))]++rn' 34 39) (λ(j:Nat)=>[]) (λ(j:Nat)=>j<=(B6 a es[kAt (By es) n]).length) (λ(j:Nat)=>(B6 a es[kAt (By es) n]).length-j) (0) (by exact Nat.zero_le _) ?_;rintro j hi2;try simp only[sm',Nat.reduceAdd]
 replace hi2:j<=(B6 a es[kAt (By es) n]).length:=hi2;have hxl:=G1 (rl:=a) (x:=es[kAt (By es) n]);refine Ab<|wm<|Vw (Cj lk dp3)<|Vw (Ba lk gt)<|mw<|?_;refine V' (Bh (k:=kAt (By es) n) lk lk Kq nb ro om ro rfl) pt ?_;refine V' (Ba lk gt) pt ?_;refine V' ((by first | exact Bf lk | exact Ej lk)) pt ?_;refine Vw (Bm lk lk)<|sn'<|?_;refine cd' lk (λhc2=>?_) (λhc2=>?_)
 .have hj:j<(B6 a es[kAt (By es) n]).length:=by omega
  have hpk:=Kl ((B6 a es[kAt (By es) n]).take j) (B6 a es[kAt (By es) n])[j] (xSv es[kAt (By es) n]) ⟨#[]⟩ n;rw[<-List.take_succ_eq_append_getElem hj] at hpk;refine za<|Ab<|Ah<|wr'<|Vw (Cj lk dp3)<|Vw (Ba lk gt)<|mw<|?_;refine V' (Bh (k:=kAt (By es) n) lk lk Kq nb ro om ro rfl) pt ?_;refine Vw (Ba lk gt)<|mw<|?_;refine V' (Bh lk lk Iy nb ro om ro rfl) pt ?_;refine Vw (Cj lk dp0)<|Vw (Ba lk gt)<|mw<|Vw (Gy lk lk)<|sn'<|?_;refine cd' lk (λhc3=>?_) (λhc3=>?_)
  .rw[if_pos hc3] at hpk;refine Bl<|Dw (Cj lk dp3)<|Dw (Ba lk gt)<|Dw vm<|?_;refine D' (Bh lk lk (λ_=>rfl) nb ro om ro rfl) pt ?_;refine Dw (Ba lk gt)<|Dw vm<|?_;refine D' (Bh lk lk Iy nb ro om ro rfl) pt ?_;refine Dw (Cj lk dp1)<|Dw (Ba lk gt)<|Dw (Cj lk dp3)<|Dw (Ba lk gt)<|Dw vm<|?_;refine D' (Bh lk lk (λ_=>rfl) nb ro om ro rfl) pt ?_;refine Dw (Ba lk gt)<|Dw vm<|?_;refine D' (Bh lk lk Iy nb ro om ro rfl) pt ?_;refine Dw (Cj lk dp2)<|Dw (Ba lk gt)<|Dw vm<|Dw vm<|Bi<|?_;refine B9 ?_;refine Am<|Aw<|An<|Aq<|mw<|?_;refine ad<|mw<|Am<|Az<|?_;refine lU' (j+1) (by (try dsimp only);omega) (by refine zz ?_;exact ALe.same (by repeat (first | exact wk0 | refine wka ?_ | refine wk1 rfl ?_ | refine wk1 (by first | rfl | exact ivx om | (rw[hpk])) ?_)) rfl)
  rw[if_neg hc3] at hpk;refine Be<|Aw<|An<|Aq<|mw<|?_;refine ad<|mw<|Am<|Az<|?_;refine lU' (j+1) (by (try dsimp only);omega) (by refine zz ?_;exact ALe.same (by repeat (first | exact wk0 | refine wka ?_ | refine wk1 rfl ?_ | refine wk1 (by first | rfl | exact ivx om | (rw[hpk])) ?_)) rfl)
 rw[List.take_of_length_le (show (B6 a es[kAt (By es) n]).length<=j by omega)];have hpb:=R7 (l:=B6 a es[kAt (By es) n]) (at_:=n) (λt ht=>(Nf ht).2) hx.sv (show (⟨#[]⟩:ByteArray).size<=24 by decide);have hsh : -64800<=es[kAt (By es) n].1/\es[kAt (By es) n].1<=64800:=hx.sh;have hTG:=bZ (rl:=a) (a:=n) hkl;refine Bd<|As<|As<|Bp<|An<|Ab<|Bl<|dg<|Dw (Aa lk gx gt0)<|Dw vm<|?_;refine D' (Du lk lk om om) pt ?_;refine Dw vm<|dg<|Dw (Aa lk gx gt3)<|Dw vm<|Dw vm<|?_;refine Br mp (λhE hX=>Zx hx.fm hpb.2 hpb.1.1) pt ?_;refine Dw (Bb (Dq cw cw cw))<|Bi<|?_;refine B9 ?_;refine E' (Ai lk cv gx rfl nb rfl Bo hs1) ptn<|sr<|Ad (rs1 (rr_c gt gx (ld1 Ap rfl)))<|rT'<|?_;rw[hTG];rfl
end
section
open Go.Ab Go.RowKit Civ
attribute [local simp] Eb Fi E5 Dn Cp Gw Ix Gv
def iW {p:Era->Int}{l:List Era}(h : ∀ y∈l,p y=0):Dc p l=0:=by
 rw[U8,List.find?_eq_none.2 (λy hy=>by simp[h y hy])]
end
section
open Go.Ab Go.RowKit Civ
def txtS:Bs:=[82,117,108,101,32,101,117,32,49,57,56,49,32,109,97,120,32,77,97,114,32,108,97,115,116,83,117,110,32,49,58,48,48,117,32,49,58,48,48,32,83,10,82,117,108,101,32,101,117,32,49,57,57,54,32,109,97,120,32,79,99,116,32,108,97,115,116,83,117,110,32,49,58,48,48,117,32,48,32,45,10,90,111,110,101,32,72,101,114,101,47,84,111,119,110,32,48,58,49,48,32,45,32,76,77,84,32,49,56,56,48,32,74,97,110,32,49,32,48,10,32,32,49,58,48,48,32,101,117,32,67,69,37,115,84,10,76,105,110,107,32,72,101,114,101,47,84,111,119,110,32,79,108,100,10]
def nEu:ByteArray:=bA [101,117]
def nHt:ByteArray:=bA [72,101,114,101,47,84,111,119,110]
def nOld:ByteArray:=bA [79,108,100]
def rul0:List Rul:=[(nEu,1981,2100,3,(2,0,0),3600,3,3600,bA [83]),(nEu,1996,2100,10,(2,0,0),3600,3,0,bA [])]
def era0:Era:=(600,bA [],0,bA [76,77,84],false,((1880,1,1),0,2))
def era1:Era:=(3600,nEu,0,bA [67,69,37,115,84],true,((0,0,0),0,0))
def src0:Src:=(rul0,[(nHt,[era0,era1])],[(nHt,nOld)])
def Wh (l:List Bs):AV:=.sl l.length 1 false (l.map λb=>sv (bA b))
def splV:AV:=.tup [.sl 5 3 false [iv 1,bv false,Wh [[82,117,108,101],[101,117],[49,57,56,49],[109,97,120],[77,97,114],[108,97,115,116,83,117,110],[49,58,48,48,117],[49,58,48,48],[83]],iv 2,bv false,Wh [[82,117,108,101],[101,117],[49,57,57,54],[109,97,120],[79,99,116],[108,97,115,116,83,117,110],[49,58,48,48,117],[48],[45]],iv 3,bv false,Wh [[90,111,110,101],[72,101,114,101,47,84,111,119,110],[48,58,49,48],[45],[76,77,84],[49,56,56,48],[74,97,110],[49],[48]],iv 4,bv true,Wh [[49,58,48,48],[101,117],[67,69,37,115,84]],iv 5,bv false,Wh [[76,105,110,107],[72,101,114,101,47,84,111,119,110],[79,108,100]]],iv 0,iv 0]
def spl_ev:evF Tryz.prog noO 1000 20 118 [sv (bA txtS)] []=some (.ret splV,[]):=by kernel_rfl
def prs_ev:evF Tryz.prog (orc 118 [sv (bA txtS)] splV) 1000 20 67 [sv (bA txtS)] []=some (.ret (.tup [.agg (srcC src0),iv 0,iv 0]),[]):=by kernel_rfl
def rp_txt :Ac 67 [sv (bA txtS)] h (.tup [.agg (srcC src0),iv 0,iv 0]) :=
 ACalls.ev 1000 20 (Ek λh=>ACalls.ev 1000 20 noO_ok spl_ev) prs_ev
end
section
open Go.Ab Go.RowKit Civ
attribute [local simp] Eb Fi E5 Dn Cp Gw Ix Gv
def k27:=Kx 27 []
def Ru:Sb src0:=by
 refine⟨λr hr=>?_,λz hz=>?_,λl hl=>?_⟩
 .simp only[src0,rul0,List.mem_cons,List.not_mem_nil,or_false] at hr;rcases hr with rfl | rfl <;> exact⟨by decide,by decide⟩
 .simp only[src0,List.mem_cons,List.not_mem_nil,or_false] at hz;subst hz;refine⟨by decide,λx hx=>?_⟩;simp only[List.mem_cons,List.not_mem_nil,or_false] at hx;rcases hx with rfl | rfl <;> exact⟨by decide,by decide⟩
 simp only[src0,List.mem_cons,List.not_mem_nil,or_false] at hl;subst hl;exact⟨by decide,by decide⟩
def gG :Ac 27 [] h (.agg (srcC src0)):=by
 refine tI' k27 λN hn _ _ hbd=>?_;simp only[tb'] at hbd ⊢;refine wr'<|E' (Bz hl0 ha0) pt<|sn'<|wr'<|Af mp (rp_txt) pt<|mw<|Vw (B7 lk gt)<|Vw (B7 lk gt)<|Vw (B7 lk gt)<|E' (Bz hl1 ha1) pt<|E' (Ai lk cv gx rfl nb rfl Bo hs1) ptn<|?_;exact mw<|ms<|wr'<|Vw (Ak lk gx Ap rfl)<|E' (Ai lk cv gx rfl nb rfl Bo hs0) ptn<|sr<|Ad (rs1 (rr_c gt gx (ld1 Ap rfl)))<|rT' rfl
def insT (t:Trn):List Trn->List Trn
 | []=>[t]
 | u::l=>if t.1<=u.1 then t::u::l else u::insT t l
def insS:List Trn->List Trn
 | []=>[]
 | t::l=>insT t (insS l)
def Tx (t:Trn) : ∀ l:List Trn,(insT t l).Perm (t::l)
 | []=>.refl _
 | u::l=>by
  rw[insT];split
  .exact .refl _
  exact ((Tx t l).cons u).trans (List.Perm.swap t u l)
def aQ : ∀ l:List Trn,(insS l).Perm l
 | []=>.refl _
 | t::l=>(Tx t _).trans ((aQ l).cons t)
def iI {t:Trn} : ∀ {l:List Trn},l.Pairwise (λa b=>a.1<=b.1)->(insT t l).Pairwise λa b=>a.1<=b.1
 | [],_=>by simp[insT]
 | u::l,h=>by
  rw[insT];rw[List.pairwise_cons] at h;split
  .rename_i hle;refine List.pairwise_cons.2 ⟨λx hx=>?_,List.pairwise_cons.2 h⟩;rcases List.mem_cons.1 hx with rfl | hx
   .exact hle
   have:=h.1 x hx;omega
  rename_i hle;refine List.pairwise_cons.2 ⟨λx hx=>?_,iI h.2⟩;rcases List.mem_cons.1 ((Tx t l).mem_iff.1 hx) with rfl | hx
  .omega
  exact h.1 x hx
def iJ : ∀ l:List Trn,(insS l).Pairwise λa b=>a.1<=b.1
 | []=>.nil
 | t::l=>iI (iJ l)
def Kr (l:List Rul) (nm:ByteArray) (sh:Int):List Tim×Int :=
 if Hn l nm sh≠0 then ([],Hn l nm sh) else if gapB (insS (C5 l nm))=true then ([],4) else if 1000<(insS (C5 l nm)).length then ([],2) else (outV sh 0 (insS (C5 l nm)),0)
def cA (l:List Rul) (nm:ByteArray) (sh:Int):Cv l nm sh=Kr l nm sh:=by
 unfold Kr;by_cases h:Hn l nm sh=0
 .rw[if_neg (by simp[h]),Ws h (aQ _) (iJ _)]
 rw[if_pos h,Kh h]
def tim0_err:(Kr rul0 nEu 3600).2=0:=by kernel_rfl
def chk0:Dh src0=0:=by
 have h1:Gx src0=0:=by kernel_rfl
 have h2:(G7 src0.2.1 src0.2.2).Nodup:=by decide
 have h3:Om src0=false:=by kernel_rfl
 have h4:Dc (errX src0.1) (Gq src0.2.1)=0:=by
  refine iW λy hy=>?_;simp only[src0,Gq,List.flatMap_cons,List.flatMap_nil,List.append_nil,List.mem_cons,List.not_mem_nil,or_false] at hy;rcases hy with rfl | rfl
  .rfl
  show (if nEu=⟨#[]⟩ then 0 else (Cv rul0 nEu 3600).2)=0;rw[cA,tim0_err];split <;> rfl
 have h5:(src0.2.1.any λz=>!risL (By z.2))=false:=by kernel_rfl
 unfold Dh;rw[if_neg (by simp[h1]),if_neg (by simpa using h2),if_neg (by simp[h3]),if_neg (by simp[h4]),if_neg (by simp[h5])]
end
section
open Go.Ab Go.RowKit Civ
attribute [local simp] Eb Fi E5 Dn Cp Gw Ix Gv
def find0:Fg src0 nOld=((nHt,[era0,era1]),0):=by
 unfold Fg;rw[if_neg (by simp[chk0])];kernel_rfl
end
section
open Go.Ab Civ
def lU:List Chg:=cutV (eraG era0 tMin []) (endV era0)++eraG era1 (endV era0) (Kr rul0 nEu 3600).1
def sU:Cq rul0 tMin none [era0,era1]=lU:=by
 have e0:B6 rul0 era0=[]:=if_pos (by decide);have e1:B6 rul0 era1=(Kr rul0 nEu 3600).1:=by
  unfold B6;rw[if_neg (by decide),cA];rfl
 rw[Cq,Cq,e0,e1,if_neg (by decide)];unfold lU;rw[show Dz none tMin=tMin from rfl,show Dz (some (endV era0)) tMin=endV era0 from by decide]
def tab0:Tab:=stV (inP lU)
def tab0_len:tab0.2.length=211:=by kernel_rfl
def tab0_ok1:locE tab0.1=0:=by kernel_rfl
def tab0_ok2:D4 tab0.2=0:=by kernel_rfl
def table0:H9 rul0 [era0,era1]=tab0:=by
 have:=Tj (s:=src0) (z:=(nHt,[era0,era1])) chk0 (by simp[src0]);have e:stV (inP (Cq rul0 tMin none [era0,era1]))=H9 rul0 [era0,era1]:=this;rw[<-e,sU];rfl
def of0:ofV src0 (nHt,[era0,era1])=(tab0,0):=by
 unfold ofV;show tabR (H9 rul0 [era0,era1])=_;rw[table0];unfold tabR;rw[if_neg (by rw[tab0_ok1];simp),if_neg (by rw[tab0_ok2];simp),if_neg (by rw[tab0_len];decide)]
def comp0:Ym src0 nOld=(tab0,0):=by
 unfold Ym;rw[find0,if_neg (by simp),of0]
def chkT0:Bw tab0=0:=by
 have h:=Rr (rl:=rul0) (es:=[era0,era1]) (by
  have:=congrArg Prod.snd of0;exact this)
 rwa [table0] at h
def cC:Md Cs 100=(7200,3600,⟨#[66]⟩):=by kernel_rfl
def cB:Md Cs 99=(3600,0,⟨#[65]⟩):=by kernel_rfl
def Nq:Bw Cs=0:=by kernel_rfl
end
section
open Go.Ab Civ
attribute [local simp] Eb Fi E5 Dn Gv Gw Cp
def c66:AC:=(Sr [Oo 2 (.box 72 3 (t 0)),Oo 3 (.box 115 2 (t 1)),Oo 4 (.new 30 4 [(iv 0),(iv 0),Ss,nl]),Mc 5 0] (Sr [Oo 10 (.build [(iv 0),(iv 0),Ss,nl] []),Oo 11 (.box 179 4 (t 10)),Mv 6 11] (.seq (Sd [Oo 12 (.load true 3 (t 2)),Oo 13 (.load true 2 (t 3)),Cl 14 76 [],Cl 15 115 [(t 12),(t 13),(t 14)],Oo 16 (.len false (t 15)),Mc 17 0] (.block 0 (.loop (Sr [Bn 18 .lss 17 16] (.seq (Cd 18 .skip (.exit 0)) (.seq (.block 1 (Sr [Mv 19 17,Oo 20 (.ia 4 (t 15) (t 17)),Oo 21 (.load true 4 (t 20)),Oo 8 (.new 183 4 [(iv 0),(iv 0),(iv 0),Ss]),Mv 7 19,⟨none,none,(.store 4 (t 8) (t 21))⟩] (.seq (Sd [Fa 22 0 8,Ld 23 22,Cl 24 116 [],Bn 25 .gtr 23 24] (Cd 25 (.exit 0) .skip)) (.seq (Sr [Fa 26 1 8,Oo 27 (.load true 3 (t 26)),Cl 28 75 [(t 27)],Mv 9 28] (Sr [Mv 29 9,Bc 30 .neq 29 0] (Cd 30 (Sr [Oo 31 (.build [(iv 0),(iv 0),Ss,nl] []),Mv 32 9,⟨none,none,(.store 4 (t 4) (t 31))⟩,Mv 5 32] .ret) .skip))) (.block 2 (Sr [Mv 34 7,Bc 35 .eql 34 0,Mv 33 35] (Cd 33 (.reg [Mv 36 6,Fa 37 1 8,Oo 38 (.load true 3 (t 37)),Nk 39 36,Fa 40 0 39,Fa 41 0 40,⟨none,none,(.store 3 (t 41) (t 38))⟩]) (.seq (.orPan (.drw [Fa 43 1 8,Oo 44 (.loadR true 3 (t 43)),Mv 45 6] [true,false,false] [Cl 46 117 [(t 45)],Oo 47 (.eqs true [.int,.int,.str] (t 44) (t 46)),Mv 42 47]) (t 45) 117 [Fa 43 1 8,Oo 44 (.load true 3 (t 43)),Mv 45 6,Mv 46 45,Mb 47 false,Mb 42 false] 46) (Cd 42 (.drw [Mv 48 6,Mv 49 6,Nk 50 49,Fa 51 0 50,Fa 52 3 51,Ld 53 52,Fa 54 0 8,Ld 55 54,Fa 56 1 8,Oo 57 (.load true 3 (t 56)),Oo 58 (.build [(iv 0),(iv 0),(iv 0),Ss] [(0,(1,(t 55))),(1,(3,(t 57)))]),Oo 59 (.lit 86 4 1 [(iv 0),(iv 0),(iv 0),Ss] [(0,(4,(t 58)))])] [false,false,false,false,false] [Oo 60 (.app 86 4 40 (t 53) (t 59)),Nk 61 48,Fa 62 0 61,Fa 63 3 62,Sc 63 60]) .skip))))))))) (.reg [Bc 64 .add 17 1,Mv 17 64]))))))) (.seq (Sr [Mv 65 6,Nk 66 65,Fa 67 0 66,Fa 68 3 67,Ld 69 68,Oo 70 (.len false (t 69)),Bc 71 .gtr 70 1000] (Cd 71 (Sr [Oo 72 (.build [(iv 0),(iv 0),Ss,nl] []),⟨none,none,(.store 4 (t 4) (t 72))⟩,Mc 5 2] .ret) .skip)) (Sr [Mv 73 6,Nk 74 73,Fa 75 0 74,Oo 76 (.load true 4 (t 75)),⟨none,none,(.store 4 (t 4) (t 76))⟩,Mc 5 0] .ret)))))
def k66:Em Tryz.prog 66=some ⟨c66,[(.cell 4 true 4),(.tmp 5)],77⟩:=by kernel_rfl
def k33:=Kx 33 []
def last_eq : ∀ (F:Loc) (l:List Chg),I5 F l=Ux F l
 | F,[]=>rfl
 | F,c::l=>by
  rw[P3 (l:=c::l) (by simp)];unfold I5;rw[List.getLast?_eq_getElem?,List.getElem?_eq_getElem (by simp)];rfl
def tN {ps:List Chg}(hi:i<ps.length) (h1 : ∀ c∈ps.take i,c.1<=tMax) (h2:ps[i].1<=tMax) (h3:D4 (ps.take i)=0) (h4:locE ps[i].2≠0):D4 (inP ps)=locE ps[i].2:=by
 have e:inP ps=(ps.take i++[ps[i]])++inP (ps.drop (i+1)):=by
  conv=>lhs;rw[<-List.take_append_drop i ps]
  unfold inP;rw[List.takeWhile_append_of_pos (λc hc=>by have:=h1 c hc;simpa using this),List.drop_eq_getElem_cons hi,List.takeWhile_cons,if_pos (by simpa using h2),List.append_assoc];rfl
 have h5:=Pz (c:=ps[i]) h3;rw[e,Tt (by rw[h5];exact h4),h5]
def mlast_o {F:Loc}{l:List Chg}{id q v0 ver ty2:Nat}(h1:h[id]?=some (.mk v0 ty 4 [iv F.1,iv F.2.1,sv F.2.2,.own q ver l.length])) (h2:h[q]?=some (.mk ver ty2 4 (rows chgC l))) (hl:l.length<=9223372036854775807) :
  Ac 117 [.ptr id v0 0] h (.agg [iv (I5 F l).1,iv (I5 F l).2.1,sv (I5 F l).2.2]):=by
 have hid:id<h.length:=(List.getElem?_eq_some_iff.1 h1).1;rw[last_eq];refine tI' k117 λN hn _ _ hbd=>?_;simp only[tb'] at hbd ⊢;refine wr'<|E' (Bz hl0 ha0) pt<|sn'<|Ab<|wm<|Vw (Cr lk)<|fq<|fq<|Vw (Aa lk (Ez h1) gt3)<|Vw (Ej lk)<|?_;refine ms<|wm<|Vw (C7 lk lki)<|sn'<|?_;refine cd' lk (λhc1=>?_) (λhc1=>?_)
 .have hl0:0<l.length:=by omega
  refine wm<|Vw (Cr lk)<|fq<|fq<|Vw (Aa lk (Ez h1) gt3)<|mw<|?_;refine V' (Ch lk lki om om) pt ?_;refine V' (Ck (k:=l.length-1) lk lk (Ez h2) Cg nb ro om (by first | rfl | (simp;done) | omega)) pt ?_;refine V' (Df lk) pt ?_;refine V' (nR lk (Ez h2) Cg om nb Dj rfl) pt ?_;refine E' (Ai lk cv gx rfl nb rfl Bo hs0) ptn<|sr<|Ag<|Ad (rs1 (rr_c gt gx (ld1 Ap rfl)))<|rT'<|?_;rw[P3 hl0]
 have hl0:l=[]:=List.eq_nil_of_length_eq_zero om;refine za<|wm<|Vw (Cr lk)<|fq<|fq<|Vw (Ak lk (Ez h1) Ap rfl)<|E' (Ai lk cv gx rfl nb rfl Bo hs0) ptn<|sr<|Ad (rs1 (rr_c gt gx (ld1 Ap rfl)))<|?_;refine rT' ?_;subst hl0;rfl
def mlast_r {F:Loc}{l:List Chg}{id q v0 ver ty2:Nat}(h1:h[id]?=some (.mk v0 ty 4 [iv F.1,iv F.2.1,sv F.2.2,.own q ver l.length])) (h2:h[q]?=some (.mk ver ty2 4 (rows chgC l))) (hl:l.length<=9223372036854775807) :
  ACalls Tryz.prog 117 [.ptr id v0 0] h λx h'=>x=.ret (.agg [iv (I5 F l).1,iv (I5 F l).2.1,sv (I5 F l).2.2])/\h'=h:=(mlast_o h1 h2 hl).mono λ_ _ e=>⟨e.2,e.1⟩
def aG (fm lt:ByteArray) (sa:Int):(J9 fm lt sa).size<=2*fm.size+lt.size:=by
 unfold J9;have h1:=Sx (s:=fm) (p:=[47]);have h2:=Sx (s:=fm) (p:=[37,115]);have e:(aB lt).length=lt.size:=rfl;split
 .split <;> (rw[Qb];omega)
 split
 .rw[Qb,List.length_append,List.length_append,e];omega
 omega
def Z9 {rl:List Rul}{f:Int} : ∀ (es:List Era) (prev:Option Int),(Cq rl f prev es).length<=1001*es.length
 | [],_=>by simp[Cq]
 | [x],prev=>by
  have h1:=Ox (x:=x) (b:=Dz prev f) (B6 rl x);have h2:=G1 (rl:=rl) (x:=x);rw[Cq,List.length_singleton];omega
 | x::y::es,prev=>by
  have h1:=Ox (x:=x) (b:=Dz prev f) (B6 rl x);have h2:=G1 (rl:=rl) (x:=x);have h3:=jJ (eraG x (Dz prev f) (B6 rl x)) (endV x);have h4:=Z9 (rl:=rl) (f:=f) (y::es) (some (endV x));rw[Cq,List.length_append,List.length_cons];split
  .rw[List.length_nil];omega
  omega
def dZ {rl:List Rul}{x:Era}{b:Int}(hx:E0 (xFm x)=true) : ∀ c∈eraG x b (B6 rl x),c.2.2.2.size<=72:=by
 have hf:=Ou hx;intro c hc;rcases List.mem_cons.1 hc with rfl | hc
 .have key : ∀ (l:List Tim) (sa:Int) (lt:ByteArray),(∀ t∈l,t.2.2.size<=24)->lt.size<=24->(Ff sa lt l b).2.size<=24:=by
   intro l;induction l with
   | nil=>intro _ _ _ h;exact h
   | cons t l ih =>
    intro sa lt hl h
    rw[Ff]
    split
    .exact ih _ _ (λu hu=>hl u (by simp[hu])) (hl t (by simp))
    exact ih _ _ (λu hu=>hl u (by simp[hu])) h
  have:=key (B6 rl x) (xSv x) ⟨#[]⟩ (λt ht=>(Nf ht).2.2) (by decide);have h2:=aG (xFm x) (Ff (xSv x) ⟨#[]⟩ (B6 rl x) b).2 (Ff (xSv x) ⟨#[]⟩ (B6 rl x) b).1;show (J9 _ _ _).size<=72;omega
 obtain⟨t,ht,rfl⟩:=List.mem_map.1 hc;have h3:=(Nf (List.mem_filter.1 ht).1).2.2;have h2:=aG (xFm x) t.2.2 t.2.1;show (J9 _ _ _).size<=72;omega
def gF {rl:List Rul}{f:Int} : ∀ {es:List Era}{prev:Option Int},(∀ x∈es,E0 (xFm x)=true) -> ∀ c∈Cq rl f prev es,c.2.2.2.size<=72
 | [],_,_,c,h=>by cases h
 | [x],prev,hx,c,h=>dZ (hx x (by simp)) c h
 | x::y::es,prev,hx,c,h=>by
  rw[Cq] at h;rcases List.mem_append.1 h with h | h
  .split at h
   .cases h
   exact dZ (hx x (by simp)) c ((List.takeWhile_sublist _).subset h)
  exact gF (λz hz=>hx z (by simp[hz])) c h
def ofP (a:List Rul) (es:List Era):Tab×Int:=tabR (stV (inP (Cq a tMin none es)))
def Mh {e:AV}:Wk (.tup [.agg [.v (.int .i64 0),.v (.int .i64 0),.v (.string ⟨#[]⟩),.sl 0 0 true []],e]) (.tup [tabA Ga,e]):=Wk.tup (wkw (Wk.agg (wk1 rfl (wk1 rfl (wk1 rfl (wkw Wk.nilF wk0))))) (wk1 rfl wk0))
def tof_a {a:List Rul}{nm:ByteArray}{es:List Era}(hok:okRs a) (ha:a.length<=9223372036854775807) (hz:okZ es) (hne:inP (Cq a tMin none es)≠[]) :
  Ac 66 [.agg (srcB a z k),.agg [sv nm,.sl es.length 10 false (rows eraC es)]] h (.tup [tabA (ofP a es).1,iv (ofP a es).2]):=by
 have hlen:=hz.len;have hpl:=Z9 (rl:=a) (f:=tMin) es none;have hps:=gF (rl:=a) (f:=tMin) (prev:=none) (es:=es) (λx hx=>(hz.fm x hx).1);have hO:ofP a es=_:=tabR_st (.inr hne);have hparts : ∀ h:AH,ACalls Tryz.prog 115 [.agg (srcB a z k),.agg [sv nm,.sl es.length 10 false (rows eraC es)],iv tMin] h λy h'=>h'=h/\y=.ret (.sl (Cq a tMin none es).length 4 false (rows chgC (Cq a tMin none es))):=λh=>parts_a hok ha hz (by decide);generalize Cq a tMin none es=ps at hpl hps hne hO hparts;refine tW' k66 λN hn hlt _ hbd=>?_;simp only[tb'] at hbd ⊢;refine wr'<|E' (Bq cv rfl hl0 ha0) pt<|E' (Bq cv rfl hl1 ha1) pt<|E' (Bz hl2 ha2) pt<|ms<|wr'<|Vw (Bb B5)<|E' (Bq cv rfl hl3 ha3) pt<|mw<|Am<|?_;refine An<|Ab<|Ab<|Bl<|Dw (Ak lk gx Ap rfl)<|Dw (Ak lk gx B1 rfl)<|?_;refine Br mp0 (λhE hX=>dJ) pt ?_;refine Br mp (λhE hX=>hparts _) pt ?_;refine Dw (Bf lk)<|Dw (v_mv lki)<|Bi<|?_;refine B9 ?_;refine Am ?_;refine B0 (ALe.own0Cell (st':=4) (ty:=86) gx gt3 hl4 pt3 (Eq.trans (congrArg (λz=>List.set z _ _) ha4) hs3)) ?_;refine Ah ?_;refine w_lp (ι:=Nat×Nat) (λ⟨i,v⟩=>[(17,iv (i:Int)),(5,.any)]++rn' 7 3++rn' 18 47) (λ⟨i,v⟩=>[(3,.mk 0 179 4 [iv (stV (ps.take i)).1.1,iv (stV (ps.take i)).1.2.1,sv (stV (ps.take i)).1.2.2,.own (N+4) v (stV (ps.take i)).2.length]),(4,.mk v 86 4 (rows chgC (stV (ps.take i)).2))]) (λ⟨i,v⟩=>i<=ps.length/\(∀ c∈ps.take i,c.1<=tMax)/\D4 (ps.take i)=0) (λ⟨i,v⟩=>ps.length-i) (⟨0,0⟩) (by exact⟨Nat.zero_le _,⟨λc hc=>(by cases hc),rfl⟩⟩) ?_;rintro⟨i,v⟩ hi1;try simp only[sm',Nat.reduceAdd]
 obtain⟨hi1,hi2,hi3⟩:=hi1;refine wr'<|Vw (Bm lk lk)<|sn'<|Ab<|?_;refine cd' lk (λhc1=>?_) (λhc1=>?_)
 .have hi:i<ps.length:=by omega
  have hsz:=hps _ (List.getElem_mem hi);have hsl:=oG (ps.take i);rw[List.length_take] at hsl;have htk:=List.take_succ_eq_append_getElem hi;refine za<|Ab<|Ah<|wm<|?_;refine V' (Bh lk lk Cg nb ro om ro rfl) pt ?_;refine Vw (Ax lk Bv rfl)<|E' (Bz hl5 ha5) pt<|mw<|E' (Ai lk cv gx rfl nb rfl Ay hs5) ptn<|sn'<|Ab<|Ab<|Bl<|dg<|Dw (Aa lk gx gt0)<|?_;refine Br mp0 (λhE hX=>most_a) pt ?_;refine Dw (C7 lk lk)<|Bi<|?_;refine B9 ?_;refine sn' ?_;refine cd' lk (λhc2=>?_) (λhc2=>?_)
  .have hP:inP ps=ps.take i:=iM hi2 (λhh=>by simp only[tMax];omega);refine Bd<|As<|x_pas (Nat.ne_of_beq_eq_false rfl)<|As<|As<|Bp<|An<|Ab<|wm<|Vw (Cr lk)<|fq<|fq<|?_;refine Vw (Aa lk gx gt3)<|Vw (Ej lk)<|Vw (C7 lk lki)<|sn'<|?_;refine cd' lk (λhc6=>?_) (λhc6=>?_)
   .rw[hP,hi3,if_neg (by simp),if_pos om] at hO;refine wr'<|Vw (Bb B5)<|E' (Ai lk cv gx rfl nb rfl Ay hs2) ptn<|mr<|Ag<|Ad (rsn (rm1 (rr_c gt gx (ld1 Av rfl)) (rm1 (rr_t gt) rm0)))<|rtW'<|?_;rw[hO];exact Mh
   rw[hP,hi3,if_neg (by simp),if_neg om] at hO;refine Be ?_;refine B0 (ALe.iceCellR (hga hn rfl) (hga hn rfl) om gt3 (List.take_of_length_le (by rw[Cu];exact Nat.le_refl _)) (by rw[Cu];exact Nat.le_refl _) pt3 hs4 hs3) ?_;refine wm<|Vw (Cr lk)<|fq<|Vw (Ak lk gx Av rfl)<|E' (Ai lk cv gx rfl nb rfl Ay hs2) ptn<|mr<|Ad (rsn (rm1 (rr_c gt gx (ld1 Av rfl)) (rm1 (rr_t gt) rm0)))<|rtW'<|?_;rw[hO];exact Wk.tup (wkw (Wk.agg (wk1 rfl (wk1 rfl (wk1 rfl (wkw Wk.full wk0))))) (wk1 rfl wk0))
  refine za<|Ab<|wr'<|fq<|Vw (Ak lk gx Dj rfl)<|?_;refine Af mp (dH (by simp only[maxLen];omega)) pt ?_;refine ms<|wm<|Vw (Ca lk lki)<|sn'<|?_;refine cd' lk (λhc3=>?_) (λhc3=>?_)
  .have hlE:locE ps[i].2≠0:=hc3;have hE:=tN hi hi2 (by simp only[tMax];omega) hi3 hlE;rw[hE,if_pos hlE] at hO;refine wr'<|Vw (Bb B5)<|mw<|E' (Ai lk cv gx rfl nb rfl Ay hs2) ptn<|mr<|Ag<|Au<|Ag<|Ag<|Au<|?_;refine Ag<|Ad (rsn (rm1 (rr_c gt gx (ld1 Av rfl)) (rm1 (rr_t gt) rm0)))<|rtW'<|?_;rw[hO];exact Mh
  have hlE:locE ps[i].2=0:=Decidable.of_not_not hc3;have hlE2:D4 (ps.take (i+1))=0:=by rw[htk,Pz hi3];exact hlE
  have hle2 : ∀ c∈ps.take (i+1),c.1<=tMax:=λc hc=>by rw[htk] at hc;rcases List.mem_append.1 hc with hc | hc;exact hi2 c hc;simp only[List.mem_singleton] at hc;subst hc;simp only[tMax];omega
  refine za<|Ah<|wm<|Vw (Cy lk lki)<|ms<|?_;refine cd' lk (λhc4=>?_) (λhc4=>?_)
  .obtain rfl:i=0:=by omega
   have hS:stV (ps.take (0+1))=(ps[0].2,[]):=by rw[htk];rfl
   refine Aq<|mw<|fq<|Vw (Ak lk gx Dj rfl)<|Vw (Cr lk)<|fq<|fq<|E' (Ai lk cv gx rfl nb rfl Bo hs3) ptn<|Am<|Aw<|Aw<|An<|Aq<|?_;refine ad<|mw<|Am<|Az<|?_;refine lU' (⟨0+1,v⟩) (by (try dsimp only);exact⟨by omega,hle2,hlE2⟩) (by refine zz ?_;exact bk' 5 hn hlt (by rw[hS];rfl) (hT:=by simp[AV.lt,AV.ltL,Ent.lt]) (hE:=by simp[AV.lt,AV.ltL,Ent.lt]))
  have hnt:ps.take i≠[]:=List.ne_nil_of_length_pos (by rw[List.length_take];omega);have hS:=stV_snoc (c:=ps[i]) hnt;rw[<-htk] at hS;refine Ab<|w_orl<|Qr [N+5]<|dg<|?_;refine d_ldP lk gx (ld1 Dj rfl) (by simp) pt ?_;refine Dw vm<|Bi<|P4<|?_;refine dN mp (mlast_r (F:=(stV (ps.take i)).1) (l:=(stV (ps.take i)).2) gx gx om) (by intro i hi;simp only[cond_true,List.mem_cons,List.not_mem_nil,or_false] at hi;subst hi;first | rfl | exact (hga hn rfl).trans (hga hn rfl).symm) pt ?_;refine Uz rfl (Ma lk lk Ft) pt<|Uz rfl vm pt<|U4<|An<|?_;refine cd' lk (λhc5=>?_) (λhc5=>?_)
  .have hne5:¬ps[i].2=I5 (stV (ps.take i)).1 (stV (ps.take i)).2:=λe=>hc5 (by rw[e];exact⟨rfl,rfl,rfl⟩);rw[if_neg hne5] at hS;refine Bl<|Dw vm<|Dw vm<|Dw (Cr lk)<|dg<|dg<|Dw (Aa lk gx gt3)<|dg<|Dw (Aa lk gx gt0)<|dg<|Dw (Ak lk gx Dj rfl)<|Dw (Bb (Eo cw cw))<|D5 rfl rfl (hlk hn rfl) (G8 (Gb cw)) pt B2<|Bi<|?_;refine Eg Nw ?_;refine E' (C6 (C0 lk gx rfl Bv nb) lk gx (Cu _) om rfl hs4) pt ?_;refine Vw (Cr lk)<|fq<|fq<|E' (Ai lk cv gx rfl nb rfl If hs3) ptn<|Am<|Aw<|Aw<|An<|Aq<|?_;refine ad<|mw<|Am<|Az<|?_;refine lU' (⟨i+1,v+1⟩) (by (try dsimp only);exact⟨by omega,hle2,hlE2⟩) (by refine zz ?_;exact bk' 5 hn hlt (by rw[hS,List.length_append,Bt,C3];rfl) (hT:=by simp[AV.lt,AV.ltL,Ent.lt]) (hE:=by simp[AV.lt,AV.ltL,Ent.lt]))
  have hne5:ps[i].2=I5 (stV (ps.take i)).1 (stV (ps.take i)).2:=by obtain⟨x1,x2,x3⟩:=Decidable.of_not_not hc5;exact Prod.ext x1 (Prod.ext x2 x3)
  rw[if_pos hne5,List.append_nil] at hS;refine Be<|Aw<|Aw<|An<|Aq<|?_;refine ad<|mw<|Am<|Az<|?_;refine lU' (⟨i+1,v⟩) (by (try dsimp only);exact⟨by omega,hle2,hlE2⟩) (by refine zz ?_;exact bk' 5 hn hlt (by rw[hS];rfl) (hT:=by simp[AV.lt,AV.ltL,Ent.lt]) (hE:=by simp[AV.lt,AV.ltL,Ent.lt]))
 have hP:inP ps=ps.take i:=iM hi2 (λhh=>absurd hh om);have hsl:=oG (ps.take i);rw[List.length_take] at hsl;refine Bd<|As<|As<|Bp<|An<|Ab<|wm<|Vw (Cr lk)<|fq<|fq<|Vw (Aa lk gx gt3)<|Vw (Ej lk)<|?_;refine Vw (C7 lk lki)<|sn'<|?_;refine cd' lk (λhc6=>?_) (λhc6=>?_)
 .rw[hP,hi3,if_neg (by simp),if_pos om] at hO;refine wr'<|Vw (Bb B5)<|E' (Ai lk cv gx rfl nb rfl Ay hs2) ptn<|mr<|Ag<|Ad (rsn (rm1 (rr_c gt gx (ld1 Av rfl)) (rm1 (rr_t gt) rm0)))<|rtW'<|?_;rw[hO];exact Mh
 rw[hP,hi3,if_neg (by simp),if_neg om] at hO;refine Be ?_;refine B0 (ALe.iceCellR (hga hn rfl) (hga hn rfl) om gt3 (List.take_of_length_le (by rw[Cu];exact Nat.le_refl _)) (by rw[Cu];exact Nat.le_refl _) pt3 hs4 hs3) ?_;refine wm<|Vw (Cr lk)<|fq<|Vw (Ak lk gx Av rfl)<|E' (Ai lk cv gx rfl nb rfl Ay hs2) ptn<|mr<|Ad (rsn (rm1 (rr_c gt gx (ld1 Av rfl)) (rm1 (rr_t gt) rm0)))<|rtW'<|?_;rw[hO];exact Wk.tup (wkw (Wk.agg (wk1 rfl (wk1 rfl (wk1 rfl (wkw Wk.full wk0))))) (wk1 rfl wk0))
def comp_a {a:List Rul}{nm:ByteArray}(hok:Sb (a,z,k)) :
  Ac 33 [.agg (srcB a z k),sv nm] h (.tup [tabA (Ym (a,z,k) nm).1,iv (Ym (a,z,k) nm).2]):=by
 refine tW' k33 λN hn _ _ hbd=>?_;simp only[tb'] at hbd ⊢;refine wr'<|E' (Bq cv rfl hl0 ha0) pt<|E' (Bz hl1 ha1) pt<|ms<|wr'<|Vw (Ak lk gx Ap rfl)<|mw<|Af mp (zfind_a hok) pt<|mw<|Vw (B7 lk gt)<|?_;refine Vw (B7 lk gt)<|E' (Bz hl2 ha2) pt<|E' (Ai lk cv gx rfl nb rfl Cc hs2) ptn<|ms<|Ab<|wm<|Vw (Ca lk lki)<|sn'<|?_;refine cd' lk (λhc1=>?_) (λhc1=>?_)
 .have hF:Ym (a,z,k) nm=(Ga,(Fg (a,z,k) nm).2):=if_pos hc1;refine wr'<|Vw (Bb B5)<|mw<|E' (Ai lk cv gx rfl nb rfl Ay hs1) ptn<|mr<|Ag<|Ad (rsn (rm1 (rr_c gt gx (ld1 Av rfl)) (rm1 (rr_t gt) rm0)))<|rtW'<|?_;rw[hF];exact Mh
 have hf0:(Fg (a,z,k) nm).2=0:=Decidable.of_not_not hc1;obtain⟨hz0,hm,_⟩:=pN hf0;have hE:=O6 hz0;have hal:=(Hj hE).1;simp only at hal;obtain⟨⟨pl,hpl⟩,_⟩:=Xk hz0 hm tMin;have hne:inP (Cq a tMin none (Fg (a,z,k) nm).1.2)≠[]:=by rw[show Cq a tMin none (Fg (a,z,k) nm).1.2=_ from hpl];unfold inP;rw[List.takeWhile_cons,if_pos (decide_eq_true (by show tMin<=tMax;decide))];simp
 have hF:Ym (a,z,k) nm=ofP a (Fg (a,z,k) nm).1.2:=by unfold Ym;rw[if_neg hc1];unfold ofV ofP;rw[<-Tj hz0 hm]
 refine za<|wr'<|Vw (Ak lk gx Ap rfl)<|Vw (Ak lk gx B1 rfl)<|?_;refine Af mp (tof_a (V3 hok) om (Lb hE hm) hne) pt ?_;refine Vw (B7 lk gt)<|Vw (B7 lk gt)<|E' (Ai lk cv gx rfl nb rfl Ay hs1) ptn<|mr<|Ad (rsn (rm1 (rr_c gt gx (ld1 Av rfl)) (rm1 (rr_t gt) rm0)))<|rtW'<|?_;rw[hF];exact Wk.refl _
end
section
open Go.Ab Go.RowKit Civ
attribute [local simp] Eb Fi E5 Dn Cp Gw Ix tms_lt
section
def N0 {τ:Operand->AV}{y0:Operand}{a b c:AV}(h0:Lf τ y0 [a,b,c]):Cm τ [(0,3,y0)] [(iv 0),(iv 0),(.v (.string ⟨#[]⟩)),(.sl 0 0 true [])]=some [a,b,c,(.sl 0 0 true [])]:=fl h0 rfl
def Y2 {e0 e1 e2 e3 e4 e5 e6 e7 e8 d0:Ent}:([e0,e1,e2,e3,e4,e5,e6,e7,e8]:AH)++[d0]=[e0,e1,e2,e3,e4,e5,e6,e7,e8,d0]:=rfl
end
def c133:AC:=(Sr [Oo 2 (.box 72 3 (t 0)),Oo 3 (.box 115 2 (t 1)),Oo 4 (.new 30 4 [(iv 0),(iv 0),Ss,nl]),Mc 5 0] (Sr [Oo 17 (.load true 3 (t 2)),Oo 18 (.load true 2 (t 3)),Cl 19 215 [(t 17),(t 18)],Oo 6 (.new 273 4 [Ss,nl,nl,nl]),⟨none,none,(.store 4 (t 6) (t 19))⟩] (Sr [Oo 7 (.mv (.const (.slice none 0 0)))] (.seq (Sr [Mc 8 0] (.block 0 (.loop (.seq (Sr [Mv 20 8,Fa 21 3 6,Ld 22 21,Oo 23 (.len false (t 22)),Bn 24 .lss 20 23] (Cd 24 .skip (.exit 0))) (.seq (.block 1 (Sr [Mc 9 0] (.block 2 (.loop (.seq (Sr [Mv 27 9,Fa 28 3 6,Ld 29 28,Mv 30 8,Oo 31 (.ia 1 (t 29) (t 30)),Ld 32 31,Oo 33 (.len false (t 32)),Bn 34 .lss 27 33] (Cd 34 .skip (.exit 2))) (.seq (.block 3 (.reg [Mv 37 7,Fa 38 3 6,Ld 39 38,Mv 40 8,Oo 41 (.ia 1 (t 39) (t 40)),Ld 42 41,Mv 43 9,Oo 44 (.ia 3 (t 42) (t 43)),Fa 45 0 44,Ld 46 45,Oo 47 (.lit 3 1 1 [(iv 0)] [(0,(1,(t 46)))]),Oo 48 (.app 3 1 8 (t 37) (t 47)),Mv 7 48])) (.reg [Mv 35 9,Bc 36 .add 35 1,Mv 9 36]))))))) (.reg [Mv 25 8,Bc 26 .add 25 1,Mv 8 26])))))) (Sr [Mv 49 7,Fa 50 2 6,Ld 51 50,Oo 52 (.app 3 1 8 (t 49) (t 51)),Mv 7 52] (.seq (Sr [Mc 10 1] (.block 4 (.loop (.seq (Sr [Mv 53 10,Mv 54 7,Oo 55 (.len false (t 54)),Bn 56 .lss 53 55] (Cd 56 .skip (.exit 4))) (.seq (.block 5 (Sr [Mv 59 10,Mv 11 59] (.block 6 (.loop (.seq (Sd [Mv 60 11,Bc 61 .gtr 60 0,Mv 62 61,Ot 63 62 (mt 7),Ot 64 62 (mt 11),Ot 65 62 (.ia 1 (t 63) (t 64)),Ot 66 62 (.load false 1 (t 65)),Ot 67 62 (mt 7),Ot 68 62 (mt 11),Ot 69 62 (.bin .sub (t 68) (Ci 1)),Ot 70 62 (.ia 1 (t 67) (t 69)),Ot 71 62 (.load false 1 (t 70)),Ot 72 62 (.bin .lss (t 66) (t 71)),Oo 73 (.pick (t 62) (t 72) (.const (.bool false)))] (Cd 73 .skip (.exit 6))) (.seq (.block 7 (.drw [Mv 76 7,Mv 77 11,Mv 78 7,Mv 79 11,Bc 80 .sub 79 1,Mv 81 7,Mv 82 11,Bc 83 .sub 82 1,Oo 84 (.ia 1 (t 81) (t 83)),Ld 85 84,Mv 86 7,Mv 87 11,Oo 88 (.ia 1 (t 86) (t 87)),Ld 89 88,Oo 90 (.ia 1 (t 76) (t 77))] [false,false,false] [Sc 90 85,Oo 91 (.ia 1 (t 78) (t 80)),Sc 91 89])) (.reg [Mv 74 11,Bc 75 .sub 74 1,Mv 11 75]))))))) (.reg [Mv 57 10,Bc 58 .add 57 1,Mv 10 58])))))) (.seq (.drw [Oo 92 (.load true 4 (t 6)),Cl 93 81 [],Cl 94 216 [(t 92),(t 93)],Oo 95 (.build [(iv 0),(iv 0),Ss,nl] [(0,(3,(t 94)))]),Oo 12 (.new 30 4 [(iv 0),(iv 0),Ss,nl])] [false] [⟨none,none,(.store 4 (t 12) (t 95))⟩]) (Sr [Fa 96 0 12,Oo 97 (.load true 3 (t 96)),Oo 13 (.new 27 3 [(iv 0),(iv 0),Ss]),⟨none,none,(.store 3 (t 13) (t 97))⟩] (Sr [Oo 98 (.load true 3 (t 13)),Cl 99 79 [(t 98)],Mv 14 99] (.seq (Sr [Mc 15 0] (.block 8 (.loop (.seq (Sr [Mv 100 15,Mv 101 7,Oo 102 (.len false (t 101)),Bn 103 .lss 100 102] (Cd 103 .skip (.exit 8))) (.seq (.block 9 (.seq (Sd [Mv 106 7,Mv 107 15,Oo 108 (.ia 1 (t 106) (t 107)),Ld 109 108,Cl 110 81 [],Bn 111 .leq 109 110,Mv 112 111,Of 113 112 (mt 7),Of 114 112 (mt 15),Of 115 112 (.ia 1 (t 113) (t 114)),Of 116 112 (.load false 1 (t 115)),Of 117 112 (.call (.func 82) []),Of 118 112 (.bin .gtr (t 116) (t 117)),Oo 119 (.pick (t 112) (.const (.bool true)) (t 118))] (Cd 119 (.exit 9) .skip)) (.seq (.drw [Oo 120 (.load true 4 (t 6)),Mv 121 7,Mv 122 15,Oo 123 (.ia 1 (t 121) (t 122)),Ld 124 123,Cl 125 216 [(t 120),(t 124)],Oo 16 (.new 27 3 [(iv 0),(iv 0),Ss])] [false] [⟨none,none,(.store 3 (t 16) (t 125))⟩]) (.seq (Sr [Oo 126 (.load true 3 (t 16)),Oo 127 (.load true 3 (t 13)),Oo 128 (.eqs false [.int,.int,.str] (t 126) (t 127))] (Cd 128 (.exit 9) .skip)) (.seq (Sr [Mv 129 14,Bc 130 .eql 129 0] (Cd 130 (.reg [Oo 131 (.load true 3 (t 16)),Cl 132 79 [(t 131)],Mv 14 132]) .skip)) (.seq (.drw [Fa 133 3 12,Ld 134 133,Mv 135 7,Mv 136 15,Oo 137 (.ia 1 (t 135) (t 136)),Ld 138 137,Oo 139 (.load true 3 (t 16)),Oo 140 (.build [(iv 0),(iv 0),(iv 0),Ss] [(0,(1,(t 138))),(1,(3,(t 139)))]),Oo 141 (.lit 86 4 1 [(iv 0),(iv 0),(iv 0),Ss] [(0,(4,(t 140)))])] [false,false,false] [Oo 142 (.app 86 4 40 (t 134) (t 141)),Fa 143 3 12,Sc 143 142]) (.reg [Oo 144 (.load true 3 (t 16)),⟨none,none,(.store 3 (t 13) (t 144))⟩]))))))) (.reg [Mv 104 15,Bc 105 .add 104 1,Mv 15 105])))))) (.seq (Sr [Mv 145 14,Bc 146 .eql 145 0,Mv 147 146,Ot 148 147 (.fa 3 (t 12)),Ot 149 147 (.load false 1 (t 148)),Ot 150 147 (.len false (t 149)),Ot 151 147 (.bin .gtr (t 150) (Ci 1000)),Oo 152 (.pick (t 147) (t 151) (.const (.bool false)))] (Cd 152 (.reg [Mc 14 2]) .skip)) (.seq (Sr [Mv 153 14,Bc 154 .neq 153 0] (Cd 154 (Sr [Oo 155 (.build [(iv 0),(iv 0),Ss,nl] []),Mv 156 14,⟨none,none,(.store 4 (t 4) (t 155))⟩,Mv 5 156] .ret) .skip)) (Sr [Oo 157 (.load true 4 (t 12)),⟨none,none,(.store 4 (t 4) (t 157))⟩,Mc 5 0] .ret)))))))))))))
def k133:Em Tryz.prog 133=some ⟨c133,[(.cell 4 true 4),(.tmp 5)],158⟩:=by kernel_rfl
def jG {rl:List Rul}{x:Era}{b:Int}(hx:E0 (xFm x)=true):(Ka rl x b).2.2.size<=72 :=
 dZ (rl:=rl) (b:=b) hx (b,Ka rl x b) List.mem_cons_self
def nX {rl:List Rul}{n:Int} : ∀ {es:List Era},(∀ x∈es,E0 (xFm x)=true)->(Co rl es n).2.2.size<=72
 | [],_=>by show (0:Nat)<=72;omega
 | [x],h=>jG (h x (by simp))
 | x::y::es,h=>by
  rw[Co];split
  .exact nX λz hz=>h z (by simp[hz])
  exact jG (h x (by simp))
def Wx (a:List Rul) (es:List Era):List Int:=es.flatMap λx=>(B6 a x).map (·.1)
def Zt (a:List Rul) : ∀ es:List Era,(Wx a es).length=cntV a es
 | []=>rfl
 | x::es=>by unfold Wx;rw[List.flatMap_cons,List.length_append,List.length_map,cntV];exact congrArg _ (Zt a es)
def lD (a:List Rul) (es:List Era) (x:Era):Wx a (es++[x])=Wx a es++(B6 a x).map (·.1):=by
 unfold Wx;rw[List.flatMap_append,List.flatMap_cons,List.flatMap_nil,List.append_nil]
def inT_no1 {x:Int}(h:x<=tMin):inT x=false:=decide_eq_false om
def inT_no2 {x:Int}(h:tMax<x):inT x=false:=decide_eq_false om
def inT_yes {x:Int}(h1:¬x<=tMin) (h2:¬tMax<x):inT x=true:=decide_eq_true om
def take1_pw {r:Int->Int->Prop}(l:List Int):(l.take 1).Pairwise r:=by cases l <;> simp
def leI_tot (a b:Int):a<=b\/b<=a:=by omega
def leI_tr (a b c:Int):a<=b->b<=c->a<=c:=by omega
def lH {a:List Rul}{nm:ByteArray}{es:List Era}(hck : ∀ r∈a,∀ h,Ac 210 [.agg (rulC r)] h (iv (Dd r))) (hok:okRs a) (ha:a.length<=9223372036854775807) (hz:okZ es) :
  Ac 133 [.agg (srcB a z k),.agg [sv nm,.sl es.length 10 false (rows eraC es)]] h (.tup [tabA (tabR (H9 a es)).1,iv (tabR (H9 a es)).2]):=by
 have hlen:=hz.len;have hel:=Hv es;have htsz : ∀ n,(Co a es n).2.2.size<=maxLen:=λn=>by have:=nX (rl:=a) (n:=n) (es:=es) (λx hx=>(hz.fm x hx).1);simp only[maxLen];omega
 refine tW' k133 λN hn hlt _ hbd=>?_;simp only[tb'] at hbd ⊢;refine wr'<|E' (Bq cv rfl hl0 ha0) pt<|E' (Bq cv rfl hl1 ha1) pt<|E' (Bz hl2 ha2) pt<|ms<|wr'<|Vw (Ak lk gx Ap rfl)<|Vw (Ak lk gx B1 rfl)<|Af mp (rtell_g hck hok ha hz) pt<|E' (Bz hl3 ha3) pt<|?_;refine E' (Ai lk6 (cvl lk19 rfl) gx rfl nb rfl Ay hs3) ptn<|sn'<|wr'<|mv' lkn pt7<|Am<|B0 (ALe.own0' (st':=1) (ty:=3) gt7 hl4 pt7 ha4)<|Ab<|wr'<|mv' lki pt8<|sn'<|?_;refine Ah ?_;refine w_lp (ι:=Nat×List Int×Nat) (λ⟨kk,L,v⟩=>[(7,.own (N+4) v L.length),(8,iv (kk:Int)),(9,.any)]++rn' 20 29) (λ⟨kk,L,v⟩=>[(4,.mk v 3 1 (rows intC L))]) (λ⟨kk,L,v⟩=>kk<=es.length/\L=Wx a (es.take kk)) (λ⟨kk,L,v⟩=>es.length-kk) (⟨0,[],0⟩) (by exact⟨Nat.zero_le _,rfl⟩) ?_;rintro⟨kk,L,v⟩ hi1;try simp only[sm',Nat.reduceAdd]
 obtain⟨hk1,hk2⟩:=hi1;have hL1:=Zt a (es.take kk);have hL2:=eH a (es.take kk);rw[List.length_take] at hL2;rw[<-hk2] at hL1;refine Ab<|wm<|fq<|Vw (Aa lk gx gt3)<|Vw (Bf lk)<|Vw (Bm lk lk)<|sn'<|?_;refine cd' lk (λhc1=>?_) (λhc1=>?_)
 .have hk:kk<es.length:=by omega
  have htl:=G1 (rl:=a) (x:=es[kk]);refine za<|Ab<|Ah<|wk'<|Ah<|?_;refine w_lp (ι:=Nat×List Int×Nat) (λ⟨j,M,w⟩=>[(7,.own (N+4) w M.length),(9,iv (j:Int))]++rn' 27 22) (λ⟨j,M,w⟩=>[(4,.mk w 3 1 (rows intC M))]) (λ⟨j,M,w⟩=>j<=(B6 a es[kk]).length/\M=L++((B6 a es[kk]).take j).map (·.1)) (λ⟨j,M,w⟩=>(B6 a es[kk]).length-j) (⟨0,L,v⟩) (by exact⟨Nat.zero_le _,by simp⟩) ?_;rintro⟨j,M,w⟩ hi2;try simp only[sm',Nat.reduceAdd]
  obtain⟨hj1,hj2⟩:=hi2;have hM1:M.length=L.length+j:=by rw[hj2,List.length_append,List.length_map,List.length_take];omega
  refine Ab<|wm<|fq<|Vw (Aa lk gx gt3)<|mw<|?_;refine V' (Bh lk lk Kq nb ro om ro rfl) pt ?_;refine Vw (Ba lk gt)<|Vw (Bf lk)<|Vw (Bm lk lk)<|sn'<|?_;refine cd' lk (λhc2=>?_) (λhc2=>?_)
  .have hj:j<(B6 a es[kk]).length:=by omega
   refine za<|Ab<|Ah<|Aq<|mw<|fq<|Vw (Aa lk gx gt3)<|mw<|?_;refine V' (Bh lk lk Kq nb ro om ro rfl) pt ?_;refine Vw (Ba lk gt)<|mw<|?_;refine V' (Bh lk lk Iy nb ro om ro rfl) pt ?_;refine Vw (Cj lk dp0)<|Vw (Ba lk gt)<|E' (Ep (Hk cw) hl5 ha5) pt<|?_;refine E' (C6 (C0 lk gx rfl Ee nb) lk gx (Ey _) om rfl hs4) pt ?_;refine mw<|Am<|Aw<|An<|Aq<|mw<|?_;refine ad<|mw<|Am<|Az<|?_;refine lU' (⟨j+1,M++[(B6 a es[kk])[j].1],w+1⟩) (by (try dsimp only);exact⟨by omega,by rw[List.take_succ_eq_append_getElem hj,List.map_append,<-List.append_assoc,<-hj2];rfl⟩) (by refine zz ?_;exact bkE' 5 hn hlt (by repeat (first | exact wk0 | refine wka ?_ | refine wk1 rfl ?_ | refine wk1 (by first | rfl | exact ivx om | (rw[List.length_append];rfl)) ?_)) (by rw[Bt,C3];rfl) (hT:=by simp[AV.lt,AV.ltL,Ent.lt]) (hE:=by simp[AV.lt,AV.ltL,Ent.lt]))
  refine Bd<|As<|As<|Bp<|Aw<|An<|Aq<|mw<|?_;refine ad<|mw<|Am<|Az<|?_;refine lT' (⟨kk+1,M,w⟩) (by (try dsimp only);exact⟨by omega,by rw[hj2,List.take_of_length_le (show (B6 a es[kk]).length<=j by omega),List.take_succ_eq_append_getElem hk,lD,<-hk2]⟩)
 have hL3:L=Wx a es:=by rw[hk2,List.take_of_length_le om]
 refine Bd<|As<|As<|Bp<|An<|wm<|fq<|Vw (Aa lk gx gt2)<|?_;refine E' (C6 (Qf lk (Ey _)) lk gx (Ey _) om (int_leaf _) hs4) pt ?_;refine ms<|Ab<|wk'<|Ah<|?_;refine It (ι:=Nat×List Int×Nat) (λ⟨i,M,w⟩=>[(7,.own (N+4) w M.length),(10,iv (i:Int)),(11,.any)]++rn' 53 39) (λ⟨i,M,w⟩=>[(4,.mk w 3 1 (rows intC M))]) (λ⟨i,M,w⟩=>1<=i/\M.Perm (Iz a es)/\(M.take i).Pairwise (· <= ·)) (λ⟨i,M,w⟩=>(Iz a es).length+1-i) (⟨1,L++By es,v+1⟩) (by exact⟨Nat.le_refl _,(by rw[hL3];exact List.Perm.refl _),take1_pw _⟩) (by try simp only[sm',Nat.reduceAdd];exact ALe.same (by repeat (first | exact wk0 | refine wka ?_ | refine wk1 rfl ?_ | refine wk1 (by first | rfl | exact ivx om | (rw[List.length_append])) ?_)) (by first | (rw[Bt];done) | (rw[Bt];rfl))) ?_;rintro⟨i,M,w⟩ hi3;try simp only[sm',Nat.reduceAdd]
 obtain⟨hm1,hm2,hm3⟩:=hi3;have hML:=hm2.length_eq;have hsl:=rO a es;have hcl:=eH a es;refine Ab<|wm<|mw<|Vw (Ej lk)<|Vw (Bm lk lk)<|sn'<|?_;refine cd' lk (λhc3=>?_) (λhc3=>?_)
 .have hi:i<M.length:=by omega
  refine za<|Ab<|Ah<|wm<|ms<|Ah<|?_;refine w_lp (ι:=Nat×List Int) (λ⟨q,K⟩=>[(7,.own (N+4) w K.length),(11,iv (q:Int))]++rn' 60 32) (λ⟨q,K⟩=>[(4,.mk w 3 1 (rows intC K))]) (λ⟨q,K⟩=>q<=i/\K.Perm M/\insR (· <= ·) i q K) (λ⟨q,K⟩=>q) (⟨i,M⟩) (by exact⟨Nat.le_refl _,List.Perm.refl _,Q4 hi hm3⟩) ?_;rintro⟨q,K⟩ hi4;try simp only[sm',Nat.reduceAdd]
  obtain⟨hq1,hq2,hq3⟩:=hi4;have hKL:=hq2.length_eq;refine Ab<|Ab<|Bl<|Dw vm<|Dw (C7 lk lki)<|Dw vm<|?_;refine dq' (t:=62) gt pt pt (λhg62=>?_) (λhg62=>?_)
  .obtain⟨j,rfl⟩ : ∃ j,q=j+1:=⟨q-1,by omega⟩;have hz3:j+1<K.length:=by omega
   refine dO<|Dw vm<|dO<|Dw vm<|dO<|?_;refine D' (Ck (k:=j+1) lk lk gx Cw nb ro om (by first | rfl | (simp;done) | omega)) pt ?_;refine d_do gt ?_;refine D' (Jm lk gx Cw om rfl) pt ?_;refine dO<|Dw vm<|dO<|Dw vm<|dO<|?_;refine D' (Ch lk lki om om) pt ?_;refine d_do gt ?_;refine D' (Ck (k:=j) lk lk gx Cw nb ro om (by first | rfl | (simp;done) | omega)) pt ?_;refine d_do gt ?_;refine D' (Jm lk gx Cw om rfl) pt ?_;refine dO<|Dw (Bm lk lk)<|Dw (Ar lk lk)<|Bi<|?_;refine B9 ?_;refine sn' ?_;refine cd' lk (λhc4=>?_) (λhc4=>?_)
   .have hz6:¬K[j]<=K[j+1]:=by omega
    obtain⟨hz4,hz5⟩:=Ty leI_tot hq3 hz3 hz6;refine za<|Ab<|Ah<|Bl<|Dw vm<|Dw vm<|Dw vm<|Dw vm<|?_;refine D' (Ch lk lki om om) pt ?_;refine Dw vm<|Dw vm<|?_;refine D' (Ch lk lki om om) pt ?_;refine D' (Ck (k:=j) lk lk gx Cw nb ro om (by first | rfl | (simp;done) | omega)) pt ?_;refine D' (Jm lk gx Cw om rfl) pt ?_;refine Dw vm<|Dw vm<|?_;refine D' (Ck (k:=j+1) lk lk gx Cw nb ro om (by first | rfl | (simp;done) | omega)) pt ?_;refine D' (Jm lk gx Cw om rfl) pt ?_;refine D' (Ck (k:=j+1) lk lk gx Cw nb ro om (by first | rfl | (simp;done) | omega)) pt ?_;refine Bi ?_;refine B9 ?_;refine E' (Nn (z:=K[j]) lk cv gx Cw rfl om hs4) ptn ?_;refine V' (Ck (k:=j) lk lk gx Cw nb (by first | rfl | first | omega | (rw[List.length_set];omega)) (by first | omega | (rw[List.length_set];omega)) (by first | rfl | (simp;done) | first | omega | (rw[List.length_set];omega))) pt ?_;refine E' (Nn (z:=K[j+1]) lk cv gx Cw rfl (by first | omega | (rw[List.length_set];omega)) hs4) ptn ?_;refine Am<|Aw<|An<|Aq<|mw<|?_;refine V' (Ch lk lki om om) pt ?_;refine mw<|Am<|Az<|?_;refine lU' (⟨j,(K.set (j+1) K[j]).set j K[j+1]⟩) (by (try dsimp only);exact⟨by omega,hz5.trans hq2,hz4⟩) (by refine zz ?_;exact ALe.same (by repeat (first | exact wk0 | refine wka ?_ | refine wk1 rfl ?_ | refine wk1 (by first | rfl | exact ivx om | (simp;done)) ?_)) rfl)
   have hz7:K[j]<=K[j+1]:=by omega
   have hz6:=Q0 leI_tr hq3 hz3 hz7;refine Bd<|As<|As<|Bp<|Aw<|An<|Aq<|mw<|?_;refine ad<|mw<|Am<|Az<|?_;refine lT' (⟨i+1,K,w⟩) (by (try dsimp only);exact⟨by omega,hq2.trans hm2,hz6⟩)
  obtain rfl:q=0:=by omega
  have hz6:=Q3 hq3;refine dn<|dn<|dn<|dn<|dn<|dn<|dn<|dn<|dn<|dn<|Dw (Ao lk lkb)<|Bi<|?_;refine B9 ?_;refine sn'<|Cf lk<|Bd<|As<|As<|Bp<|Aw<|An<|Aq<|mw<|?_;refine ad<|mw<|Am<|Az<|?_;refine lT' (⟨i+1,K,w⟩) (by (try dsimp only);exact⟨by omega,hq2.trans hm2,hz6⟩)
 rw[List.take_of_length_le om] at hm3;have hTab:=sE (rl:=a) (es:=es) hm2 hm3;have hTR:=rL (Jb (Co a es) M);rw[hTab] at hTR;have hT1:(H9 a es).1=Co a es tMin:=by rw[<-hTab];rfl
 have hT2:(H9 a es).2=chgs (Co a es) M:=by rw[<-hTab];rfl
 rw[hT1,hT2] at hTR;refine Bd<|As<|As<|Bp<|An<|Ab<|Bl<|Dw (Ak lk gx Av rfl)<|?_;refine Br mp0 (λhE hX=>Qu) pt ?_;refine Br mp (λhE hX=>oN hz) pt ?_;refine Dw (Bb (N0 cw))<|D5 rfl rfl (hlk hn rfl) (Lv) pt B2<|Bi<|?_;refine Eg Lh ?_;refine E' (Ai lk cv gx rfl nb rfl Ay hs5) ptn<|sn'<|wr'<|fq<|Vw (Ak lk gx Ap rfl)<|E' (Bz hl6 ha6) pt<|E' (Ai lk cv gx rfl nb rfl Bo hs6) ptn<|sn'<|wr'<|Vw (Ak lk gx Ap rfl)<|?_;refine Af mp (Hq (htsz _)) pt<|ms<|Ab<|wm<|Am<|?_;refine B0 (ALe.own0Cell (st':=4) (ty:=86) gx gt3 hl7 pt3 (Eq.trans (congrArg (λz=>List.set z _ _) ha7) hs5)) ?_;refine Ah ?_;refine It (ι:=Nat×Nat) (λ⟨i5,v5⟩=>[(14,iv (rbad (Co a es tMin) (chgs (Co a es) (M.take i5)))),(15,iv (i5:Int)),(16,.any)]++rn' 100 45) (λ⟨i5,v5⟩=>[(5,.mk 0 30 4 [iv (Co a es tMin).1,iv (Co a es tMin).2.1,sv (Co a es tMin).2.2,.own (N+7) v5 (chgs (Co a es) (M.take i5)).length]),(6,.mk 0 27 3 (locC3 (I5 (Co a es tMin) (chgs (Co a es) (M.take i5))))),(7,.mk v5 86 4 (rows chgC (chgs (Co a es) (M.take i5))))]) (λ⟨i5,v5⟩=>i5<=M.length) (λ⟨i5,v5⟩=>M.length-i5) (⟨0,0⟩) (by exact Nat.zero_le _) (by try simp only[sm',Nat.reduceAdd];exact ALe.same (by repeat (first | exact wk0 | refine wka ?_ | refine wk1 rfl ?_ | refine wk1 (by first | rfl | exact ivx (fW _).symm | exact ivx (by rw[List.take_zero,chgs_nil,fW])) ?_)) rfl) ?_;rintro⟨i5,v5⟩ hi5;try simp only[sm',Nat.reduceAdd]
 replace hi5:i5<=M.length:=hi5;have hcL:=chgs_len (g:=Co a es) (M.take i5);rw[List.length_take] at hcL;refine Ab<|wm<|mw<|Vw (Ej lk)<|Vw (Bm lk lk)<|sn'<|?_;refine cd' lk (λhc5=>?_) (λhc5=>?_)
 .have hi:i5<M.length:=by omega
  have htk:=List.take_succ_eq_append_getElem hi;refine za<|Ab<|Ah<|Ab<|Ab<|Bl<|Dw vm<|Dw vm<|?_;refine D' (Ck lk lk gx Cw nb ro om (by first | rfl | (simp;done) | omega)) pt ?_;refine D' (Jm lk gx Cw om rfl) pt ?_;refine Br mp0 (λhE hX=>Qu) pt ?_;refine Dw (Gy lk lk)<|Dw vm<|?_;refine dq' (t:=112) gt pt pt (λhg112=>?_) (λhg112=>?_)
  .have hC:chgs (Co a es) (M.take (i5+1))=chgs (Co a es) (M.take i5):=by rw[htk];exact jS (inT_no1 hg112)
   refine dn<|dn<|dn<|dn<|dn<|dn<|Dw (Ar lk lkb)<|Bi<|?_;refine B9 ?_;refine sn'<|Cx lk<|Bd<|As<|Bp<|An<|Aq<|mw<|?_;refine ad<|mw<|Am<|Az<|?_;refine lU' (⟨i5+1,v5⟩) (by (try dsimp only);omega) (by refine zz ?_;exact ALe.same (by repeat (first | exact wk0 | refine wka ?_ | refine wk1 rfl ?_ | refine wk1 (by first | rfl | exact ivx om | (rw[hC];done) | (rw[hC,hB];done) | (rw[hC,hB];rfl)) ?_)) (by first | (rw[hC];done) | (rw[hC];rfl)))
  refine dO<|Dw vm<|dO<|Dw vm<|dO<|?_;refine D' (Ck lk lk gx Cw nb ro om (by first | rfl | (simp;done) | omega)) pt ?_;refine d_do gt ?_;refine D' (Jm lk gx Cw om rfl) pt ?_;refine d_do gt ?_;refine Br mp0 (λhE hX=>Zy) pt ?_;refine dO<|Dw (C7 lk lk)<|Dw (Ao lk lk)<|Bi<|?_;refine B9 ?_;refine sn' ?_;refine cd' lk (λhc6=>?_) (λhc6=>?_)
  .have hC:chgs (Co a es) (M.take (i5+1))=chgs (Co a es) (M.take i5):=by rw[htk];exact jS (inT_no2 hc6)
   refine Bd<|As<|Bp<|An<|Aq<|mw<|?_;refine ad<|mw<|Am<|Az<|?_;refine lU' (⟨i5+1,v5⟩) (by (try dsimp only);omega) (by refine zz ?_;exact ALe.same (by repeat (first | exact wk0 | refine wka ?_ | refine wk1 rfl ?_ | refine wk1 (by first | rfl | exact ivx om | (rw[hC];done) | (rw[hC,hB];done) | (rw[hC,hB];rfl)) ?_)) (by first | (rw[hC];done) | (rw[hC];rfl)))
  have hI:inT M[i5]=true:=inT_yes hg112 hc6;refine za<|Ab<|Bl<|Dw (Ak lk gx Av rfl)<|Dw vm<|Dw vm<|?_;refine D' (Ck lk lk gx Cw nb ro om (by first | rfl | (simp;done) | omega)) pt ?_;refine D' (Jm lk gx Cw om rfl) pt ?_;refine Br mp (λhE hX=>oN hz) pt ?_;refine D5 rfl rfl (hlk hn rfl) (Lv) pt B2<|Bi<|?_;refine Eg Rm ?_;refine E' (Ai lk cv gx rfl nb rfl Bo hs8) ptn<|sn'<|Ab<|wr'<|Vw (Ak lk gx Ap rfl)<|Vw (Ak lk gx Ap rfl)<|Vw (Nc lk lk Ft)<|sn'<|?_;refine cd' lk (λhc7=>?_) (λhc7=>?_)
  .have hw:Co a es M[i5]=I5 (Co a es tMin) (chgs (Co a es) (M.take i5)):=by obtain⟨x1,x2,x3⟩:=hc7;exact Prod.ext x1 (Prod.ext x2 x3)
   have hC:chgs (Co a es) (M.take (i5+1))=chgs (Co a es) (M.take i5):=by rw[htk];exact uI hI hw
   refine Bd<|As<|Bp<|An<|Aq<|mw<|?_;refine ad<|mw<|Am<|Az<|?_;refine lU' (⟨i5+1,v5⟩) (by (try dsimp only);omega) (by refine zz ?_;exact bkE' 8 hn hlt (by repeat (first | exact wk0 | refine wka ?_ | refine wk1 rfl ?_ | refine wk1 (by first | rfl | exact ivx om | (rw[hC];done) | (rw[hC,hB];done) | (rw[hC,hB];rfl)) ?_)) (by first | (rw[hC];done) | (rw[hC];rfl)) (hT:=by simp[AV.lt,AV.ltL,Ent.lt]) (hE:=by simp[AV.lt,AV.ltL,Ent.lt]))
  have hw:¬Co a es M[i5]=I5 (Co a es tMin) (chgs (Co a es) (M.take i5)):=λe=>hc7 (by rw[e];exact⟨rfl,rfl,rfl⟩);have hC:chgs (Co a es) (M.take (i5+1))=chgs (Co a es) (M.take i5)++[(M[i5],Co a es M[i5])]:=by rw[htk];exact chgs_new hI hw
  have hB:=sH (Co a es tMin) (chgs (Co a es) (M.take i5)) (M[i5],Co a es M[i5]);have hW:=mE (Co a es tMin) (chgs (Co a es) (M.take i5)) (M[i5],Co a es M[i5]);refine za<|Ab<|wm<|Vw (Cy lk lki)<|sn'<|?_;refine cd' lk (λhc8=>?_) (λhc8=>?_)
  .rw[if_pos hc8] at hB;refine Aq<|Vw (Ak lk gx Ap rfl)<|Af mp (Hq (htsz _)) pt<|ms<|Ab<|Bl<|dg<|Dw (Aa lk gx gt3)<|Dw vm<|Dw vm<|?_;refine D' (Ck lk lk gx Cw nb ro om (by first | rfl | (simp;done) | omega)) pt ?_;refine D' (Jm lk gx Cw om rfl) pt ?_;refine Dw (Ak lk gx Ap rfl)<|Dw (Bb (Eo cw cw))<|D5 rfl rfl (hlk hn rfl) (G8 (Gb cw)) pt B2<|Bi<|?_;refine Eg Y2 ?_;refine E' (C6 (C0 lk gx rfl Bv nb) lk gx (Cu _) om rfl hs7) pt ?_;refine fq<|E' (Ai lk cv gx rfl nb rfl If hs5) ptn<|sn'<|Aq<|Vw (Ak lk gx Ap rfl)<|E' (Ai lk cv gx rfl nb rfl Bo hs6) ptn<|Am<|Aw<|An<|Aq<|mw<|?_;refine ad<|mw<|Am<|Az<|?_;refine lU' (⟨i5+1,v5+1⟩) (by (try dsimp only);omega) (by refine zz ?_;exact bkE' 8 hn hlt (by repeat (first | exact wk0 | refine wka ?_ | refine wk1 rfl ?_ | refine wk1 (by first | rfl | exact ivx om | (rw[hC];done) | (rw[hC,hB];done) | (rw[hC,hB];rfl)) ?_)) (by rw[hC,hW,List.length_append,Bt,C3];rfl) (hT:=by simp[AV.lt,AV.ltL,Ent.lt]) (hE:=by simp[AV.lt,AV.ltL,Ent.lt]))
  rw[if_neg hc8] at hB;refine za<|Ab<|Bl<|dg<|Dw (Aa lk gx gt3)<|Dw vm<|Dw vm<|?_;refine D' (Ck lk lk gx Cw nb ro om (by first | rfl | (simp;done) | omega)) pt ?_;refine D' (Jm lk gx Cw om rfl) pt ?_;refine Dw (Ak lk gx Ap rfl)<|Dw (Bb (Eo cw cw))<|D5 rfl rfl (hlk hn rfl) (G8 (Gb cw)) pt B2<|Bi<|?_;refine Eg Y2 ?_;refine E' (C6 (C0 lk gx rfl Bv nb) lk gx (Cu _) om rfl hs7) pt ?_;refine fq<|E' (Ai lk cv gx rfl nb rfl If hs5) ptn<|sn'<|Aq<|Vw (Ak lk gx Ap rfl)<|E' (Ai lk cv gx rfl nb rfl Bo hs6) ptn<|Am<|Aw<|An<|Aq<|mw<|?_;refine ad<|mw<|Am<|Az<|?_;refine lU' (⟨i5+1,v5+1⟩) (by (try dsimp only);omega) (by refine zz ?_;exact bkE' 8 hn hlt (by repeat (first | exact wk0 | refine wka ?_ | refine wk1 rfl ?_ | refine wk1 (by first | rfl | exact ivx om | (rw[hC];done) | (rw[hC,hB];done) | (rw[hC,hB];rfl)) ?_)) (by rw[hC,hW,List.length_append,Bt,C3];rfl) (hT:=by simp[AV.lt,AV.ltL,Ent.lt]) (hE:=by simp[AV.lt,AV.ltL,Ent.lt]))
 have hi:M.take i5=M:=List.take_of_length_le om;rw[hi] at *;refine Bd<|As<|As<|Bp<|An<|Ab<|wm<|Vw (Cy lk lki)<|mw<|?_;refine sp' (t:=147) gt pt pt (λhg147=>?_) (λhg147=>?_)
 .refine sd<|fq<|sd<|Vw (Aa lk gx gt3)<|sd<|Vw (Ej lk)<|sd<|Vw (C7 lk lki)<|Vw (Ar lk lk)<|sn'<|?_;refine cd' lk (λhc9=>?_) (λhc9=>?_)
  .rw[if_neg (λe=>e hg147),if_pos om] at hTR;refine Aq<|ms<|Ab<|wm<|Vw (Ca lk lki)<|sn'<|?_;refine Iu lk (by rfl) ?_;refine wr'<|Vw (Bb B5)<|mw<|E' (Ai lk cv gx rfl nb rfl Ay hs2) ptn<|mr<|Ag<|Ad (rsn (rm1 (rr_c gt gx (ld1 Av rfl)) (rm1 (rr_t gt) rm0)))<|rtW'<|?_;rw[hTR];exact Mh
  rw[if_neg (λe=>e hg147),if_neg om] at hTR;refine za<|Ab<|wm<|Vw (Ca lk lki)<|sn'<|?_;refine F2 lk (by exact decide_eq_false (λe=>e hg147)) ?_;refine Be ?_;refine B0 (ALe.iceCellR (hga hn rfl) (hga hn rfl) om gt3 (List.take_of_length_le (by rw[Cu];exact Nat.le_refl _)) (by rw[Cu];exact Nat.le_refl _) pt3 hs7 hs5) ?_;refine wr'<|Vw (Ak lk gx Av rfl)<|E' (Ai lk cv gx rfl nb rfl Ay hs2) ptn<|mr<|Ad (rsn (rm1 (rr_c gt gx (ld1 Av rfl)) (rm1 (rr_t gt) rm0)))<|rtW'<|?_;rw[hTR];show Wk _ (.tup [tabA (H9 a es),iv 0]);rw[show H9 a es=(Co a es tMin,chgs (Co a es) M) from Prod.ext hT1 hT2];exact Wk.tup (wkw (Wk.agg (wk1 rfl (wk1 rfl (wk1 rfl (wkw Wk.full wk0))))) (wk1 rfl wk0))
 rw[if_pos hg147] at hTR;refine so<|so<|so<|so<|Vw (Ao lk lkb)<|sn'<|Cf lk<|za<|Ab<|wm<|?_;refine Vw (Ca lk lki)<|sn'<|?_;refine Iu lk (by exact decide_eq_true hg147) ?_;refine wr'<|Vw (Bb B5)<|mw<|E' (Ai lk cv gx rfl nb rfl Ay hs2) ptn<|mr<|Ag<|Ad (rsn (rm1 (rr_c gt gx (ld1 Av rfl)) (rm1 (rr_t gt) rm0)))<|rtW'<|?_;rw[hTR];exact Mh
end
section
open Go.Ab Go.RowKit Civ
attribute [local simp] Eb Fi E5 Dn Cp Gw Ix Gv
def c8:AC:=(Sr [Mb 0 false] (Sr [Cl 8 27 [],Oo 9 (.call (.func 33) [(t 8),(.const (.string ⟨#[79,108,100]⟩))]),Mv 7 9,Ex 10 7 0,Ex 11 7 1,Oo 1 (.new 30 4 [(iv 0),(iv 0),Ss,nl]),⟨none,none,(.store 4 (t 1) (t 10))⟩,Mv 2 11] (Sr [Cl 13 30 [],Cl 14 34 [(t 13),(Ci 100)],Mv 12 14,Ex 15 12 0,Ex 16 12 1,Oo 3 (.new 27 3 [(iv 0),(iv 0),Ss]),⟨none,none,(.store 3 (t 3) (t 15))⟩,Mv 4 16] (Sr [Cl 18 30 [],Cl 19 34 [(t 18),(Ci 99)],Mv 17 19,Ex 20 17 0,Ex 21 17 1,Oo 5 (.new 27 3 [(iv 0),(iv 0),Ss]),⟨none,none,(.store 3 (t 5) (t 20))⟩,Mv 6 21] (Sd [Mv 22 2,Bc 23 .eql 22 0,Mv 24 23,Ot 25 24 (mt 4),Ot 26 24 (.bin .eql (t 25) (Ci 0)),Oo 27 (.pick (t 24) (t 26) (.const (.bool false))),Mv 28 27,Ot 29 28 (mt 6),Ot 30 28 (.bin .eql (t 29) (Ci 0)),Oo 31 (.pick (t 28) (t 30) (.const (.bool false))),Mv 32 31,Ot 33 32 (.load true 4 (t 1)),Ot 34 32 (.call (.func 35) [(t 33)]),Ot 35 32 (.bin .eql (t 34) (Ci 0)),Oo 36 (.pick (t 32) (t 35) (.const (.bool false))),Mv 37 36,Ot 38 37 (.fa 0 (t 1)),Ot 39 37 (.load true 3 (t 38)),Ot 40 37 (.build [(iv 0),(iv 0),Ss] [(0,(1,(Ci 600))),(2,(1,(.const (.string ⟨#[76,77,84]⟩))))]),Ot 41 37 (.eqs false [.int,.int,.str] (t 39) (t 40)),Oo 42 (.pick (t 37) (t 41) (.const (.bool false))),Mv 43 42,Ot 44 43 (.fa 3 (t 1)),Ot 45 43 (.load false 1 (t 44)),Ot 46 43 (.len false (t 45)),Ot 47 43 (.bin .eql (t 46) (Ci 211)),Oo 48 (.pick (t 43) (t 47) (.const (.bool false))),Mv 49 48,Ot 50 49 (.load true 3 (t 3)),Ot 51 49 (.call (.func 30) []),Ot 52 49 (.fld false 3 1 (t 51)),Ot 53 49 (.ia 4 (t 52) (Ci 0)),Ot 54 49 (.fa 1 (t 53)),Ot 55 49 (.load true 3 (t 54)),Ot 56 49 (.eqs false [.int,.int,.str] (t 50) (t 55)),Oo 57 (.pick (t 49) (t 56) (.const (.bool false))),Mv 58 57,Ot 59 58 (.load true 3 (t 5)),Ot 60 58 (.call (.func 30) []),Ot 61 58 (.fld true 0 3 (t 60)),Ot 62 58 (.eqs false [.int,.int,.str] (t 59) (t 61)),Oo 63 (.pick (t 58) (t 62) (.const (.bool false))),Mv 0 63] .ret)))))
def Xm {t:Tab}(h:Bw t=0):okT t:=by
 obtain⟨_,h2,h3⟩:=Nr h;have e:=Nm h2;refine⟨by simp only[maxLen];omega,λx hx=>?_⟩;have:=Nm (h3 x hx).2;simp only[maxLen];omega
def lkL (t:Tab) (n:Int):Loc:=if Bw t=0/\Gj n=true then Md t n else (0,0,⟨#[]⟩)
def lkE (t:Tab) (n:Int):Int:=if Bw t≠0 then Bw t else if Gj n=true then 0 else 3
def lk_in {t:Tab}{n:Int}(h:Bw t=0) (hn:Gj n=true):lkL t n=Md t n/\lkE t n=0:=⟨if_pos ⟨h,hn⟩,by unfold lkE;rw[if_neg (by simpa using h),if_pos hn]⟩
def nY {t:Tab}{n:Int}{full:Bool}(ht:okT t):Ac 34 [.agg [iv t.1.1,iv t.1.2.1,sv t.1.2.2,.sl t.2.length 4 full (rows chgC t.2)],iv n] h (.tup [.agg (locC (lkL t n)),iv (lkE t n)]):=tlook_a ht
def tl1 :Ac 34 [tabA Cs,iv 100] h (.tup [.agg (locC (7200,3600,⟨#[66]⟩)),iv 0]):=by
 have:=nY (t:=Cs) (n:=100) (full:=false) (h:=h) Km;obtain⟨e1,e2⟩:=lk_in Nq (show Gj 100=true from by decide);rw[e1,e2,cC] at this;exact this
def tl2 :Ac 34 [tabA Cs,iv 99] h (.tup [.agg (locC (3600,0,⟨#[65]⟩)),iv 0]):=by
 have:=nY (t:=Cs) (n:=99) (full:=false) (h:=h) Km;obtain⟨e1,e2⟩:=lk_in Nq (show Gj 99=true from by decide);rw[e1,e2,cB] at this;exact this
def tcomp0 :Ac 33 [.agg (srcC src0),sv nOld] h (.tup [tabA tab0,iv 0]):=by
 have:=comp_a (a:=src0.1) (z:=src0.2.1) (k:=src0.2.2) (nm:=nOld) (h:=h) Ru;rw[show (src0.1,src0.2.1,src0.2.2)=src0 from rfl,comp0] at this;exact this
def tchk0 :Ac 35 [tabA tab0] h (iv 0):=by
 have ho:=Xm chkT0;have:=Kg (a:=tab0.1.1) (b:=tab0.1.2.1) (c:=tab0.1.2.2) (l:=tab0.2) (full:=false) (h:=h) ho.1 ho.2;rw[show Bw ((tab0.1.1,tab0.1.2.1,tab0.1.2.2),tab0.2)=0 from chkT0] at this;exact this
def tbegun_a :Ac 8 [] h (bv true) :=
 ACalls.ev 1000 20 (Fc (Ek λh=>gG) (Fc (Ek λh=>tcomp0) (Fc (Ek λh=>tl1) (Fc (Ek λh=>tl2) (Ek λh=>tchk0))))) (by kernel_rfl)
end
section
open Go.Ab Civ
section
variable {α : Type}
def srtN (l:List (ByteArray×α)):List (ByteArray×α):=l.foldl insN []
def iH (l:List (ByteArray×α)) (n:ByteArray×α):(insN l n).Perm (n::l):=by
 unfold insN;refine List.perm_middle.trans ?_;rw[List.take_append_drop]
def T8 : ∀ {l acc:List (ByteArray×α)},risN acc->((acc++l).map (·.1)).Nodup->risN (l.foldl insN acc)/\(l.foldl insN acc).Perm (acc++l)
 | [],acc,h,_=>⟨h,by simp⟩
 | n::l,acc,h,hn=>by
  have hp:=iH acc n;have hno:hasN acc n.1=false:=by
   rw[Bool.eq_false_iff,ne_eq,Ht];intro hm;rw[List.map_append,List.map_cons,List.nodup_append] at hn;exact hn.2.2 n.1 hm n.1 (by simp) rfl
  have hp2:(insN acc n++l).Perm (acc++n::l):=(hp.append_right l).trans (by
   rw[List.cons_append];exact List.perm_middle.symm)
  obtain⟨h1,h2⟩:=T8 (l:=l) (Vz h hno) (((hp2.map (·.1)).nodup_iff).2 hn);exact⟨h1,h2.trans hp2⟩
def Vu {l:List (ByteArray×α)}(h:(l.map (·.1)).Nodup):risN (srtN l):=(T8 .nil (by simpa using h)).1
def Mk {l:List (ByteArray×α)}(h:(l.map (·.1)).Nodup):(srtN l).Perm l:=(T8 (l:=l) (acc:=[]) .nil (by simpa using h)).2
def tK {l m:List (ByteArray×α)}(h:(l.map (·.1)).Nodup) (hp:l.Perm m) (x:ByteArray):B4 l x=B4 m x:=by
 have key : ∀ {l:List (ByteArray×α)} {t:α},(l.map (·.1)).Nodup->(x,t)∈l->B4 l x=some t:=by
  intro l t;induction l with
  | nil=>intro _ h;cases h
  | cons n l ih =>
   intro hn hm
   rw[List.map_cons,List.nodup_cons] at hn
   rw[B4]
   rcases List.mem_cons.1 hm with rfl | hm
   .rw[if_pos rfl]
   .rw[if_neg λe=>hn.1 (by rw[e];exact List.mem_map.2 ⟨_,hm,rfl⟩)];exact ih hn.2 hm
 cases h1:B4 l x with
 | some t=>exact (key ((hp.map (·.1)).nodup_iff.1 h) (hp.mem_iff.1 (F4 h1))).symm
 | none=>exact (Fv.2 λhm=>Fv.1 h1 ((hp.map (·.1)).mem_iff.2 hm)).symm
def ris_perm {l m:List (ByteArray×α)}(h1:risN l) (h2:risN m) (hp:l.Perm m):l=m:=cR h1 h2 λx=>tK (Qv h1) hp x
def srt_of {l m:List (ByteArray×α)}(hn:(l.map (·.1)).Nodup) (hp:m.Perm l) (hs:m.Pairwise λa b=>ltS b.1 a.1=false):m=srtN l:=by
 refine ris_perm ?_ (Vu hn) (hp.trans (Mk hn).symm);have hnm:m.Pairwise λa b=>a.1≠b.1:=(List.pairwise_map (f:=Prod.fst)).1 ((hp.map Prod.fst).nodup_iff.2 hn);exact (hs.and hnm).imp λh=>(Xw h.2).resolve_right (by rw[h.1];simp)
end
def sw (l:Lnk):Lnk:=(l.2,l.1)
def srtL (k:List Lnk):List Lnk:=(srtN (k.map sw)).map sw
def sw_sw:sw ∘ sw=id:=by funext x;rfl
def Wv (k:List Lnk):(k.map sw).map (·.1)=k.map (·.2):=by rw[List.map_map];rfl
def rN (h:(k.map (·.2)).Nodup):(srtL k).Perm k:=by
 have:=((Mk (l:=k.map sw) (by rw[Wv];exact h)).map sw);rw[List.map_map,sw_sw,List.map_id] at this;exact this
def srtL_ris (h:(k.map (·.2)).Nodup):risL2 (srtL k):=by
 have:=Vu (l:=k.map sw) (by rw[Wv];exact h);exact List.pairwise_map.2 this
def srtL_of {m:List Lnk}(hn:(k.map (·.2)).Nodup) (hp:m.Perm k) (hs:m.Pairwise λa b=>ltS b.2 a.2=false):m=srtL k:=by
 have:=srt_of (l:=k.map sw) (m:=m.map sw) (by rw[Wv];exact hn) (hp.map sw) (List.pairwise_map.2 hs);unfold srtL;rw[<-this,List.map_map,sw_sw,List.map_id]
def mapT (s:Src) (zs:List Zon):List Nam:=zs.map λz=>(z.1,(ofV s z).1)
def errT (s:Src) (zs:List Zon):Int:=Dc (λz=>(ofV s z).2) zs
def Lu (s:Src):Rel×Int:=if Dh s≠0 then (rel0,Dh s) else if errT s (srtN s.2.1)≠0 then (rel0,errT s (srtN s.2.1)) else ((mapT s (srtN s.2.1),srtL s.2.2),0)
def mB (s:Src) (zs:List Zon):(mapT s zs).map (·.1)=zs.map (·.1):=by unfold mapT;rw[List.map_map];rfl
def make_ok (h:(Lu s).2=0):Dh s=0/\errT s (srtN s.2.1)=0/\(Lu s).1=(mapT s (srtN s.2.1),srtL s.2.2):=by
 unfold Lu at h ⊢;split at h
 .rename_i h1;exact absurd h h1
 rename_i h1;split at h
 .rename_i h2;exact absurd h h2
 rename_i h2;rw[if_neg h1,if_neg h2];exact⟨Decidable.of_not_not h1,Decidable.of_not_not h2,rfl⟩
def Ut (h:Dh s=0):(s.2.1.map (·.1)).Nodup/\(s.2.2.map (·.2)).Nodup /\ ∀ a∈s.2.1.map (·.1),∀ b∈s.2.2.map (·.2),a≠b:=by
 have:=(Rc h).2.1;unfold G7 at this;rw[List.nodup_append] at this;exact this
def sQ {nm:ByteArray}(h:¬I2 z nm<0):nm∈z.map (·.1):=by
 unfold I2 at h;rw[Tz] at h;simp only[Bool.not_eq_false,List.any_eq_true,decide_eq_true_eq] at h;obtain⟨x,hx,e⟩:=h;exact List.mem_map.2 ⟨x,hx,e⟩
def mC (h:(Lu s).2=0):Cb (Lu s).1=0:=by
 obtain⟨h1,h2,h3⟩:=make_ok h;obtain⟨n1,n2,n3⟩:=Ut h1;obtain⟨hE,_,hM,_,_⟩:=Rc h1;obtain⟨_,q2,q3,_,_,q6,q7⟩:=Hj hE;have hp:=Mk n1;have hpl:=rN n2;rw[h3];unfold Cb;have hnm:=mB s (srtN s.2.1);have hle:(mapT s (srtN s.2.1)).length=s.2.1.length:=by unfold mapT;rw[List.length_map,hp.length_eq]
 have hr:risN (mapT s (srtN s.2.1)):=Zz (l:=(srtN s.2.1).map λz=>(z.1,(ofV s z).1)) (by
  show List.Pairwise _ _;rw[List.pairwise_map];exact Vu n1) rfl
 have hhas : ∀ x,hasN (mapT s (srtN s.2.1)) x=true↔x∈s.2.1.map (·.1):=λx=>by rw[Ht,hnm,(hp.map (·.1)).mem_iff]
 rw[if_neg (by rw[hle];show ¬(_\/20<(srtL s.2.2).length);rw[hpl.length_eq];omega)];have hc:chkN none (mapT s (srtN s.2.1))=0:=qI (λn hn=>by
  unfold mapT at hn;obtain⟨z,hz,rfl⟩:=List.mem_map.1 hn;have hz':=hp.mem_iff.1 hz;refine⟨?_,?_⟩
  .have:=q6 z hz';unfold N3 at this;split at this
   .cases this
   .rename_i hh;exact Decidable.byContradiction λhb=>hh (.inl hb)
  .exact rK (G9 h2 z hz)) hr λn hn=>rfl
 rw[if_neg (by simpa using hc)];refine qL (λl hl=>?_) (srtL_ris n2) λn hn=>rfl;have hl':=hpl.mem_iff.1 hl;have hk:=q7 l hl';refine⟨?_,?_,?_⟩
 .unfold On at hk;split at hk
  .cases hk
  .rename_i hh;exact (Decidable.of_not_not hh).2
 .rw[Bool.eq_false_iff,ne_eq,hhas];exact λhm=>n3 _ hm l.2 (List.mem_map.2 ⟨l,hl',rfl⟩) rfl
 .rw[hhas];unfold Om at hM;rw[Bool.or_eq_false_iff] at hM;have:=List.any_eq_false.1 hM.1 l hl';exact sQ (by simpa using this)
end
section
open Go.Ab Go.RowKit Civ Go.Sort
attribute [local simp] Eb Fi E5 Dn Cp Ib
def tofV_a {a:List Rul}{x:Zon}(hok:Sb (a,z,k)) (hz0:Dh (a,z,k)=0) (hm:x∈z) :
  ACalls Tryz.prog 66 [.agg (srcB a z k),.agg [sv x.1,.sl x.2.length 10 false (rows eraC x.2)]] h λy h'=>h'=h/\y=.ret (.tup [tabA (ofV (a,z,k) x).1,iv (ofV (a,z,k) x).2]):=by
 have hE:=O6 hz0;have hal:=(Hj hE).1;simp only at hal;obtain⟨⟨pl,hpl⟩,_⟩:=Xk hz0 hm tMin;have hne:inP (Cq a tMin none x.2)≠[]:=by rw[show Cq a tMin none x.2=_ from hpl];unfold inP;rw[List.takeWhile_cons,if_pos (decide_eq_true (by show tMin<=tMax;decide))];simp
 have hF:ofV (a,z,k) x=ofP a x.2:=by unfold ofV ofP;rw[<-Tj hz0 hm]
 rw[hF];exact tof_a (V3 hok) om (Lb hE hm) hne
def tG (s:Src) {zs:List Zon}(h:i<zs.length):mapT s (zs.take (i+1))=mapT s (zs.take i)++[(zs[i].1,(ofV s zs[i]).1)]:=by
 unfold mapT;rw[List.take_succ_eq_append_getElem h,List.map_append];rfl
def Kz (s:Src) (zs:List Zon):(mapT s zs).length=zs.length:=List.length_map _
def tH (h0:Dh s=0) {e:Int}(he:errT s (srtN s.2.1)=e) (hne:e≠0):Lu s=(rel0,e):=by
 subst he;unfold Lu;rw[if_neg (by simpa using h0),if_pos hne]
def makeV_ok (h0:Dh s=0) (hE:errT s (srtN s.2.1)=0):Lu s=((mapT s (srtN s.2.1),srtL s.2.2),0):=by
 unfold Lu;rw[if_neg (by simpa using h0),if_neg (by simpa using hE)]
def nN {e:AV}:Wk (.tup [.agg [.sl 0 0 true [],.sl 0 0 true []],e]) (.tup [.agg (relC rel0),e]):=Wk.tup (wkw (Wk.agg (wkw Wk.nilF (wkw Wk.nilF wk0))) (wk1 rfl wk0))
end
section
open Go.Ab Go.RowKit Civ
def rel1:Rel:=([(nHt,tab0)],[(nHt,nOld)])
def upd1:Upd:=([],[(nHt,tab0)],[],[(nHt,nOld)])
def make0:Lu src0=(rel1,0):=by
 have hs:srtN src0.2.1=src0.2.1:=rfl;have h1:errT src0 (srtN src0.2.1)=0:=by
  rw[hs];show (if (ofV src0 (nHt,[era0,era1])).2≠0 then _ else (0:Int))=0;rw[of0];rfl
 rw[Lu,if_neg (by rw[chk0];simp),if_neg (by rw[h1];simp),hs];show (([(nHt,(ofV src0 (nHt,[era0,era1])).1)],srtL src0.2.2),(0:Int))=_;rw[of0];rfl
def bG:Cb rel1=0:=by
 have:=mC (s:=src0) (by rw[make0]);rwa [make0] at this
def diff0:Nz rel0 rel1=(upd1,0):=by
 rw[Nz,if_neg (by decide),if_neg (by rw[bG];simp)];rfl
def V4:F9 rel1:=⟨λn hn=>by
 simp only[rel1,List.mem_cons,List.not_mem_nil,or_false] at hn;subst hn;exact⟨by decide,Xm chkT0⟩,λl hl=>by
 simp only[rel1,List.mem_cons,List.not_mem_nil,or_false] at hl;subst hl;exact⟨by decide,by decide⟩⟩
def rchk1 :Ac 28 [.agg (relC rel1)] h (iv 0):=by
 have:=Xg (t:=rel1.1) (k:=rel1.2) (f1:=false) (f2:=false) (h:=h) V4;rw[show Cb (rel1.1,rel1.2)=0 from bG] at this;exact this
end
section
open Go.Ab Go.RowKit Civ
attribute [local simp] Cp Ib Dn Gv
section
def Y5 {a0 b0:ByteArray}{a1 b1:ByteArray}:Ei [.str,.str] [sv a0,sv a1] [sv b0,sv b1]=some (decide (a0=b0/\a1=b1)):=by
 simp only[Ei,K7,if_true,Ko,Option.some.injEq];simp only[Bool.decide_and,Bool.and_true];try (congr 1 <;> simp)
 try rfl
end
def k38:=Kx 38 [.e [] 7 [],.e [] 7 []]
def k39:=Kx 39 []
def k11:=Kx 11 [.e [] 19 [],.e [] 15 []]
def k42:=Kx 42 [.e [] 25 []]
def c22:AC:=(Sr [Oo 2 (.box 25 2 (t 0)),Oo 3 (.box 25 2 (t 1)),Mb 4 false] (.seq (Sr [Fa 6 0 2,Ld 7 6,Fa 8 0 3,Ld 9 8,Cl 10 42 [(t 7),(t 9)],Oo 11 (.un .not (t 10)),Mv 12 11,Of 13 12 (.fa 1 (t 2)),Of 14 12 (.load false 1 (t 13)),Of 15 12 (.len false (t 14)),Of 16 12 (.fa 1 (t 3)),Of 17 12 (.load false 1 (t 16)),Of 18 12 (.len false (t 17)),Of 19 12 (.bin .neq (t 15) (t 18)),Oo 20 (.pick (t 12) (.const (.bool true)) (t 19))] (Cd 20 (Sr [Mb 4 false] .ret) .skip)) (.seq (Sr [Mc 5 0] (.block 0 (.loop (.seq (Sr [Mv 21 5,Fa 22 1 2,Ld 23 22,Oo 24 (.len false (t 23)),Bn 25 .lss 21 24] (Cd 25 .skip (.exit 0))) (.seq (.block 1 (Sd [Fa 28 1 2,Ld 29 28,Mv 30 5,Oo 31 (.ia 2 (t 29) (t 30)),Oo 32 (.load true 2 (t 31)),Fa 33 1 3,Ld 34 33,Mv 35 5,Oo 36 (.ia 2 (t 34) (t 35)),Oo 37 (.load true 2 (t 36)),Oo 38 (.eqs true [.str,.str] (t 32) (t 37))] (Cd 38 (Sr [Mb 4 false] .ret) .skip))) (.reg [Mv 26 5,Bc 27 .add 26 1,Mv 5 27])))))) (Sr [Mb 4 true] .ret))))
def k22:Em Tryz.prog 22=some ⟨c22,[(.tmp 4)],39⟩:=by kernel_rfl
def cmpD:List UInt8->List UInt8->Int
 | [],[]=>0
 | [],_::_ => -1
 | _::_,[]=>1
 | x::xs,y::ys=>if x<y then -1 else if y<x then 1 else cmpD xs ys
def qD : ∀ (x y:List UInt8),cmpD x y=if x<y then -1 else if y<x then 1 else 0
 | [],[]=>by simp[cmpD]
 | [],y::ys=>by simp[cmpD]
 | x::xs,[]=>by simp[cmpD]
 | x::xs,y::ys=>by
  rw[cmpD,qD xs ys];simp only[List.cons_lt_cons_iff];by_cases h1:x<y
  .rw[if_pos h1,if_pos (.inl h1)]
  rw[if_neg h1];by_cases h2:y<x
  .rw[if_pos h2,if_neg,if_pos (.inl h2)];rintro (h | ⟨rfl,h⟩)
   .exact h1 h
   exact h1 h2
  rw[if_neg h2];have e:x=y:=by
   rw[UInt8.lt_iff_toNat_lt] at h1 h2;exact UInt8.toNat_inj.1 om
  subst e;simp only[h1,false_or,true_and]
def cmpB (a b:ByteArray) (i:Nat):Int:=cmpD (a.data.toList.drop i) (b.data.toList.drop i)
def uH (a b:ByteArray):cmpS a b=cmpB a b 0:=by
 unfold cmpB cmpS;rw[List.drop_zero,List.drop_zero,qD];simp only[Py]
def qP {s:ByteArray}(h:i<s.size):s.data.toList[i]'(by simpa using h)=Dy s i:=by
 unfold Dy;rw[List.getD_eq_getElem?_getD,List.getElem?_eq_getElem (by simpa using h)];rfl
def Ue {a:ByteArray}(h1:i<a.size) (h2:i<b.size):cmpB a b i=if ((Dy a i).toNat:Int)<((Dy b i).toNat:Int) then -1 else if ((Dy b i).toNat:Int)<((Dy a i).toNat:Int) then 1 else cmpB a b (i+1):=by
 unfold cmpB;rw[List.drop_eq_getElem_cons (show i<a.data.toList.length by simpa using h1),List.drop_eq_getElem_cons (show i<b.data.toList.length by simpa using h2),cmpD,qP h1,qP h2];simp only[UInt8.lt_iff_toNat_lt,Int.ofNat_lt]
def cmpB_l {a:ByteArray}(h1:a.size<=i) (h2:i<b.size):cmpB a b i = -1:=by
 unfold cmpB;rw[List.drop_of_length_le (show a.data.toList.length<=i by simpa using h1),List.drop_eq_getElem_cons (show i<b.data.toList.length by simpa using h2)];rfl
def cmpB_r {a:ByteArray}(h1:i<a.size) (h2:b.size<=i):cmpB a b i=1:=by
 unfold cmpB;rw[List.drop_of_length_le (show b.data.toList.length<=i by simpa using h2),List.drop_eq_getElem_cons (show i<a.data.toList.length by simpa using h1)];rfl
def cmpB_e {a:ByteArray}(h1:a.size<=i) (h2:b.size<=i):cmpB a b i=0:=by
 unfold cmpB;rw[List.drop_of_length_le (show a.data.toList.length<=i by simpa using h1),List.drop_of_length_le (show b.data.toList.length<=i by simpa using h2)];rfl
def Ln {a:ByteArray}(hs:a.size<=maxLen):Ac 38 [sv a,sv b] h (iv (cmpS a b)):=by
 have hs':a.size<=9223372036854775807:=by simpa [maxLen] using hs
 refine tI' k38 λN hn _ _ hbd=>?_;simp only[tb'] at hbd ⊢;refine wk'<|Ab<|wk'<|Ah<|?_;refine w_lp (ι:=Nat) (λ(i:Nat)=>[(5,iv (i:Int)),(4,.any)]++rn' 6 26) (λ(i:Nat)=>[]) (λ(i:Nat)=>i<=a.size/\i<=b.size/\cmpS a b=cmpB a b i) (λ(i:Nat)=>a.size-i) (0) (by exact⟨Nat.zero_le _,Nat.zero_le _,uH a b⟩) ?_;rintro i hi1;try simp only[sm',Nat.reduceAdd]
 obtain⟨hk1,hk2,hk3⟩:=hi1;refine Ab<|wm<|mw<|Vw (E6 lk)<|Vw (Bm lk lk)<|mw<|?_;refine sp' (t:=10) gt pt pt (λhg10=>?_) (λhg10=>?_)
 .refine sd<|mw<|sd<|mw<|sd<|Vw (E6 lk)<|sd<|Vw (Bm lk lk)<|Vw (Ar lk lk)<|sn'<|?_;refine cd' lk (λhc1=>?_) (λhc1=>?_)
  .refine za<|Ab<|Ah<|Ab<|Ab<|Bl<|Dw vm<|Dw vm<|?_;refine D' (v_ix lk lk om om) pt ?_;refine Dw vm<|Dw vm<|?_;refine D' (v_ix lk lk om om) pt ?_;refine Dw (Bm lk lk)<|Bi<|?_;refine B9 ?_;refine sn' ?_;refine cd' lk (λhc2=>?_) (λhc2=>?_)
   .replace hc2:((Dy a i).toNat:Int)<((Dy b i).toNat:Int):=hc2;rw[Ue om om,if_pos hc2] at hk3;refine wo<|Ag<|Au<|Ag<|Ag<|Au<|Ag<|Ad rz<|rT'<|?_;exact ivx hk3.symm
   replace hc2:¬((Dy a i).toNat:Int)<((Dy b i).toNat:Int):=hc2;refine za<|Ab<|Bl<|Dw vm<|Dw vm<|?_;refine D' (v_ix lk lk om om) pt ?_;refine Dw vm<|Dw vm<|?_;refine D' (v_ix lk lk om om) pt ?_;refine Dw (C7 lk lk)<|Bi<|?_;refine B9 ?_;refine sn' ?_;refine cd' lk (λhc3=>?_) (λhc3=>?_)
   .replace hc3:((Dy b i).toNat:Int)<((Dy a i).toNat:Int):=hc3;rw[Ue om om,if_neg hc2,if_pos hc3] at hk3;refine wo<|Au<|Ag<|Ag<|Au<|Ag<|Ad rz<|rT'<|?_;exact ivx hk3.symm
   replace hc3:¬((Dy b i).toNat:Int)<((Dy a i).toNat:Int):=hc3;rw[Ue om om,if_neg hc2,if_neg hc3] at hk3;refine Be<|Aw<|An<|Aq<|mw<|?_;refine ad<|mw<|Am<|Az<|?_;refine lT' (i+1) (by (try dsimp only);exact⟨by omega,by omega,hk3⟩)
  refine Bd<|As<|As<|Bp<|An<|Ab<|wm<|Vw (E6 lk)<|mw<|Vw (E6 lk)<|Vw (Bm lk lk)<|Am<|?_;refine An ?_;refine cd' lk (λhc4=>?_) (λhc4=>?_)
  .rw[cmpB_l om om] at hk3;refine wo<|Ag<|Ad rz<|rT'<|?_;exact ivx hk3.symm
  refine za<|Ab<|wm<|Vw (E6 lk)<|mw<|Vw (E6 lk)<|Vw (C7 lk lk)<|sn'<|?_;refine cd' lk (λhc5=>?_) (λhc5=>?_)
  .rw[cmpB_r om om] at hk3;refine wo<|Ag<|Ad rz<|rT'<|?_;exact ivx hk3.symm
  rw[cmpB_e om om] at hk3;refine za<|wo<|Ad rz<|rT'<|?_;exact ivx hk3.symm
 refine so<|so<|so<|so<|Vw (Ao lk lkb)<|sn'<|Cf lk<|Bd<|As<|As<|Bp<|An<|Ab<|?_;refine wm<|Vw (E6 lk)<|mw<|Vw (E6 lk)<|Vw (Bm lk lk)<|sn'<|?_;refine cd' lk (λhc4=>?_) (λhc4=>?_)
 .rw[cmpB_l om om] at hk3;refine wo<|Ag<|Ad rz<|rT'<|?_;exact ivx hk3.symm
 refine za<|Ab<|wm<|Vw (E6 lk)<|mw<|Vw (E6 lk)<|Vw (C7 lk lk)<|sn'<|?_;refine cd' lk (λhc5=>?_) (λhc5=>?_)
 .rw[cmpB_r om om] at hk3;refine wo<|Ag<|Ad rz<|rT'<|?_;exact ivx hk3.symm
 rw[cmpB_e om om] at hk3;refine za<|wo<|Ad rz<|rT'<|?_;exact ivx hk3.symm
def atN (t:List Nam) (nm:ByteArray):Int:=idxV (λn:Nam=>decide (n.1=nm)) t
def Jf {t:List Nam}{nm:ByteArray}:Ac 39 [.sl t.length 5 f1 (rows namC t),sv nm] h (iv (atN t nm)):=by
 refine tI' k39 λN hn _ _ hbd=>?_;simp only[tb'] at hbd ⊢;refine wk'<|Ab<|wk'<|Ah<|?_;refine w_lp (ι:=Nat) (λ(i:Nat)=>[(5,iv (i:Int)),(4,.any)]++rn' 6 14) (λ(i:Nat)=>[]) (λ(i:Nat)=>i<=t.length /\ ∀ j (hj:j<t.length),j<i->decide (t[j].1=nm)=false) (λ(i:Nat)=>t.length-i) (0) (by exact⟨by omega,λj hj h0=>absurd h0 om⟩) ?_;rintro i hi1;try simp only[sm',Nat.reduceAdd]
 obtain⟨hk1,hk2⟩:=hi1;refine Ab<|wm<|mw<|Vw (Bf lk)<|Vw (Bm lk lk)<|sn'<|?_;refine cd' lk (λhc1=>?_) (λhc1=>?_)
 .have hk:i<t.length:=by omega
  refine za<|Ab<|Ah<|wm<|mw<|?_;refine V' (Bh lk lk B8 nb ro om ro rfl) pt ?_;refine Vw (Cj lk dp0)<|Vw (Ba lk gt)<|mw<|Vw (J6 lk lk)<|sn'<|?_;refine cd' lk (λhc2=>?_) (λhc2=>?_)
  .refine wm<|mr<|Au<|Ag<|Ag<|Au<|Ag<|Ad rz<|rT'<|?_;refine ivx ?_;have hi:t.findIdx (λn:Nam=>decide (n.1=nm))=i:=(List.findIdx_eq hk).2 ⟨decide_eq_true hc2,λj hj=>hk2 j om hj⟩;unfold atN idxV;rw[if_pos (by rw[hi];exact hk),hi]
  refine Be<|Aw<|An<|Aq<|mw<|?_;refine ad<|mw<|Am<|Az<|?_;refine lT' (i+1) (by (try dsimp only);refine⟨by omega,λj hj h0=>?_⟩;by_cases e:j=i;(subst e;exact decide_eq_false hc2);exact hk2 j hj om)
 refine Bd<|As<|As<|Bp<|An<|wo<|Ad rz<|rT'<|?_;refine ivx ?_;have hi:t.findIdx (λn:Nam=>decide (n.1=nm))=t.length:=List.findIdx_eq_length.2 λn hn=>by obtain⟨j,hj,rfl⟩:=List.getElem_of_mem hn;exact hk2 j hj om
 unfold atN idxV;rw[if_neg om]
def Uf {t:List Nam}{nm:ByteArray}(h:atN t nm<0):hasN t nm=false:=Tz.1 h
def Nt {t:List Nam}{nm:ByteArray}(h:¬atN t nm<0):hasN t nm=true:=by
 cases hh:hasN t nm with
 | true=>rfl
 | false=>exact absurd (Tz.2 hh) h
def kI {a:ByteArray}(h:0<=cmpS a b):E3 (some a) b=false:=by
 show ltS a b=false;rw[Bool.eq_false_iff,ne_eq,<-M6];omega
def bL {a:ByteArray}(h:¬0<=cmpS a b):E3 (some a) b=true:=by
 show ltS a b=true;rw[<-M6];omega
def Up {t:List Nam}{f2:Bool}(hok:F9 (t,k)):Ac 11 [.agg [.sl t.length 5 f1 (rows namC t),.sl k.length 2 f2 (rows lnkC k)]] h (iv (Cb (t,k))):=by
 refine tI' k11 λN hn hlt _ hbd=>?_;simp only[tb'] at hbd ⊢;refine wr'<|E' (Bq cv rfl hl0 ha0) pt<|ms<|Ab<|wr'<|fq<|Vw (Aa lk gx gt0)<|Vw (Bf lk)<|Vw (C7 lk lki)<|mw<|?_;refine sp' (t:=11) gt pt pt (λhg11=>?_) (λhg11=>?_)
 .have hR:Cb (t,k)=2:=L3 (.inl (by show 20<t.length;omega));refine so<|so<|so<|so<|Vw (Ar lk lkb)<|sn'<|Cx lk<|wo<|?_;refine Ag<|Ad rz<|rT'<|?_;rw[hR]
 refine sd<|fq<|sd<|Vw (Aa lk gx gt1)<|sd<|Vw (Bf lk)<|sd<|Vw (C7 lk lki)<|Vw (Ao lk lk)<|sn'<|?_;refine cd' lk (λhc1=>?_) (λhc1=>?_)
 .have hR:Cb (t,k)=2:=L3 (.inr (by show 20<k.length;omega));refine wo<|Ag<|Ad rz<|rT'<|?_;rw[hR]
 have hno:¬(20<t.length\/20<k.length):=by omega
 refine za<|Ab<|wk'<|Ah<|?_;refine w_lp (ι:=Nat) (λ(i:Nat)=>[(3,iv (i:Int)),(2,.any),(4,.any)]++rn' 17 44) (λ(i:Nat)=>[]) (λ(i:Nat)=>i<=t.length/\chkN none t=chkN (G3 (·.1) t i) (t.drop i)) (λ(i:Nat)=>t.length-i) (0) (by exact⟨Nat.zero_le _,rfl⟩) ?_;rintro i hi1;try simp only[sm',Nat.reduceAdd]
 obtain⟨hi1,hi2⟩:=hi1;refine Ab<|wm<|fq<|Vw (Aa lk gx gt0)<|Vw (Bf lk)<|Vw (Bm lk lk)<|sn'<|?_;refine cd' lk (λhc2=>?_) (λhc2=>?_)
 .have hi:i<t.length:=by omega
  have hn_:=hok.1 _ (List.getElem_mem hi);rw[qJ hi] at hi2;refine za<|Ab<|Ah<|Ab<|wr'<|fq<|Vw (Aa lk gx gt0)<|mw<|?_;refine V' (Bh lk lk B8 nb ro om ro rfl) pt ?_;refine Vw (Cj lk dp0)<|Vw (Ba lk gt)<|Af mp (Z0 hn_.1) pt<|Vw (Bj lk)<|sn'<|?_;refine Bg lk (λhc3=>?_) (λhc3=>?_)
  .have hb:D3 t[i].1=false:=by simpa using hc3
   rw[if_pos hb] at hi2;refine wo<|Ag<|Au<|Ag<|Ag<|Au<|Ag<|Ad rz<|rT'<|?_;rw[Ip (r:=(t,k)) hno (by rw[hi2];decide),hi2]
  have hb:D3 t[i].1=true:=by simpa using hc3
  rw[if_neg (by rw[hb];simp)] at hi2;refine za<|wr'<|fq<|Vw (Aa lk gx gt0)<|mw<|?_;refine V' (Bh lk lk B8 nb ro om ro rfl) pt ?_;refine Vw (Cj lk dp1)<|Vw (Ax lk Bv rfl)<|Af mp (rcheck_a (l:=t[i].2.2) hn_.2.1 hn_.2.2) pt<|ms<|Ab<|wm<|Vw (Ca lk lki)<|sn'<|?_;refine cd' lk (λhc4=>?_) (λhc4=>?_)
  .have hv:Bw t[i].2≠0:=hc4;rw[if_pos hv] at hi2;refine wm<|mr<|Ag<|Au<|Ag<|Ag<|Au<|Ag<|Ad rz<|?_;refine rT' ?_;rw[Ip (r:=(t,k)) hno (by rw[hi2];exact hv),hi2]
  have hv:¬Bw t[i].2≠0:=hc4;rw[if_neg hv] at hi2;refine za<|Ab<|Bl<|Dw vm<|Dw (C7 lk lki)<|Dw vm<|?_;refine dq' (t:=44) gt pt pt (λhg44=>?_) (λhg44=>?_)
  .have hp:G3 (·.1) t i=some (t[i-1]'(by omega)).1:=by have:=Jh (f:=(·.1)) (l:=t) (i:=i-1) om;rwa [show i-1+1=i by omega] at this
   refine dO<|dg<|dO<|Dw (Aa lk gx gt0)<|dO<|Dw vm<|dO<|?_;refine D' (Ch lk lki om om) pt ?_;refine d_do gt ?_;refine D' (Bh (k:=i-1) lk lk B8 nb ro om ro rfl) pt ?_;refine dO<|Dw (Cj lk dp0)<|dO<|Dw (Ba lk gt)<|dO<|dg<|dO<|Dw (Aa lk gx gt0)<|dO<|Dw vm<|dO<|?_;refine D' (Bh lk lk B8 nb ro om ro rfl) pt ?_;refine dO<|Dw (Cj lk dp0)<|dO<|Dw (Ba lk gt)<|dO<|?_;refine Br mp (λhE hX=>Ln (hok.1 (t[i-1]'(by omega)) (List.getElem_mem _)).1) pt ?_;refine dO<|Dw (Gz lk lki)<|Dw (Ar lk lk)<|Bi<|?_;refine B9 ?_;refine sn' ?_;refine cd' lk (λhc5=>?_) (λhc5=>?_)
   .have hA:E3 (G3 (·.1) t i) t[i].1=false:=by rw[hp];exact kI om
    rw[if_pos hA] at hi2;refine wo<|Au<|Ag<|Ag<|Au<|Ag<|Ad rz<|rT'<|?_;rw[Ip (r:=(t,k)) hno (by rw[hi2];decide),hi2]
   have hA:E3 (G3 (·.1) t i) t[i].1=true:=by rw[hp];exact bL om
   refine Be<|Aw<|An<|Aq<|mw<|?_;refine ad<|mw<|Am<|Az<|?_;refine lT' (i+1) (by (try dsimp only);exact⟨by omega,by rw[hi2,if_neg (by rw[hA];simp)]⟩)
  have hA:E3 (G3 (·.1) t i) t[i].1=true:=by obtain rfl:i=0:=om;rfl
  refine dn<|dn<|dn<|dn<|dn<|dn<|dn<|dn<|dn<|dn<|dn<|dn<|dn<|dn<|?_;refine dn<|Dw (Ao lk lkb)<|Bi<|?_;refine B9 ?_;refine sn'<|Cf lk<|Be<|Aw<|An<|Aq<|mw<|?_;refine ad<|mw<|Am<|Az<|?_;refine lT' (i+1) (by (try dsimp only);exact⟨by omega,by rw[hi2,if_neg (by rw[hA];simp)]⟩)
 rw[List.drop_of_length_le (show t.length<=i by omega)] at hi2;have hN:chkN none t=0:=by rw[hi2];rfl
 have hC:=S9 (r:=(t,k)) hno hN;refine Bd<|As<|As<|Bp<|An<|Ab<|wk'<|Ah<|?_;refine w_lp (ι:=Nat) (λ(j:Nat)=>[(5,iv (j:Int)),(2,.any),(6,.any)]++rn' 61 43) (λ(j:Nat)=>[]) (λ(j:Nat)=>j<=k.length/\chkL t none k=chkL t (G3 (·.2) k j) (k.drop j)) (λ(j:Nat)=>k.length-j) (0) (by exact⟨Nat.zero_le _,rfl⟩) ?_;rintro j hi2;try simp only[sm',Nat.reduceAdd]
 obtain⟨hj1,hj2⟩:=hi2;refine Ab<|wm<|fq<|Vw (Aa lk gx gt1)<|Vw (Bf lk)<|Vw (Bm lk lk)<|sn'<|?_;refine cd' lk (λhc6=>?_) (λhc6=>?_)
 .have hj:j<k.length:=by omega
  have hln:=hok.2 _ (List.getElem_mem hj);rw[qM hj] at hj2;refine za<|Ab<|Ah<|wr'<|fq<|Vw (Aa lk gx gt1)<|mw<|?_;refine V' (Bh lk lk (λ_=>rfl) nb ro om ro rfl) pt ?_;refine Vw (Ax lk Ce rfl)<|E' (Bz hl1 ha1) pt<|E' (Ai lk cv gx rfl nb rfl Cc hs1) ptn<|sn'<|Ab<|wr'<|fq<|Vw (Aa lk gx gt1)<|Af mp (Z0 hln.2) pt<|Vw (Bj lk)<|sn'<|?_;refine Bg lk (λhc7=>?_) (λhc7=>?_)
  .have hb:D3 k[j].2=false:=by simpa using hc7
   rw[if_pos hb] at hj2;refine wo<|Ag<|Au<|Ag<|Ag<|Au<|Ag<|Ad rz<|rT'<|?_;rw[hC];exact ivx hj2.symm
  have hb:D3 k[j].2=true:=by simpa using hc7
  rw[if_neg (by rw[hb];simp)] at hj2;refine za<|Ab<|Ab<|Bl<|Dw vm<|Dw (C7 lk lki)<|Dw vm<|?_;refine dq' (t:=79) gt pt pt (λhg79=>?_) (λhg79=>?_)
  .have hp:G3 (·.2) k j=some (k[j-1]'(by omega)).2:=by have:=Jh (f:=(·.2)) (l:=k) (i:=j-1) om;rwa [show j-1+1=j by omega] at this
   refine dO<|dg<|dO<|Dw (Aa lk gx gt1)<|dO<|Dw vm<|dO<|?_;refine D' (Ch lk lki om om) pt ?_;refine d_do gt ?_;refine D' (Bh (k:=j-1) lk lk Da nb ro om ro rfl) pt ?_;refine dO<|Dw (Cj lk dp1)<|dO<|Dw (Ba lk gt)<|dO<|dg<|dO<|Dw (Aa lk gx gt1)<|dO<|?_;refine Br mp (λhE hX=>Ln (hok.2 (k[j-1]'(by omega)) (List.getElem_mem _)).2) pt ?_;refine dO<|Dw (Gz lk lki)<|Dw (Ar lk lk)<|Bi<|?_;refine B9 ?_;refine sn' ?_;refine cd' lk (λhc8=>?_) (λhc8=>?_)
   .have hA:E3 (G3 (·.2) k j) k[j].2=false:=by rw[hp];exact kI om
    rw[if_pos hA] at hj2;refine wo<|Ag<|Au<|Ag<|Ag<|Au<|Ag<|Ad rz<|rT'<|?_;rw[hC];exact ivx hj2.symm
   have hA:E3 (G3 (·.2) k j) k[j].2=true:=by rw[hp];exact bL om
   rw[if_neg (by rw[hA];simp)] at hj2;refine za<|Ab<|wr'<|fq<|Vw (Aa lk gx gt0)<|fq<|Vw (Aa lk gx gt1)<|Af mp (Jf) pt<|Vw (Gz lk lki)<|sn'<|?_;refine cd' lk (λhc9=>?_) (λhc9=>?_)
   .rw[if_pos (Nt om)] at hj2;refine wo<|Ag<|Au<|Ag<|Ag<|Au<|Ag<|Ad rz<|rT'<|?_;rw[hC];exact ivx hj2.symm
   rw[if_neg (by rw[Uf om];simp)] at hj2;refine za<|wr'<|fq<|Vw (Aa lk gx gt0)<|fq<|Vw (Aa lk gx gt0)<|Af mp (Jf) pt<|Vw (Bm lk lki)<|sn'<|?_;refine cd' lk (λhc10=>?_) (λhc10=>?_)
   .rw[if_pos (Uf om)] at hj2;refine wo<|Au<|Ag<|Ag<|Au<|Ag<|Ad rz<|rT'<|?_;rw[hC];exact ivx hj2.symm
   rw[if_neg (by rw[Nt om];simp)] at hj2;refine Be<|Aw<|An<|Aq<|mw<|?_;refine ad<|mw<|Am<|Az<|?_;refine lU' (j+1) (by (try dsimp only);exact⟨by omega,hj2⟩) (by refine zz ?_;exact bk' 1 hn hlt)
  have hA:E3 (G3 (·.2) k j) k[j].2=true:=by obtain rfl:j=0:=om;rfl
  rw[if_neg (by rw[hA];simp)] at hj2;refine dn<|dn<|dn<|dn<|dn<|dn<|dn<|dn<|dn<|dn<|dn<|Dw (Ao lk lkb)<|Bi<|?_;refine B9 ?_;refine sn'<|Cf lk<|za<|Ab<|wr'<|fq<|Vw (Aa lk gx gt0)<|fq<|Vw (Aa lk gx gt1)<|Af mp (Jf) pt<|Vw (Gz lk lki)<|?_;refine sn' ?_;refine cd' lk (λhc9=>?_) (λhc9=>?_)
  .rw[if_pos (Nt om)] at hj2;refine wo<|Ag<|Au<|Ag<|Ag<|Au<|Ag<|Ad rz<|rT'<|?_;rw[hC];exact ivx hj2.symm
  rw[if_neg (by rw[Uf om];simp)] at hj2;refine za<|wr'<|fq<|Vw (Aa lk gx gt0)<|fq<|Vw (Aa lk gx gt0)<|Af mp (Jf) pt<|Vw (Bm lk lki)<|sn'<|?_;refine cd' lk (λhc10=>?_) (λhc10=>?_)
  .rw[if_pos (Uf om)] at hj2;refine wo<|Au<|Ag<|Ag<|Au<|Ag<|Ad rz<|rT'<|?_;rw[hC];exact ivx hj2.symm
  rw[if_neg (by rw[Nt om];simp)] at hj2;refine Be<|Aw<|An<|Aq<|mw<|?_;refine ad<|mw<|Am<|Az<|?_;refine lU' (j+1) (by (try dsimp only);exact⟨by omega,hj2⟩) (by refine zz ?_;exact bk' 1 hn hlt)
 rw[List.drop_of_length_le (show k.length<=j by omega)] at hj2;refine Bd<|As<|As<|Bp<|An<|wo<|Ad rz<|rT'<|?_;rw[hC];exact ivx hj2.symm
section
set_option synthInstance.maxSize 4000
instance decNam:DecidableEq Nam:=inferInstanceAs (DecidableEq (ByteArray×Tab))
instance decNams:DecidableEq (List Nam):=inferInstance
instance decRel:DecidableEq Rel:=inferInstanceAs (DecidableEq (List Nam×List Lnk))
end
def Wt {α:Type}{l m:List α}{k:Nat}(h1:k<l.length) (h2:k<m.length) (h:l.take k=m.take k) (he:l[k]=m[k]):l.take (k+1)=m.take (k+1):=by
 rw[List.take_succ_eq_append_getElem h1,List.take_succ_eq_append_getElem h2,h,he]
def R4 {t u:List Nam}{f2:Bool}:Ac 42 [.sl t.length 5 f1 (rows namC t),.sl u.length 5 f2 (rows namC u)] h (bv (decide (t=u))):=by
 refine tI' k42 λN hn _ _ hbd=>?_;simp only[tb'] at hbd ⊢;refine wk'<|Ab<|wm<|Vw (Bf lk)<|mw<|Vw (Bf lk)<|Vw (Ca lk lk)<|Am<|?_;refine An ?_;refine cd' lk (λhc1=>?_) (λhc1=>?_)
 .have hne:¬t=u:=λe=>by subst e;exact hc1 rfl
  refine wo<|Ag<|Ad rz<|rT'<|?_;exact bvx (decide_eq_false hne).symm
 refine za<|Ab<|wk'<|Ah<|?_;refine w_lp (ι:=Nat) (λ(i:Nat)=>[(5,iv (i:Int)),(4,.any)]++rn' 11 31) (λ(i:Nat)=>[]) (λ(i:Nat)=>i<=t.length/\t.length=u.length/\t.take i=u.take i) (λ(i:Nat)=>t.length-i) (0) (by exact⟨by omega,by omega,by simp⟩) ?_;rintro i hi1;try simp only[sm',Nat.reduceAdd]
 obtain⟨hk1,hk2,hk3⟩:=hi1;refine Ab<|wm<|mw<|Vw (Bf lk)<|Vw (Bm lk lk)<|sn'<|?_;refine cd' lk (λhc2=>?_) (λhc2=>?_)
 .have hi:i<t.length:=by omega
  have hi':i<u.length:=by omega
  refine za<|Ab<|Ah<|Ab<|Bl<|Dw vm<|Dw vm<|?_;refine D' (Bh lk lk B8 nb ro om ro rfl) pt ?_;refine Dw (Cj lk dp0)<|Dw (Ba lk gt)<|Dw vm<|Dw vm<|?_;refine D' (Bh lk lk B8 nb ro om ro rfl) pt ?_;refine Dw (Cj lk dp0)<|Dw (Ba lk gt)<|?_;refine D' ((by first | exact Ca lk lk | exact H7 lk lk)) pt ?_;refine D' vm pt ?_;refine dq' (t:=28) gt pt pt (λhg28=>?_) (λhg28=>?_)
  .have hne:¬t=u:=λe=>by subst e;exact hg28 rfl
   refine dn<|dn<|dn<|dn<|dn<|dn<|dn<|dn<|dn<|dn<|dn<|dn<|Dw (Ar lk lkb)<|Bi<|?_;refine B9 ?_;refine sn'<|Cx lk<|wo<|Au<|Ag<|Ag<|Au<|Ag<|?_;refine Ad rz<|rT'<|?_;exact bvx (decide_eq_false hne).symm
  refine dO<|Dw vm<|dO<|Dw vm<|dO<|?_;refine D' (Bh lk lk B8 nb ro om ro rfl) pt ?_;refine dO<|Dw (Cj lk dp1)<|dO<|Dw (Ax lk Bv rfl)<|dO<|Dw vm<|dO<|Dw vm<|dO<|?_;refine D' (Bh lk lk B8 nb ro om ro rfl) pt ?_;refine dO<|Dw (Cj lk dp1)<|dO<|Dw (Ax lk Bv rfl)<|dO<|?_;refine Br mp (λhE hX=>Ry (t:=t[i].2) (u:=u[i].2)) pt ?_;refine dO<|Dw (Bj lk)<|Dw (Ao lk lk)<|Bi<|?_;refine B9 ?_;refine sn' ?_;refine Bg lk (λhc3=>?_) (λhc3=>?_)
  .have hne:¬t=u:=λe=>by subst e;simp at hc3
   refine wo<|Au<|Ag<|Ag<|Au<|Ag<|Ad rz<|rT'<|?_;exact bvx (decide_eq_false hne).symm
  have hst:=Wt hi hi' hk3 (Prod.ext (Decidable.of_not_not hg28) (by simpa using hc3));refine Be<|Aw<|An<|Aq<|mw<|?_;refine ad<|mw<|Am<|Az<|?_;refine lT' (i+1) (by (try dsimp only);exact⟨by omega,hk2,hst⟩)
 rw[List.take_of_length_le (show t.length<=i by omega),List.take_of_length_le (show u.length<=i by omega)] at hk3;refine Bd<|As<|As<|Bp<|An<|wo<|Ad rz<|rT'<|?_;exact bvx (decide_eq_true hk3).symm
def lnk_ext {a b:Lnk}(h:a.1=b.1/\a.2=b.2):a=b:=Prod.ext h.1 h.2
def W5 {t u:List Nam}{m:List Lnk}{f2 f3 f4:Bool}:Ac 22 [.agg [.sl t.length 5 f1 (rows namC t),.sl k.length 2 f2 (rows lnkC k)],.agg [.sl u.length 5 f3 (rows namC u),.sl m.length 2 f4 (rows lnkC m)]] h (bv (decide ((t,k)=(u,m)))):=by
 refine tI' k22 λN hn _ _ hbd=>?_;simp only[tb'] at hbd ⊢;refine wr'<|E' (Bq cv rfl hl0 ha0) pt<|E' (Bq cv rfl hl1 ha1) pt<|ms<|Ab<|wr'<|fq<|Vw (Aa lk gx gt0)<|fq<|Vw (Aa lk gx gt0)<|?_;refine Af mp (R4) pt<|Vw (Bj lk)<|mw<|?_;refine Cz (t:=12) gt pt pt (λhg12=>?_) (λhg12=>?_)
 .have hne:¬(t,k)=(u,m):=λe=>by cases e;simp at hg12
  refine so<|so<|so<|so<|so<|so<|so<|Vw (Ar lk lkb)<|sn'<|Cx lk<|wm<|?_;refine sr<|Ag<|Ad rz<|rT'<|?_;exact bvx (decide_eq_false hne).symm
 have htu:t=u:=by simpa using hg12
 refine sd<|fq<|sd<|Vw (Aa lk gx gt1)<|sd<|Vw (Bf lk)<|sd<|fq<|sd<|Vw (Aa lk gx gt1)<|sd<|Vw (Bf lk)<|sd<|Vw (Ca lk lk)<|?_;refine Vw (Ao lk lk)<|sn'<|?_;refine cd' lk (λhc1=>?_) (λhc1=>?_)
 .have hne:¬(t,k)=(u,m):=λe=>by cases e;exact hc1 rfl
  refine wo<|Ag<|Ad rz<|rT'<|?_;exact bvx (decide_eq_false hne).symm
 refine za<|Ab<|wk'<|Ah<|?_;refine w_lp (ι:=Nat) (λ(i:Nat)=>[(5,iv (i:Int)),(4,.any)]++rn' 21 18) (λ(i:Nat)=>[]) (λ(i:Nat)=>i<=k.length/\k.length=m.length/\k.take i=m.take i) (λ(i:Nat)=>k.length-i) (0) (by exact⟨by omega,by omega,by simp⟩) ?_;rintro i hi1;try simp only[sm',Nat.reduceAdd]
 obtain⟨hk1,hk2,hk3⟩:=hi1;refine Ab<|wm<|fq<|Vw (Aa lk gx gt1)<|Vw (Bf lk)<|Vw (Bm lk lk)<|sn'<|?_;refine cd' lk (λhc2=>?_) (λhc2=>?_)
 .have hi:i<k.length:=by omega
  have hi':i<m.length:=by omega
  refine za<|Ab<|Ah<|Ab<|Bl<|dg<|Dw (Aa lk gx gt1)<|Dw vm<|?_;refine D' (Bh lk lk Da nb ro om ro rfl) pt ?_;refine Dw (Ax lk Ce rfl)<|dg<|Dw (Aa lk gx gt1)<|Dw vm<|?_;refine D' (Bh lk lk Da nb ro om ro rfl) pt ?_;refine Dw (Ax lk Ce rfl)<|Dw (Ma lk lk Y5)<|Bi<|?_;refine B9 ?_;refine sn' ?_;refine cd' lk (λhc3=>?_) (λhc3=>?_)
  .have hne:¬(t,k)=(u,m):=λe=>by cases e;exact hc3 ⟨rfl,rfl⟩
   refine wo<|Au<|Ag<|Ag<|Au<|Ag<|Ad rz<|rT'<|?_;exact bvx (decide_eq_false hne).symm
  have hst:=Wt hi hi' hk3 (lnk_ext (Decidable.of_not_not hc3));refine Be<|Aw<|An<|Aq<|mw<|?_;refine ad<|mw<|Am<|Az<|?_;refine lT' (i+1) (by (try dsimp only);exact⟨by omega,hk2,hst⟩)
 rw[List.take_of_length_le (show k.length<=i by omega),List.take_of_length_le (show m.length<=i by omega)] at hk3;refine Bd<|As<|As<|Bp<|An<|wo<|Ad rz<|rT'<|?_;exact bvx (decide_eq_true (by rw[htu,hk3])).symm
end
section
open Go.Ab Go.RowKit Civ
attribute [local simp] Cp Ib Dn Eb Fi E5
section
def Rj {a0 a1 a2 a3 a4:AV}{l:List AV}:((a0::a1::a2::a3::a4::l).drop 0).take 5=[a0,a1,a2,a3,a4]:=rfl
def E4 {τ:Operand->AV}:Cm τ [] [(.sl 0 0 true []),(.sl 0 0 true [])]=some [(.sl 0 0 true []),(.sl 0 0 true [])]:=rfl
def Y7 {τ:Operand->AV}{y0:Operand}{a:AV}(h0:Lf τ y0 [a]):Cm τ [(0,1,y0)] [(.v (.string ⟨#[]⟩)),(iv 0),(iv 0),(.v (.string ⟨#[]⟩)),(.sl 0 0 true [])]=some [a,(iv 0),(iv 0),(.v (.string ⟨#[]⟩)),(.sl 0 0 true [])]:=fl h0 rfl
def Y6 {τ:Operand->AV}{y0:Operand}{a b:AV}(h0:Lf τ y0 [a,b]):Cm τ [(0,2,y0)] [(.v (.string ⟨#[]⟩)),(.v (.string ⟨#[]⟩))]=some [a,b]:=fl h0 rfl
end
def k132:=Kx 132 [.e [] 13 []]
def k70:=Ku (some [12]) 70 [.u [[],[],[0,1],[0,1],[0,1,2,3],[0,1],[0,1],[0,1],[0,1],[],[],[]],.e [] 18 [false,false],.e [] 8 [false,false,false],.e [] 19 [],.e [113] 19 [true,false,false]]
def qR (t:List Nam) (n:Nam):Nat:=t.findIdx λx=>ltS n.1 x.1
def insQ (t:List Nam) (n:Nam):List Nam:=t.take (qR t n)++n::t.drop (qR t n)
def qR_le (t:List Nam) (n:Nam):qR t n<=t.length:=List.findIdx_le_length
def qR_ins : ∀ {t:List Nam}{n:Nam},hasN t n.1=false->qR t n=posN t n.1
 | [],n,_=>rfl
 | x::t,n,h=>by
  rw[aT,Bool.or_eq_false_iff,decide_eq_false_iff_not] at h;have ih:=qR_ins h.2;unfold qR posN at ih ⊢;rw[List.findIdx_cons,List.findIdx_cons,ih];have:ltS n.1 x.1=!ltS x.1 n.1:=by
   rcases Xw h.1 with e | e
   .rw[e,Jq e];rfl
   rw[e,Jq e];rfl
  rw[this]
def insQ_ins {t:List Nam}(h:hasN t n.1=false):insQ t n=insN t n:=by unfold insQ insN;rw[qR_ins h]
def X2 (t:List Nam) (n:Nam):(insQ t n).length=t.length+1:=by
 have:=qR_le t n;unfold insQ;rw[List.length_append,List.length_take,List.length_cons,List.length_drop];omega
def Jx (t:List Nam) (n:Nam) (i:Nat):List Nam:=if qR t n<i then t.take (qR t n)++n::(t.drop (qR t n)).take (i-qR t n) else t.take i
def sM {t:List Nam}(hi:i<=t.length):(Jx t n i).length=if qR t n<i then i+1 else i:=by
 unfold Jx;split
 .rw[List.length_append,List.length_take,List.length_cons,List.length_take,List.length_drop];omega
 rw[List.length_take];omega
def qR_yes {t:List Nam}(hi:i<t.length) (h:¬qR t n<i) (hc:0<cmpS t[i].1 n.1):qR t n=i :=
 (List.findIdx_eq hi).2 ⟨jO.1 hc,λj hj=>by
  have:=List.not_of_lt_findIdx (xs:=t) (p:=λx=>ltS n.1 x.1) (i:=j) (by unfold qR at h;omega);simpa using this⟩
def qR_no {t:List Nam}(hi:i<t.length) (h:¬qR t n<i) (hc:¬0<cmpS t[i].1 n.1):¬qR t n<i+1:=λhlt=>by
 have e:qR t n=i:=by omega
 have hq:t.findIdx (λx=>ltS n.1 x.1)<t.length:=by unfold qR at e;omega
 have:=List.findIdx_getElem (w:=hq);have e2:t.findIdx (λx=>ltS n.1 x.1)=i:=e;simp only[e2] at this;exact hc (jO.2 this)
def sJ {t:List Nam}(h:qR t n<i) (hi:i<t.length):Jx t n (i+1)=Jx t n i++[t[i]]:=by
 unfold Jx;rw[if_pos om,if_pos h,List.append_assoc,List.cons_append,show i+1-qR t n=i-qR t n+1 by omega,List.take_succ_eq_append_getElem (by rw[List.length_drop];omega),List.getElem_drop];simp only[show qR t n+(i-qR t n)=i by omega]
def sK {t:List Nam}(h:¬qR t n<i+1) (hi:i<t.length):Jx t n (i+1)=Jx t n i++[t[i]]:=by
 unfold Jx;rw[if_neg h,if_neg om,List.take_succ_eq_append_getElem hi]
def sL {t:List Nam}(h:qR t n=i) (hi:i<t.length):Jx t n (i+1)=(Jx t n i++[n])++[t[i]]:=by
 unfold Jx;rw[if_pos om,if_neg om,h,show i+1-i=1 by omega,List.drop_eq_getElem_cons hi,List.append_assoc];rfl
def sN {t:List Nam}(h:qR t n<t.length):Jx t n t.length=insQ t n:=by
 unfold Jx insQ;rw[if_pos h,List.take_of_length_le (l:=t.drop (qR t n)) (by rw[List.length_drop];omega)]
def sO {t:List Nam}(h:¬qR t n<t.length):Jx t n t.length++[n]=insQ t n:=by
 have e:qR t n=t.length:=by have:=qR_le t n;omega
 unfold Jx insQ;rw[if_neg h,e,List.take_of_length_le (Nat.le_refl _),List.drop_of_length_le (Nat.le_refl _)]
def rput0 {t:List Nam}{id v:Nat}(he:h[id]?=some (.mk v 76 5 (rows namC t))) (hl:t.length<=1954687338240) (hs : ∀ x∈t,x.1.size<=maxLen) :
  ACalls Tryz.prog 132 [.own id v t.length,.agg (namC n)] h λx h' => ∃ z j u,h'=h++z/\z[j]?=some (.mk u 76 5 (rows namC (insQ t n)))/\x=.ret (.own (h.length+j) u (insQ t n).length):=by
 refine tN' k132 λN hn hlt _ hbd=>?_;simp only[tb'] at hbd ⊢;have hidN:id<N:=by rw[<-hn];exact (List.getElem?_eq_some_iff.1 he).1
 refine wr'<|E' (Bq (cvl lk1 rfl) rfl hl0 ha0) pt3<|mv' lkn pt4<|sn'<|wr'<|mv' lkn pt5<|Am<|B0 (ALe.own0' (st':=5) (ty:=76) gt5 hl1 pt5 ha1)<|wr'<|mv' lkb pt6<|?_;refine sn'<|Ab<|wk'<|Ah<|?_;refine w_lp (ι:=Nat×Nat) (λ⟨i,w⟩=>[(5,.own (N+1) w (Jx t n i).length),(6,bv (decide (qR t n<i))),(7,iv (i:Int))]++rn' 8 30) (λ⟨i,w⟩=>[(1,.mk w 76 5 (rows namC (Jx t n i)))]) (λ⟨i,w⟩=>i<=t.length) (λ⟨i,w⟩=>t.length-i) (⟨0,0⟩) (by exact Nat.zero_le _) ?_;rintro⟨i,w⟩ hi1;try simp only[sm',Nat.reduceAdd]
 replace hi1:i<=t.length:=hi1;have hpl:=sM hi1 (n:=n);refine Ab<|wm<|mw<|Vw (Ej lk)<|Vw (Bm lk lk)<|sn'<|?_;refine cd' lk (λhc1=>?_) (λhc1=>?_)
 .have hi:i<t.length:=by omega
  have hti:=hs _ (List.getElem_mem hi);refine za<|Ab<|Ah<|Ab<|Ab<|Bl<|Dw vm<|?_;refine D' ((by first | exact v_not lk | exact Bj lk)) pt ?_;refine D' vm pt ?_;refine dq' (t:=16) gt pt pt (λhg16=>?_) (λhg16=>?_)
  .have hq:¬qR t n<i:=by simpa using hg16
   rw[if_neg hq] at hpl;refine dO<|Dw vm<|dO<|Dw vm<|dO<|?_;refine D' (Ck lk lk (Ez he) B8 nb ro om (by first | rfl | (simp;done) | omega)) pt ?_;refine dO<|Dw (Df lk)<|dO<|?_;refine D' (E7 lk (Ez he) B8 om nb gt0) pt ?_;refine dO<|dg<|dO<|Dw (Aa lk gx gt0)<|dO<|?_;refine Br mp (λhE hX=>Ln hti) pt ?_;refine dO<|Dw (C7 lk lki)<|Dw (Ar lk lk)<|Bi<|?_;refine B9 ?_;refine sn' ?_;refine cd' lk (λhc2=>?_) (λhc2=>?_)
   .have hqi:=qR_yes hi hq om;have hstp:=sL hqi hi;refine wm<|Vw (Ak lk gx Rj rfl)<|E' (Ep (Dk cw) hl2 ha2) pt<|?_;refine E' (C6 (C0 lk gx rfl Dv nb) lk gx (F0 _) om rfl hs1) pt ?_;refine ms<|Aq<|ms<|Aq<|mw<|mw<|mw<|?_;refine V' (Ck lk lk (Ez he) B8 nb ro om (by first | rfl | (simp;done) | omega)) pt ?_;refine V' (Iv lk (Ez he) B8 om rfl) pt ?_;refine E' (Ep (Dk cw) hl3 ha3) pt ?_;refine E' (C6 (C0 lk (hga hn rfl) rfl Dv nb) lk (hga hn rfl) (by rw[List.length_append,F0,show ([sv n.1,iv n.2.1.1,iv n.2.1.2.1,sv n.2.1.2.2,chS n.2.2]:List AV).length=5 from rfl];omega) om rfl hs1) pt ?_;refine mw<|Am<|Aw<|An<|Aq<|mw<|?_;refine ad<|mw<|Am<|Az<|?_;refine lU' (⟨i+1,w+1+1⟩) (by (try dsimp only);omega) (by refine zz ?_;exact bkE' 2 hn hlt (by repeat (first | exact wk0 | refine wka ?_ | refine wk1 rfl ?_ | refine wk1 (by first | rfl | exact ivx om | exact bvx (decide_eq_true om) | exact bvx (decide_eq_decide.2 om) | exact bvx (Eq.trans (decide_eq_decide.2 om) hg16) | (rw[hstp,List.length_append];rfl) | (rw[hstp,List.length_append,List.length_append];rfl)) ?_)) (by rw[hstp,Bt,Bt];rfl))
   have hqn:=qR_no hi hq om;have hstp:=sK hqn hi;refine za<|Aq<|mw<|mw<|mw<|?_;refine V' (Ck lk lk (Ez he) B8 nb ro om (by first | rfl | (simp;done) | omega)) pt ?_;refine V' (Iv lk (Ez he) B8 om rfl) pt ?_;refine E' (Ep (Dk cw) hl2 ha2) pt ?_;refine E' (C6 (C0 lk gx rfl Dv nb) lk gx (F0 _) om rfl hs1) pt ?_;refine mw<|Am<|Aw<|An<|Aq<|mw<|?_;refine ad<|mw<|Am<|Az<|?_;refine lU' (⟨i+1,w+1⟩) (by (try dsimp only);omega) (by refine zz ?_;exact bkE' 2 hn hlt (by repeat (first | exact wk0 | refine wka ?_ | refine wk1 rfl ?_ | refine wk1 (by first | rfl | exact ivx om | exact bvx (decide_eq_true om) | exact bvx (decide_eq_decide.2 om) | exact bvx (Eq.trans (decide_eq_decide.2 om) hg16) | (rw[hstp,List.length_append];rfl) | (rw[hstp,List.length_append,List.length_append];rfl)) ?_)) (by rw[hstp,Bt];rfl))
  have hq:qR t n<i:=by simpa using hg16
  rw[if_pos hq] at hpl;have hstp:=sJ hq hi;refine dn<|dn<|dn<|dn<|dn<|dn<|dn<|dn<|dn<|Dw (Ao lk lkb)<|Bi<|?_;refine B9 ?_;refine sn'<|Cf lk<|za<|Aq<|mw<|mw<|mw<|?_;refine V' (Ck lk lk (Ez he) B8 nb ro om (by first | rfl | (simp;done) | omega)) pt ?_;refine V' (Iv lk (Ez he) B8 om rfl) pt ?_;refine E' (Ep (Dk cw) hl2 ha2) pt ?_;refine E' (C6 (C0 lk gx rfl Dv nb) lk gx (F0 _) om rfl hs1) pt ?_;refine mw<|Am<|Aw<|An<|Aq<|mw<|?_;refine ad<|mw<|Am<|Az<|?_;refine lU' (⟨i+1,w+1⟩) (by (try dsimp only);omega) (by refine zz ?_;exact bkE' 2 hn hlt (by repeat (first | exact wk0 | refine wka ?_ | refine wk1 rfl ?_ | refine wk1 (by first | rfl | exact ivx om | exact bvx (decide_eq_true om) | exact bvx (decide_eq_decide.2 om) | exact bvx (Eq.trans (decide_eq_decide.2 om) hg16) | (rw[hstp,List.length_append];rfl) | (rw[hstp,List.length_append,List.length_append];rfl)) ?_)) (by rw[hstp,Bt];rfl))
 obtain rfl:i=t.length:=by omega
 refine Bd<|As<|As<|Bp<|An<|Ab<|wm<|?_;refine V' ((by first | exact v_not lk | exact Bj lk)) pt ?_;refine sn' ?_;refine cd' lk (λhc3=>?_) (λhc3=>?_)
 .have hq:¬qR t n<t.length:=by simpa using hc3
  rw[if_neg hq] at hpl;have hend:=sO hq;refine Aq<|mw<|Vw (Ak lk gx Rj rfl)<|E' (Ep (Dk cw) hl2 ha2) pt<|?_;refine E' (C6 (C0 lk gx rfl Dv nb) lk gx (F0 _) om rfl hs1) pt ?_;refine ms<|wm<|mr<|Ad rz<|?_;refine⟨_,1,_,rfl,(by rw[<-hend,Bt];rfl),?_⟩;rw[hn,<-hend,List.length_append];rfl
 have hq:qR t n<t.length:=by simpa using hc3
 have hend:=sN hq;refine za<|wm<|mr<|Ad rz<|?_;refine⟨_,1,_,rfl,(by rw[<-hend];rfl),?_⟩;rw[hn,<-hend]
def rput_t {t:List Nam}{id v:Nat}(he:h[id]?=some (.mk v 76 5 (rows namC t))) (hl:t.length<=1954687338240) (hs : ∀ x∈t,x.1.size<=maxLen) :
  ACalls Tryz.prog 132 [.own id v t.length,.agg (namC n)] h λx h'=>x=.ret (.own id (v+1) (t.length+1))/\h'=h.set id (.mk (v+1) 76 5 (rows namC (insQ t n))):=by
 have:=ACalls.turnTo he (Ib _) (rput0 (n:=n) he hl hs);rw[X2] at this;exact this
def nz (x:Zon):Nam:=(x.1,Ga)
def N8 (l:List Zon):List Nam:=(l.map nz).foldl insQ []
def kY {l:List Zon}(h:i<l.length):N8 (l.take (i+1))=insQ (N8 (l.take i)) (nz l[i]):=by
 unfold N8;rw[List.take_succ_eq_append_getElem h,List.map_append,List.foldl_append];rfl
def aV : ∀ (l acc:List Nam),(l.foldl insQ acc).length=acc.length+l.length
 | [],acc=>rfl
 | n::l,acc=>by rw[List.foldl_cons,aV,X2,List.length_cons];omega
def rJ (l:List Zon):(N8 l).length=l.length:=by unfold N8;rw[aV,List.length_map,List.length_nil,Nat.zero_add]
def insQ_mem {t:List Nam}{x:Nam}(h:x∈insQ t n):x=n\/x∈t:=by
 unfold insQ at h;rcases List.mem_append.1 h with h | h
 .exact .inr (List.mem_of_mem_take h)
 rcases List.mem_cons.1 h with h | h
 .exact .inl h
 exact .inr (List.mem_of_mem_drop h)
def aU {x:Nam} : ∀ {l acc:List Nam},x∈l.foldl insQ acc->x∈acc\/x∈l
 | [],acc,h=>.inl h
 | n::l,acc,h=>by
  rcases aU (l:=l) h with h | h
  .rcases insQ_mem h with rfl | h
   .exact .inr (by simp)
   exact .inl h
  exact .inr (List.mem_cons_of_mem _ h)
def tabs1_sz {l:List Zon}(h : ∀ x∈l,x.1.size<=maxLen) : ∀ x∈N8 (l.take i),x.1.size<=maxLen:=λx hx=>by
 rcases aU hx with hx | hx
 .cases hx
 obtain⟨y,hy,rfl⟩:=List.mem_map.1 hx;exact h y (List.mem_of_mem_take hy)
def aW : ∀ {l acc:List Nam},((acc++l).map (·.1)).Nodup->l.foldl insQ acc=l.foldl insN acc
 | [],acc,_=>rfl
 | n::l,acc,hn=>by
  have hno:hasN acc n.1=false:=by
   rw[Bool.eq_false_iff,ne_eq,Ht];intro hm;rw[List.map_append,List.map_cons,List.nodup_append] at hn;exact hn.2.2 n.1 hm n.1 (by simp) rfl
  have hp2:(insN acc n++l).Perm (acc++n::l):=((iH acc n).append_right l).trans (by
   rw[List.cons_append];exact List.perm_middle.symm)
  rw[List.foldl_cons,List.foldl_cons,insQ_ins hno,aW (((hp2.map (·.1)).nodup_iff).2 hn)]
def tabs1_eq {l:List Zon}(hn:(l.map (·.1)).Nodup):N8 l=(srtN l).map nz:=by
 have hnm:(l.map nz).map (·.1)=l.map (·.1):=by rw[List.map_map];rfl
 have h1:N8 l=srtN (l.map nz):=aW (by rw[List.nil_append,hnm];exact hn);rw[h1];refine (srt_of (by rw[hnm];exact hn) ((Mk hn).map nz) ?_).symm;have:=Vu hn;exact List.pairwise_map.2 (this.imp λh=>Jq h)
def tab2 (s:Src) (zs:List Zon) (i:Nat):List Nam:=mapT s (zs.take i)++(zs.drop i).map nz
def Oa (s:Src) (zs:List Zon) (i:Nat):(tab2 s zs i).length=zs.length:=by
 unfold tab2;rw[List.length_append,Kz,List.length_take,List.length_map,List.length_drop];omega
def oE {zs:List Zon}(h:i<zs.length):(tab2 s zs i)[i]'(by rw[Oa];exact h)=nz zs[i]:=by
 have hl:(mapT s (zs.take i)).length=i:=by rw[Kz,List.length_take];omega
 unfold tab2;rw[List.getElem_append_right om];simp only[hl,Nat.sub_self,List.getElem_map,List.getElem_drop,Nat.add_zero]
def rM {zs:List Zon}(h:i<zs.length):(tab2 s zs i).set i (((tab2 s zs i)[i]'(by rw[Oa];exact h)).1,(ofV s zs[i]).1)=tab2 s zs (i+1):=by
 have hl:(mapT s (zs.take i)).length=i:=by rw[Kz,List.length_take];omega
 rw[oE h];unfold tab2;rw[List.set_append_right _ _ om,hl,Nat.sub_self,List.drop_eq_getElem_cons h,List.map_cons,List.set_cons_zero,tG s h,List.append_assoc];rfl
def tab2_end (s:Src) (zs:List Zon):tab2 s zs zs.length=mapT s zs:=by
 unfold tab2;rw[List.take_length,List.drop_length];simp
def sP {x:Zon}(hn:(z.map (·.1)).Nodup) (hx:x∈z) : ∃ p,∃ hp:p<z.length,I2 z x.1=(p:Int)/\z[p]=x:=by
 obtain⟨p,hp,rfl⟩:=List.getElem_of_mem hx;refine⟨p,hp,?_,rfl⟩;have hf:z.findIdx (λy:Zon=>decide (y.1=z[p].1))=p:=(List.findIdx_eq hp).2 ⟨by simp,λj hj=>by
  rw[decide_eq_false_iff_not];intro e;have:=List.pairwise_iff_getElem.1 hn j p (by simp;omega) (by simpa using hp) hj;simp only[List.getElem_map] at this;exact this e⟩
 unfold I2 idxV;rw[hf,if_pos hp]
def lnk_refl {a b:Lnk}:ltS b.2 a.2=false\/ltS a.2 b.2=false:=by
 cases h:ltS b.2 a.2 with
 | false=>exact .inl rfl
 | true=>exact .inr (Jq h)
def lnk_tr {a b c:Lnk}(h1:ltS b.2 a.2=false) (h2:ltS c.2 b.2=false):ltS c.2 a.2=false:=by
 cases h:ltS c.2 a.2 with
 | false=>rfl
 | true=>rw[tI h2 h] at h1;cases h1
def leL (a b:Lnk):Prop:=ltS b.2 a.2=false
def sA {l:List Nam}{k:Nat}(hk:k<l.length):(rows namC l).set (k*5) (sv l[k].1)=rows namC l:=by
 have h1:rows namC l=rows namC (l.take k)++(namC l[k]++rows namC (l.drop (k+1))):=by
  have:l=l.take k++(l[k]::l.drop (k+1)):=by rw[<-List.drop_eq_getElem_cons hk,List.take_append_drop]
  calc rows namC l=rows namC (l.take k++(l[k]::l.drop (k+1))):=by rw[<-this]
   _=_:=by rw[Bt];simp only[rows,List.flatMap_cons]
 have h2:(rows namC (l.take k)).length=k*5:=by rw[F0,List.length_take,Nat.min_eq_left om]
 rw[h1,List.set_append_right _ _ om,h2,Nat.sub_self];rfl
def e_stNT {T:List AV}{x y:Operand}{id v s k:Nat}{l:List Nam}{tb:Tab}{h':AH}(hx:Ae T x=.ptr id v (k*5+1)) (hc:D8 (Ae T y)=some [iv tb.1.1,iv tb.1.2.1,sv tb.1.2.2,chS tb.2]) (he:h[id]?=some (.mk v ty s (rows namC l))) (hk:k<l.length) (hh:h.set id (.mk v ty s (rows namC (l.set k (l[k].1,tb))))=h') :
  aeff h (Ae T) (.store 4 x y)=some (.v undef,h'):=by
 refine Ai hx hc he rfl (by rw[F0];omega) rfl ?_ hh;have:=W7 (f:=namC) (st:=5) B8 hk (l[k].1,tb);rw[<-this];simp only[namC,setCells];rw[sA hk]
def rmake_g {a:List Rul}(hok:Sb (a,z,k)) (hck : ∀ r∈a,∀ h,Ac 210 [.agg (rulC r)] h (iv (Dd r))) (hcz : ∀ h,Ac 131 [.agg (srcB a z k)] h (iv (Dh (a,z,k)))) :
  Ac 70 [.agg (srcB a z k)] h (.tup [.agg (relC (Lu (a,z,k)).1),iv (Lu (a,z,k)).2]):=by
 refine tUW' k70 λN hn hlt _ hbd=>?_;simp only[tb'] at hbd ⊢;refine wr'<|E' (Bq cv rfl hl0 ha0) pt<|E' (Bz hl1 ha1) pt<|ms<|wr'<|Vw (Ak lk gx Ap rfl)<|Af mp (hcz _) pt<|ms<|?_;refine Ab<|wm<|Vw (Ca lk lki)<|sn'<|?_;refine cd' lk (λhc1=>?_) (λhc1=>?_)
 .have hM:Lu (a,z,k)=(rel0,Dh (a,z,k)):=if_pos hc1;refine wr'<|Vw (Bb E4)<|mw<|E' (Ai lk cv gx rfl nb rfl Cc hs1) ptn<|mr<|Ag<|Ad (rsn (rm1 (rr_c gt gx (ld1 B1 rfl)) (rm1 (rr_t gt) rm0)))<|rtW'<|?_;rw[hM];exact nN
 have h0:Dh (a,z,k)=0:=Decidable.of_not_not hc1;obtain⟨n1,n2,n3⟩:=Ut h0;have hchk:=O6 h0;obtain⟨q1,q2,q3,q4,q5,q6,q7⟩:=Hj hchk;simp only at q1 q2 q3 q4 q5 q6 q7 n1 n2;have hpz:=Mk n1;have hzl:=hpz.length_eq;have hzs : ∀ x∈z,x.1.size<=maxLen:=λx hx=>(hok.2.1 x hx).1;refine za<|wr'<|E' (Bz hl2 ha2) pt<|Am<|?_;refine B0 (ALe.trans (ALe.own0Cell (st':=5) (ty:=76) gx gt0 hl3 pt0 (Eq.trans (congrArg (λz=>List.set z _ _) ha3) hs2)) (ALe.own0Cell (st':=2) (ty:=90) gx gt1 hl4 pt1 (Eq.trans (congrArg (λz=>List.set z _ _) ha4) hs2))) ?_;refine Ab<|wk'<|Ah<|?_;refine w_lp (ι:=Nat×Nat) (λ⟨i,v⟩=>[(6,iv (i:Int))]++rn' 18 18) (λ⟨i,v⟩=>[(2,.mk 0 25 2 [.own (N+3) v (N8 (z.take i)).length,.own (N+4) 0 0]),(3,.mk v 76 5 (rows namC (N8 (z.take i))))]) (λ⟨i,v⟩=>i<=z.length) (λ⟨i,v⟩=>z.length-i) (⟨0,0⟩) (by exact Nat.zero_le _) ?_;rintro⟨i,v⟩ hi1;try simp only[sm',Nat.reduceAdd]
 replace hi1:i<=z.length:=hi1;have htl:=rJ (z.take i);rw[List.length_take] at htl;refine Ab<|wm<|fq<|Vw (Aa lk gx gt1)<|Vw (Bf lk)<|Vw (Bm lk lk)<|sn'<|?_;refine cd' lk (λhc2=>?_) (λhc2=>?_)
 .have hi:i<z.length:=by omega
  have hst:=kY hi;refine za<|Ab<|Ah<|bT<|uf (G0 lk)<|?_;refine Wo rfl (Aa lk gx gt0) (hx_l rfl) hl5 nh pt ?_;refine u_fr rfl (G0 lk) pt ?_;refine Wo rfl (Aa lk gx gt1) (hx_l rfl) hl5 nh pt ?_;refine u_fr rfl vm pt ?_;refine u_fr rfl (Bh lk lk Ho nb ro om ro rfl) pt ?_;refine uf (Cj lk dp0)<|uf (Ba lk gt)<|uf (Bb (Y7 cw))<|?_;refine bW mp gx (λhU hUe=>ACalls.wk (wk1 rfl (wkw (Wk.agg (wk1 rfl (wk1 rfl (wk1 rfl (wk1 rfl (wkw Wk.nilF wk0)))))) wk0)) (rput_t (n:=nz z[i]) hUe om (tabs1_sz hzs))) nh hs3 pt ?_;refine u_fr rfl (G0 lk) pt ?_;refine u_st (Ai lk cv gx rfl nb rfl Ct hs2) lk nh ptn ?_;refine u_nil<|Aw<|An<|Aq<|mw<|?_;refine ad<|mw<|Am<|Az<|?_;refine lU' (⟨i+1,v+1⟩) (by (try dsimp only);omega) (by refine zz ?_;exact ALe.same wA' (by rw[hst,X2]))
 have hT:N8 (z.take i)=(srtN z).map nz:=by rw[List.take_of_length_le (show z.length<=i by omega)];exact tabs1_eq n1
 rw[hT];refine Bd<|As<|As<|Bp<|An<|Ab<|wk'<|Ah<|?_;refine w_lp (ι:=Nat) (λ(i:Nat)=>[(7,iv (i:Int)),(3,.any),(8,.any),(9,.any)]++rn' 36 34) (λ(i:Nat)=>[(2,.mk 0 25 2 [.own (N+3) v (tab2 (a,z,k) (srtN z) i).length,.own (N+4) 0 0]),(3,.mk v 76 5 (rows namC (tab2 (a,z,k) (srtN z) i)))]) (λ(i:Nat)=>i<=(srtN z).length/\errT (a,z,k) (srtN z)=errT (a,z,k) ((srtN z).drop i)) (λ(i:Nat)=>(srtN z).length-i) (0) (by exact⟨Nat.zero_le _,rfl⟩) ?_;rintro i hi2;try simp only[sm',Nat.reduceAdd]
 obtain⟨hi1,hi2⟩:=hi2;have htl:=Oa (a,z,k) (srtN z) i;refine Ab<|wm<|fq<|Vw (Aa lk gx gt0)<|Vw (Ej lk)<|Vw (Bm lk lk)<|sn'<|?_;refine cd' lk (λhc3=>?_) (λhc3=>?_)
 .have hi:i<(srtN z).length:=by omega
  have hmem:=hpz.mem_iff.1 (List.getElem_mem hi);obtain⟨p,hp,hpl,hpe⟩:=sP n1 hmem;have hnm:((tab2 (a,z,k) (srtN z) i)[i]'(by omega)).1=(srtN z)[i].1:=by rw[oE hi];rfl
  have hst:=rM (s:=(a,z,k)) hi;unfold errT at hi2;rw[Kn hi,<-hpe] at hi2;rw[<-hpe] at hst;refine za<|Ab<|Ah<|Ab<|Bl<|Dw (Ak lk gx Ap rfl)<|dg<|Dw (Aa lk gx gt1)<|Dw (Ak lk gx Ap rfl)<|dg<|Dw (Aa lk gx gt0)<|Dw vm<|?_;refine D' (Ck lk lk gx B8 nb ro om (by first | rfl | (simp;done) | omega)) pt ?_;refine D' (Df lk) pt ?_;refine D' (E7 lk gx B8 om nb gt0) pt ?_;refine Br mp (λhE hX=>rX om) pt ?_;rw[hnm,hpl];refine D' (Bh (k:=p) lk lk Ho nb ro om ro rfl) pt ?_;refine D' (Ax lk Ce rfl) pt ?_;refine Br mp (λhE hX=>lH (k:=k) hck (V3 hok) om (Lb hchk (List.getElem_mem hp))) pt ?_;refine Dw vm<|Dw (B7 lk gt)<|Dw (B7 lk gt)<|D5 rfl rfl (hlk hn rfl) (Lv) pt B2<|Bi<|?_;refine Eg Lh ?_;refine E' (Ai lk cv gx rfl nb rfl Ay hs5) ptn<|ms<|Ab<|wm<|Vw (Ca lk lki)<|sn'<|?_;refine cd' lk (λhc4=>?_) (λhc4=>?_)
  .have hv:(ofV (a,z,k) z[p]).2≠0:=hc4;rw[if_pos hv] at hi2;have hM:=tH h0 hi2 hv;refine wr'<|Vw (Bb E4)<|mw<|E' (Ai lk cv gx rfl nb rfl Cc hs1) ptn<|mr<|Ag<|Au<|Ag<|Ag<|Au<|?_;refine Ag<|Ad (rsn (rm1 (rr_c gt gx (ld1 B1 rfl)) (rm1 (rr_t gt) rm0)))<|rtW'<|?_;rw[hM];exact nN
  have hv:¬(ofV (a,z,k) z[p]).2≠0:=hc4;rw[if_neg hv] at hi2;refine za<|Aq<|fq<|Vw (Aa lk gx gt0)<|mw<|Vw (Ak lk gx Av rfl)<|?_;refine V' (Ck lk lk gx B8 nb ro om (by first | rfl | (simp;done) | omega)) pt ?_;refine V' (Df lk) pt ?_;refine E' (e_stNT (tb:=(ofV (a,z,k) z[p]).1) lk cv gx om hs3) ptn ?_;refine Am<|Aw<|An<|Aq<|mw<|?_;refine ad<|mw<|Am<|Az<|?_;refine lU' (i+1) (by (try dsimp only);exact⟨by omega,hi2⟩) (by refine zz ?_;exact bk' 5 hn hlt (by rw[hst,Oa,Oa];rfl) (hT:=by simp[AV.lt,AV.ltL,Ent.lt]) (hE:=by simp[AV.lt,AV.ltL,Ent.lt]))
 obtain rfl:i=(srtN z).length:=by omega
 rw[List.drop_of_length_le (Nat.le_refl _)] at hi2;have hM:=makeV_ok h0 hi2;rw[tab2_end,Kz];refine Bd<|As<|As<|Bp<|An<|Ab<|wk'<|Ah<|?_;refine w_lp (ι:=Nat×List Lnk×Nat) (λ⟨i,M,w⟩=>[(10,iv (i:Int)),(11,.any)]++rn' 70 59) (λ⟨i,M,w⟩=>[(2,.mk 0 25 2 [.own (N+3) v (srtN z).length,.own (N+4) w M.length]),(4,.mk w 90 2 (rows lnkC M))]) (λ⟨i,M,w⟩=>i<=k.length/\M.Perm (k.take i)/\M.Pairwise leL) (λ⟨i,M,w⟩=>k.length-i) (⟨0,[],0⟩) (by exact⟨Nat.zero_le _,List.Perm.refl _,.nil⟩) ?_;rintro⟨i,M,w⟩ hi3;try simp only[sm',Nat.reduceAdd]
 obtain⟨hm1,hm2,hm3⟩:=hi3;have hML:=hm2.length_eq;rw[List.length_take] at hML;refine Ab<|wm<|fq<|Vw (Aa lk gx gt2)<|Vw (Bf lk)<|Vw (Bm lk lk)<|sn'<|?_;refine cd' lk (λhc5=>?_) (λhc5=>?_)
 .have hi:i<k.length:=by omega
  refine za<|Ab<|Ah<|Ab<|Bl<|dg<|Dw (Aa lk gx gt1)<|dg<|Dw (Aa lk gx gt2)<|Dw vm<|?_;refine D' (Bh lk lk Da nb ro om ro rfl) pt ?_;refine Dw (Ax lk Ce rfl)<|D5 rfl rfl (hlk hn rfl) (G8 (Y6 cw)) pt B2<|Bi<|?_;refine Eg Lh ?_;refine E' (C6 (C0 lk gx rfl Ce nb) lk gx (Kd _) om rfl hs4) pt ?_;refine fq<|E' (Ai lk cv gx rfl nb rfl Gi hs2) ptn<|sn'<|wm<|ms<|Ah<|?_;refine It (ι:=Nat×List Lnk) (λ⟨q,K⟩=>[(11,iv (q:Int))]++rn' 88 41) (λ⟨q,K⟩=>[(2,.mk 0 25 2 [.own (N+3) v (srtN z).length,.own (N+4) (w+1) K.length]),(4,.mk (w+1) 90 2 (rows lnkC K))]) (λ⟨q,K⟩=>q<=i/\K.Perm (k.take (i+1))/\insR leL i q K) (λ⟨q,K⟩=>q) (⟨i,M++[k[i]]⟩) (by exact⟨Nat.le_refl _,(by rw[List.take_succ_eq_append_getElem hi];exact hm2.append_right _),Q4 (by rw[List.length_append,List.length_singleton];omega) (by rw[List.take_left' om];exact hm3)⟩) (by try simp only[sm',Nat.reduceAdd];exact ALe.same wA' (by first | (rw[Bt,List.length_append];done) | (rw[Bt,List.length_append];rfl))) ?_;rintro⟨q,K⟩ hi4;try simp only[sm',Nat.reduceAdd]
  obtain⟨hq1,hq2,hq3⟩:=hi4;have hKL:=hq2.length_eq;rw[List.length_take] at hKL;have hsz : ∀ x∈K,x.2.size<=maxLen:=λx hx=>(hok.2.2 x (List.mem_of_mem_take (hq2.mem_iff.1 hx))).2;refine Ab<|Ab<|Bl<|Dw vm<|Dw (C7 lk lki)<|Dw vm<|?_;refine dq' (t:=90) gt pt pt (λhg90=>?_) (λhg90=>?_)
  .obtain⟨j,rfl⟩ : ∃ j,q=j+1:=⟨q-1,by omega⟩;have hz3:j+1<K.length:=by omega
   refine dO<|dg<|dO<|Dw (Aa lk gx gt1)<|dO<|Dw vm<|dO<|?_;refine D' (Ck (k:=j+1) lk lk gx Da nb ro om (by first | rfl | (simp;done) | omega)) pt ?_;refine dO<|Dw (Df lk)<|dO<|?_;refine D' (E7 lk gx Da om nb gt1) pt ?_;refine dO<|dg<|dO<|Dw (Aa lk gx gt1)<|dO<|Dw vm<|dO<|?_;refine D' (Ch lk lki om om) pt ?_;refine d_do gt ?_;refine D' (Ck (k:=j) lk lk gx Da nb ro om (by first | rfl | (simp;done) | omega)) pt ?_;refine dO<|Dw (Df lk)<|dO<|?_;refine D' (E7 lk gx Da om nb gt1) pt ?_;refine d_do gt ?_;refine Br mp (λhE hX=>Ln (hsz _ (List.getElem_mem om))) pt ?_;refine dO<|Dw (Bm lk lki)<|Dw (Ar lk lk)<|Bi<|?_;refine B9 ?_;refine sn' ?_;refine cd' lk (λhc6=>?_) (λhc6=>?_)
   .have hlt_:ltS K[j+1].2 K[j].2=true:=M6.1 hc6;obtain⟨hk1,hk2⟩:=Ty (r:=leL) (λ_ _=>lnk_refl) hq3 hz3 (by unfold leL;rw[hlt_];simp);refine za<|Ab<|Ah<|Qr [N+2]<|dg<|Dw (Aa lk gx gt1)<|Dw vm<|dg<|?_;refine d_ldP lk gx (ld0 gt) (by simp) pt ?_;refine D' vm pt ?_;refine D' (Ch lk lki om om) pt ?_;refine dg<|Dw (Aa lk gx gt1)<|Dw vm<|?_;refine D' (Ch lk lki om om) pt ?_;refine D' (Ck (k:=j) lk lk gx Da nb ro om (by first | rfl | (simp;done) | omega)) pt ?_;refine D' (Iv lk gx Da om rfl) pt ?_;refine dg<|Dw (Aa lk gx gt1)<|Dw vm<|?_;refine D' (Ck (k:=j+1) lk lk gx Da nb ro om (by first | rfl | (simp;done) | omega)) pt ?_;refine D' (Iv lk gx Da om rfl) pt ?_;refine D' (Ck (k:=j+1) lk lk gx Da nb ro om (by first | rfl | (simp;done) | omega)) pt ?_;refine Bi<|P4<|?_;refine U5 rfl rfl (Nn (z:=K[j]) lk cv gx Da rfl om hs4) (by intro i hi;simp only[cond_true,List.mem_cons,List.not_mem_nil,or_false] at hi;subst hi;first | rfl | exact (hga hn rfl).trans (hga hn rfl).symm) ptn ?_;refine Uz rfl (Ck (k:=j) lk lk gx Da nb (by first | rfl | first | omega | (rw[List.length_set];omega)) (by first | omega | (rw[List.length_set];omega)) (by first | rfl | (simp;done) | first | omega | (rw[List.length_set];omega))) pt ?_;refine U5 rfl rfl (Nn (z:=K[j+1]) lk cv gx Da rfl (by first | omega | (rw[List.length_set];omega)) hs4) (by intro i hi;simp at hi) ptn ?_;refine U4<|Aw<|An<|Aq<|mw<|?_;refine V' (Ch lk lki om om) pt ?_;refine mw<|Am<|Az<|?_;refine lU' (⟨j,(K.set (j+1) K[j]).set j K[j+1]⟩) (by (try dsimp only);exact⟨by omega,hk2.trans hq2,hk1⟩) (by refine zz ?_;exact ALe.same wA' (by rw[List.length_set,List.length_set]))
   have hge_:ltS K[j+1].2 K[j].2=false:=by rw[Bool.eq_false_iff,ne_eq,<-M6];exact hc6
   have hend:=Q0 (r:=leL) (λ_ _ _=>lnk_tr) hq3 hz3 hge_;refine Bd<|As<|As<|Bp<|Aw<|An<|Aq<|mw<|?_;refine ad<|mw<|Am<|Az<|?_;refine lU' (⟨i+1,K,w+1⟩) (by (try dsimp only);exact⟨by omega,hq2,(by rwa [List.take_of_length_le om] at hend)⟩) (by refine zz ?_;exact bk' 5 hn hlt (hT:=by simp[AV.lt,AV.ltL,Ent.lt]) (hE:=by simp[AV.lt,AV.ltL,Ent.lt]))
  obtain rfl:q=0:=by omega
  have hend:=Q3 hq3;refine dn<|dn<|dn<|dn<|dn<|dn<|dn<|dn<|dn<|dn<|dn<|dn<|dn<|dn<|?_;refine dn<|Dw (Ao lk lkb)<|Bi<|?_;refine B9 ?_;refine sn'<|Cf lk<|Bd<|As<|As<|Bp<|Aw<|An<|Aq<|mw<|?_;refine ad<|mw<|Am<|Az<|?_;refine lU' (⟨i+1,K,w+1⟩) (by (try dsimp only);exact⟨by omega,hq2,(by rwa [List.take_of_length_le om] at hend)⟩) (by refine zz ?_;exact bk' 5 hn hlt (hT:=by simp[AV.lt,AV.ltL,Ent.lt]) (hE:=by simp[AV.lt,AV.ltL,Ent.lt]))
 obtain rfl:M=srtL k:=by rw[List.take_of_length_le (show k.length<=i by omega)] at hm2;exact srtL_of n2 hm2 hm3
 refine Bd<|As<|As<|Bp<|?_;refine B0 (ALe.trans (ALe.iceCellR (hga hn rfl) (hga hn rfl) om gt0 (List.take_of_length_le (by rw[F0,Kz];exact Nat.le_refl _)) (by rw[F0,Kz];exact Nat.le_refl _) pt0 hs3 hs2) (ALe.iceCellR (hga hn rfl) (hga hn rfl) om gt1 (List.take_of_length_le (by rw[Kd];exact Nat.le_refl _)) (by rw[Kd];exact Nat.le_refl _) pt1 hs4 hs2)) ?_;refine wr'<|Vw (Ak lk gx B1 rfl)<|E' (Ai lk cv gx rfl nb rfl Cc hs1) ptn<|mr<|Ad (rsn (rm1 (rr_c gt gx (ld1 B1 rfl)) (rm1 (rr_t gt) rm0)))<|rtW'<|?_;rw[hM];dsimp only [relC];rw[Kz];exact Wk.refl _
end
section
open Go.Ab Go.RowKit Civ
def okRs0:okRs src0.1:=Ru.1
def crl_ev : ∀ r∈rul0,evF Tryz.prog noO 1000 20 210 [.agg (rulC r)] []=some (.ret (iv (Dd r)),[]):=λr hr=>by
 rcases List.mem_cons.1 hr with rfl | hr
 .kernel_rfl
 .rcases List.mem_cons.1 hr with rfl | hr
  .kernel_rfl
  .cases hr
def rcrl0 : ∀ r∈rul0,∀ h,Ac 210 [.agg (rulC r)] h (iv (Dd r)):=λr hr h=>ACalls.ev 1000 20 noO_ok (crl_ev r hr)
def rtms1 :Ac 213 [.sl 2 11 false (rows rulC rul0),sv nEu,iv 3600] h (.tup [.sl (Kr rul0 nEu 3600).1.length 3 false (rows timC (Kr rul0 nEu 3600).1),iv (Kr rul0 nEu 3600).2]) :=
 by rw[<-cA];exact fN (l:=rul0) rcrl0 okRs0 (by decide)
def chkZ_ev:evF Tryz.prog (orc 213 [.sl 2 11 false (rows rulC rul0),sv nEu,iv 3600] (.tup [.sl (Kr rul0 nEu 3600).1.length 3 false (rows timC (Kr rul0 nEu 3600).1),iv (Kr rul0 nEu 3600).2])) 1000 20 131 [.agg (srcC src0)] []=some (.ret (iv 0),[]):=by kernel_rfl
def rchkZ0 :Ac 131 [.agg (srcC src0)] h (iv 0) :=
 ACalls.ev 1000 20 (Ek λh=>rtms1) chkZ_ev (hl:=by kernel_rfl) (hc:=by kernel_rfl)
end
end Go.Proofs.YtfcecekilahfiaaGreatDoor
namespace Go.Ab
section
open Go.RowKit
section
variable {P : Program}
def ACalls.of_turnS {f:FuncId}{args:List AV}{h:AH}{id ver ty st:Nat}{cells:List AV}{R':Nat->List AV->Prop}(he:enters P f=true) (hi:h[id]?=some (.mk ver ty st cells)) (hne:cells≠[])
  (hc : ∀ w g (vs:Array Value) b cap arr,SimH w g h->RepL w g args vs.toList->g.loc id ver=some (some ⟨b,0,none⟩,cap)->cap<=maxLen->w.heap[b]?=some (.cells arr ty (0,0))->arr.size=cap*st->cells.length<=arr.size->RepL w g cells (arr.toList.take cells.length) ->
   Calls P f vs w λe w' => ∃ (n':Nat) (cells':List AV) (vs':List Value) (arr':Array Value),e=.returned (.slice (some ⟨b,0,none⟩) n' cap)/\n'<=cap/\R' n' cells'/\RepL w g cells' vs'/\w'.heap[b]?=some (.cells arr' ty (0,0))/\arr'.size=arr.size/\vs'.length<=arr.size/\arr'.toList.take vs'.length=vs' /\
    w'.os=w.os/\w'.tape=w.tape/\w'.output=w.output/\w.heap.size<=w'.heap.size /\ ∀ k,k<w.heap.size->k≠b->w'.heap[k]?=w.heap[k]?) :
  ACalls P f args h λx h' => ∃ n' cells',R' n' cells'/\x=.ret (.own id ver n')/\h'=h.set id (.mk ver ty st cells'):=by
 refine⟨he,λw g vs hs ha=>?_⟩;obtain⟨A,cap,f1,fm,f3⟩:=hs.ent _ _ _ _ _ hi;rcases f3 with ⟨e,_⟩ | ⟨b,arr,rfl,hc0,hd,hb,hsz,hle,hrl⟩
 .exact absurd e hne
 have hid:id<h.length:=(List.getElem?_eq_some_iff.1 hi).1;have how:OwAt g h id b:=⟨ver,ty,st,cells,_,cap,hi,f1,hc0,rfl⟩;refine (hc w g vs b cap arr hs ha f1 fm hb hsz hle hrl).mono ?_;rintro e w' ⟨n',cells',vs',arr',rfl,hn',hR,hRep,h1,h2,h3,h4,h5,h6,h7,h8,h9⟩;have hother : ∀ j,g.D j\/(∃ i,i≠id/\OwAt g h i j)\/(∃ i,RwAt h i j)->w'.heap[j]?=w.heap[j]?:=by
  rintro j (hj | ⟨i,hne',hj⟩ | ⟨i,hj⟩);rotate_left 2
  .exact h9 j (hs.own_not_D (.inr ⟨i,hj⟩)).2 (λe=>by subst e;exact hs.own_ne_raw how hj)
  .exact h9 j (hs.lt j hj) (λe=>hd (e ▸ hj))
  .exact h9 j (hs.own_not_D (.inl ⟨i,hj⟩)).2 (λe=>hne' (hs.inj i id j hj (e ▸ how)))
 obtain⟨k1,k2,k3⟩:=hs.put (w':=w') (g':=g) (h':=h.set id (.mk ver ty st cells')) id ver ty st cells' (some ⟨b,0,none⟩) cap
  (λi hne'=>by rw[List.getElem?_set_ne (Ne.symm hne')]) (by rw[List.getElem?_set_self hid]) (by simp) rfl (λ_ _ _ h=>h) (λ_ _ _ h=>.inl h) f1 (λv l hv=>(hs.fresh _ _ _ hv).2 _ _ _ _ hi) hother h8 fm
  (.inr ⟨b,arr',rfl,hc0,hd,h1,by rw[h2,hsz],by rw[<-hRep.length,h2];exact h3,by rw[<-hRep.length,h4];exact RepL.mono (Gh.le.refl g) (λj hj=>hother j (.inl hj)) _ _ hRep⟩)
  (λj hj _ i hne' ho=>by
   simp at hj;subst hj;exact hne' (hs.inj i id _ ho how)) (λk hk _ _=>by simp at hk;subst hk;exact .inl ⟨id,how⟩)
 refine⟨.ret (.own id ver n'),_,g,?_,k1,k2,⟨h5,h6,h7,h8,λk hk hn=>h9 k hk (λe=>hn (.inl ⟨id,e ▸ how⟩))⟩,λk hk=>?_,_,_,hR,rfl,rfl⟩
 .simp only[EndR,Rep];exact⟨_,_,f1,hn',fm,rfl⟩
 .rcases k3 k hk with ho | ⟨ho,_⟩
  .exact .inl ho
  .simp at ho;subst ho;exact .inl (.inl ⟨id,how⟩)
end
end
section
open Go.RowKit Go.Lib
variable {P : Program}
def W3 (w:World) (t e ty:TypeId) (z:Value) (ht:P.underlying t=some (.slice e)) (hv : ∀ w,(zeroValue e).run P w=.ok z w) (b o n c:Nat) (hn:0<n)
  (hc : ∀ j,j<n*z.cells.size->(w.cell? ⟨b,o+j,none⟩).isSome=true) (hf : ∀ j,j<n*z.cells.size->w.frozen? ⟨b,o+j,none⟩=false) (h2 : ∀ v∈(Builtin.zeroCells z.cells n).toList,v.oneCell'=true) :
  (Builtin.clear_ #[t] ty #[.slice (some ⟨b,o,none⟩) n c]).run P w=.ok (.tuple #[]) (w.setCells b o (Builtin.zeroCells z.cells n).toList):=by
 have hl:(Builtin.zeroCells z.cells n).toList.length=n*z.cells.size:=by rw[Array.length_toList,size_zeroCells]
 have hst:=run_storeCells_cells (P:=P) b o (Builtin.zeroCells z.cells n).toList 0 w (by rw[hl];simpa using hc) (by rw[hl];simpa using hf) h2;simp only[Nat.add_zero] at hst;obtain⟨m,rfl⟩ : ∃ m,n=m+1:=⟨n-1,by omega⟩;simp[Builtin.clear_,run_underlying ht,hv,hst]
def Jn (w:World) (dT sT ty elem:TypeId) (k b o dLen dCap:Nat) (a:Addr) (sLen sCap:Nat) (cs:List Value)
  (hu:P.underlying dT=some (.slice elem)) (hs:(P.info? elem).map (·.size)=some k) (hn:cs.length=Nat.min sLen dLen*k)
  (hsrc : ∀ j v,cs[j]?=some v->w.cell? (a.add j)=some v) (hc : ∀ j,j<cs.length->(w.cell? ⟨b,o+j,none⟩).isSome=true) (hf : ∀ j,j<cs.length->w.frozen? ⟨b,o+j,none⟩=false) (h1 : ∀ v∈cs,v.oneCell'=true) :
  (Builtin.copy_ #[dT,sT] ty #[.slice (some ⟨b,o,none⟩) dLen dCap,.slice (some a) sLen sCap]).run P w=.ok (goInt (Nat.min sLen dLen)) (w.setCells b o cs):=by
 have hl:=run_loadCells_list (P:=P) w a cs hsrc;have hst:=run_storeCells_cells (P:=P) b o cs 0 w (by simpa using hc) (by simpa using hf) h1;cases hq:P.info? elem with
 | none=>simp[hq] at hs
 | some i =>
  have hi:i.size=k:=by simpa [hq] using hs
  simp[Builtin.copy_,run_underlying hu,Builtin.lenOf,Builtin.firstCells,sizeOf,typeInfo,hq,hi,<-hn,hl,hst]
def Hg (P:Program) (g o:Nat) (t:TypeId) (vs:List Value) (cur:Array Value) (w:World) (hg:w.heap[g]?=some (.cells cur t (0,0))) (hle:o+vs.length<=cur.size) (h1 : ∀ v∈vs,v.oneCell'=true) :
  w.setCells g o vs=w.setRow g (cur.toList.take o++vs++cur.toList.drop (o+vs.length)).toArray:=by
 have a:=run_storeCells_at (P:=P) g o t vs 0 cur w hg (by simpa using hle) h1;have b:=run_storeCells_cells (P:=P) g o vs 0 w (λj hj=>by
  rw[cell_of_row w g _ cur t (0,0) hg];rw[Array.getElem?_eq_getElem (show o+0+j<cur.size by omega)];rfl) (λj hj=>frozen_of_row w g _ cur t hg) h1
 rw[a] at b;simpa using (Result.ok.inj b).2.symm
end
section
open Go.RowKit
section
variable {P : Program}
def eR (w:World) (ty st:Nat) (A:Option Addr) (cap:Nat) (olds:List Value):Prop :=
 (cap=0/\olds=[]) \/ ∃ b arr,cap≠0/\A=some ⟨b,0,none⟩/\w.heap[b]?=some (.cells arr ty (0,0))/\arr.size=cap*st/\olds.length<=arr.size/\arr.toList.take olds.length=olds
def nL (w:World) (ty st:Nat) (A:Option Addr) (cap:Nat) (A2:Option Addr) (cap2:Nat) (news:List Value) (w':World):Prop :=
 (∃ b arr,cap2≠0/\A2=some ⟨b,0,none⟩/\w'.heap[b]?=some (.cells arr ty (0,0))/\arr.size=cap2*st/\news.length<=arr.size/\arr.toList.take news.length=news/\(w.heap.size<=b\/cap≠0/\A=some ⟨b,0,none⟩)) /\
  w'.os=w.os/\w'.tape=w.tape/\w'.output=w.output/\w.heap.size<=w'.heap.size /\ ∀ k,k<w.heap.size->(cap≠0->A.map (·.block)≠some k)->w'.heap[k]?=w.heap[k]?
def ACalls.of_turnG {f:FuncId}{args:List AV}{h:AH}{id ver ty st:Nat}{cells:List AV}{R':Nat->List AV->Prop}(he:enters P f=true) (hi:h[id]?=some (.mk ver ty st cells))
  (hc : ∀ w g (vs:Array Value) A cap olds,SimH w g h->RepL w g args vs.toList->g.loc id ver=some (A,cap)->cap<=maxLen->RepL w g cells olds->eR w ty st A cap olds->(∀ b,cap≠0->A.map (·.block)=some b->OwAt g h id b) ->
   Calls P f vs w λe w' => ∃ (n':Nat) (cells':List AV) (vs':List Value) (A2:Option Addr) (cap2:Nat),e=.returned (.slice A2 n' cap2)/\n'<=cap2/\cap2<=maxLen/\R' n' cells'/\RepL w g cells' vs'/\nL w ty st A cap A2 cap2 vs' w') :
  ACalls P f args h λx h' => ∃ n' cells',R' n' cells'/\x=.ret (.own id (ver+1) n')/\h'=h.set id (.mk (ver+1) ty st cells'):=by
 refine⟨he,λw g vs hs ha=>?_⟩;obtain⟨A,cap,f1,fm,f3⟩:=hs.ent _ _ _ _ _ hi;have hid:id<h.length:=(List.getElem?_eq_some_iff.1 hi).1;have how : ∀ k,cap≠0->A.map (·.block)=some k->OwAt g h id k:=by
  intro k h0 hk;cases A with
  | none=>simp at hk
  | some b=>exact⟨_,_,_,_,b,cap,hi,f1,h0,by simpa using hk⟩
 have hold : ∃ olds,RepL w g cells olds/\eR w ty st A cap olds:=by
  rcases f3 with ⟨rfl,h0⟩ | ⟨b,arr,rfl,hc0,hd,hb,hsz,hle,hrl⟩
  .exact⟨[],by simp only[RepL],.inl ⟨h0,rfl⟩⟩
  .exact⟨_,hrl,.inr ⟨b,arr,hc0,rfl,hb,hsz,by rw[hrl.length];exact hle,by rw[hrl.length]⟩⟩
 obtain⟨olds,o1,o2⟩:=hold;refine (hc w g vs A cap olds hs ha f1 fm o1 o2 how).mono ?_;rintro e w' ⟨n',cells',vs',A2,cap2,rfl,hn',hcm2,hR,hRep,⟨b',arr',hc0,rfl,hb',hsz',hle',htk,hor⟩,h5,h6,h7,h8,h9⟩;have hfr:Fr w (Ow g h) w':=⟨h5,h6,h7,h8,λk hk hn=>h9 k hk λh0 e=>hn (.inl ⟨id,how k h0 e⟩)⟩;have hfresh : ∀ l,g.loc id (ver+1)=some l->False:=λl hl=>by have:=(hs.fresh _ _ _ hl).2 _ _ _ _ hi;omega
 have hlocm : ∀ j vv l,g.loc j vv=some l->(g.add id (ver+1) (some ⟨b',0,none⟩,cap2)).loc j vv=some l:=by
  intro j vv l hj;simp only[Gh.add];rw[if_neg]
  .exact hj
  .rintro⟨rfl,rfl⟩;exact hfresh _ hj
 have hleg:g.le (g.add id (ver+1) (some ⟨b',0,none⟩,cap2)):=Gh.le_of_put rfl hlocm;have hDw : ∀ k,g.D k->w'.heap[k]?=w.heap[k]?:=λk hk=>hfr.block k (hs.lt k hk) (λho=>(hs.own_not_D ho).1 hk);have hb2:w.heap.size<=b'\/OwAt g h id b':=hor.imp (λx=>x) λ⟨h0,e⟩=>how b' h0 (by rw[e];rfl)
 have hput:=hs.put (w':=w') (g':=g.add id (ver+1) (some ⟨b',0,none⟩,cap2)) (h':=h.set id (.mk (ver+1) ty st cells')) id (ver+1) ty st cells' (some ⟨b',0,none⟩) cap2
  (λj hj=>by rw[List.getElem?_set_ne (Ne.symm hj)]) (by rw[List.getElem?_set_self hid]) (by simp) rfl hlocm
  (λj vv l hj=>by
   simp only[Gh.add] at hj;split at hj
   .right;assumption
   .left;exact hj) (by simp[Gh.add]) (λvv l hl=>by have:=(hs.fresh _ _ _ hl).2 _ _ _ _ hi;omega)
  (by
   rintro k (hk | ⟨j,hj,hk⟩ | ⟨j,hk⟩)
   .exact hDw k hk
   .exact h9 k (hs.own_not_D (.inl ⟨j,hk⟩)).2 λh0 e=>hj (hs.inj j id k hk (how k h0 e))
   .exact h9 k (hs.own_not_D (.inr ⟨j,hk⟩)).2 λh0 e=>hs.own_ne_raw (how k h0 e) hk) h8 hcm2
  (.inr ⟨b',arr',rfl,hc0,hb2.elim (λhge hd=>by have:=hs.lt _ hd;omega) (λho=>(hs.own_not_D (.inl ⟨id,ho⟩)).1),hb',hsz',by rw[<-hRep.length];exact hle',by rw[<-hRep.length,htk];exact RepL.mono hleg hDw _ _ hRep⟩)
  (by
   rintro k hk h0 j hj ho;simp at hk;subst hk;rcases hb2 with hge | hb2
   .have:=(hs.own_not_D (.inl ⟨j,ho⟩)).2;omega
   .exact hj (hs.inj j id _ ho hb2))
  (by
   intro k hk h0 hlt;simp at hk;subst hk;rcases hb2 with hge | hb2
   .omega
   .exact .inl ⟨id,hb2⟩)
 refine⟨.ret (.own id (ver+1) n'),_,_,?_,hput.1,hput.2.1,hfr,λk hk=>?_,_,_,hR,rfl,rfl⟩
 .simp only[EndR,Rep];exact⟨_,_,by simp[Gh.add],hn',hcm2,rfl⟩
 .rcases hput.2.2 k hk with ho | ⟨hk1,hk2⟩
  .exact .inl ho
  .simp at hk1;subst hk1;exact hb2.elim .inr λho=>.inl (.inl ⟨id,ho⟩)
variable {h0 h h' : AH} {q : List (List Nat)} {rest : List AOper} {tc : List (Bool × List Nat)} {T T' : List AV} {K : List AV -> AH -> Prop} {d : Option Nat} {c : AV}
def u_callW {f:FuncId}{xs:List Operand}{as1:List AV}{id j:Nat}{e ej e2:Ent}(hx:xs.map (Ae T)=as1) (he:h[id]?=some e) (hj:h[j]?=some ej) (hc : ∀ h,h[id]?=some e->h[j]?=some ej->ACalls P f as1 h λr h'=>r=.ret c/\h'=h.set id e2) (hh : ∀ i∈q.headD [],Ky (tc.getD i (false,[])) (false,[id,j])) (hs:h.set id e2=h') (hp:aPut T d c=T') (hk:Di P h0 q.tail rest (tc++[(false,[id,j])]) T' h' K):Di P h0 q (⟨d,none,.call (.func f) xs⟩::rest) tc T h K:=by
 subst hp hs hx;unfold Di agd;refine⟨λ_=>?_,λh=>by cases h⟩;exact .inr (.inr ⟨c,[(id,e),(j,ej)],id,e2,λh hn=>⟨rfl,rfl,(hc h (hn (id,e) (by simp)) (hn (j,ej) (by simp))).mono λr h' hr=>⟨hr.2,hr.1⟩⟩,λp hp=>by simp at hp;rcases hp with rfl | rfl;exact he;exact hj,⟨e,by simp⟩,hh,hk⟩)
end
end
end Go.Ab
namespace Go.Proofs.YtfcecekilahfiaaGreatDoor
section
open Go.Ab Go.RowKit Go.Lib
def X3 : ∃ i z,Tryz.prog.info? 76=some i/\i.size=5/\i.bytes=72/\i.zero=some z/\z.cells.size=5 /\ ∀ v∈z.cells.toList,v.oneCell'=true:=⟨_,_,rfl,rfl,rfl,rfl,rfl,by decide⟩
def Iw:Tryz.prog.underlying 22=some (.slice 76):=by kernel_rfl
def Xt {a b:Nat}(h:a<=b):Nat.min a b=a:=Nat.min_eq_left h
def natmin_r {a b:Nat}(h:b<=a):Nat.min a b=b:=Nat.min_eq_right h
def lV {w:World}{ty st:Nat}{A:Option Addr}{cap n:Nat}{olds:List Value}(h:eR w ty st A cap olds) (hl:olds.length=n*st):cap=0 \/ ∃ b arr,A=some ⟨b,0,none⟩/\w.heap[b]?=some (.cells arr ty (0,0))/\arr.size=cap*st/\arr.toList.take (n*st)=olds:=by
 rcases h with ⟨h0,_⟩ | ⟨b,arr,h0,e,hb,hs,hle,ht⟩
 .exact .inl h0
 .exact .inr ⟨b,arr,e,hb,hs,by rw[<-hl];exact ht⟩
def mF (A:Option Addr) (n cap vb vc:Nat) (w:World) (olds news:List Value) (hA:eR w 76 5 A cap olds) (hl:olds.length=n*5) (hn:n<=cap) (hcm:cap<=maxLen) (hvl:news.length=5)
  (hvs : ∀ j v,news[j]?=some v->w.cell? ⟨vb,j,none⟩=some v) (h1v : ∀ v∈news,v.oneCell'=true) (hbig:n<=3000000000000) :
  Calls Tryz.prog 148 #[.slice A n cap,.int .i64 n,.slice (some ⟨vb,0,none⟩) 1 vc] w λe w' => ∃ A2 cap2,e=.returned (.slice A2 (n+1) cap2)/\n+1<=cap2/\cap2<=maxLen/\nL w 76 5 A cap A2 cap2 (olds++news) w':=by
 obtain⟨i0,z,hi0,hsz,hby,hz,hzs,hz1⟩:=X3;have hf : ∀ w':World,(∀ a,w'.cell? a=w.cell? a)->(Builtin.firstCells i0.size 1 (.slice (some ⟨vb,0,none⟩) 1 vc)).run Tryz.prog w'=.ok news.toArray w':=λw' hw=>by
  rw[hsz];exact run_firstCells_some w' 5 1 ⟨vb,0,none⟩ 1 vc news (by rw[hvl]) (λj v hj=>by rw[Addr.add_lit,hw,Nat.zero_add];exact hvs j v hj)
 have happ : ∀ ty,∃ A2 cap2 w',(Builtin.append_ #[22,22] ty #[.slice A n cap,.slice (some ⟨vb,0,none⟩) 1 vc]).run Tryz.prog w=.ok (.slice A2 (n+1) cap2) w'/\n+1<=cap2/\cap2<=maxLen/\nL w 76 5 A cap A2 cap2 (olds++news) w':=λty=>by
  obtain⟨A2,cap2,w',k1,k2,k3,k4,k5⟩:=Kt (P:=Tryz.prog) w 22 22 ty 76 i0 z (.slice 76) Iw Iw (.inl rfl) hi0 hz (by rw[hzs,hsz]) A n cap olds (by rw[hsz];exact hl) hn hcm (by rw[hsz];exact lV hA hl)
   (.slice (some ⟨vb,0,none⟩) 1 vc) 1 news (by rw[hsz,hvl]) h1v (λw'=>by simp[Builtin.lenOf]) (hf w λ_=>rfl) (hf w.drew λ_=>rfl) (by simp only[maxLen];omega) (.inr (by rw[hby];omega))
  refine⟨A2,cap2,w',k1,k2,k3,?_,k4.os,k4.tape,k4.output,k4.size,λk hk hne=>k4.block k hk ?_⟩
  .rcases k5 with h0 | ⟨b',arr',e,h0,hb,hs,ht,hor⟩
   .omega
   .rw[hsz] at hs ht;have hlen:(olds++news).length=(n+1)*5:=by rw[List.length_append,hl,hvl];omega
    exact⟨b',arr',h0,e,hb,hs,by rw[hlen,hs];exact Nat.mul_le_mul_right _ k2,by rw[hlen];exact ht,hor⟩
  .split
   .simp
   .rename_i h0;exact (hne h0).symm
 have mixed:Tryz.prog.follows .mixedOrders=true:=by kernel_rfl
 obtain⟨A2,cap2,w',hrun,k2,k3,k4⟩:=happ 22;have u0:=run_underlying (P:=Tryz.prog) Iw;clear happ hf;cases A with
 | none =>
  obtain rfl:n=0:=by
   rcases hA with ⟨h0,_⟩ | ⟨b,arr,_,e,_⟩
   .omega
   .cases e
  go_enter Tryz.func148,Tryz.ntmps148
  go_wp2_with (at_builtin;refine Lib.wpList_append_run _ rfl _ _ _ _ rfl _ _ rfl rfl _ _ hrun ?_)
  all_goals (go_ret;first | exact⟨_,_,rfl,k2,k3,k4⟩ | (subst_vars;exact⟨_,_,rfl,k2,k3,k4⟩))
 | some a =>
  obtain⟨ab,ao,asp⟩:=a
  go_enter Tryz.func148,Tryz.ntmps148
  go_wp2_with (at_builtin;refine Lib.wpList_append_run _ rfl _ _ _ _ rfl _ _ rfl rfl _ _ hrun ?_)
  all_goals (go_ret;first | exact⟨_,_,rfl,k2,k3,k4⟩ | (subst_vars;exact⟨_,_,rfl,k2,k3,k4⟩))
def iF (b n cap i vb vc:Nat) (w:World) (arr:Array Value) (olds news:List Value) (hb:w.heap[b]?=some (.cells arr 76 (0,0))) (hsz:arr.size=cap*5) (hol:olds.length=n*5) (htk:arr.toList.take (n*5)=olds) (h1o : ∀ v∈olds,v.oneCell'=true)
  (hi:i<n) (hroom:n+1<=cap) (hcm:cap<=maxLen) (hvl:news.length=5) (hvb:vb≠b)
  (hvs : ∀ j v,news[j]?=some v->w.cell? ⟨vb,j,none⟩=some v) (h1v : ∀ v∈news,v.oneCell'=true) (tA:TypeId) (kA:Nat) (hsa:w.shape? vb=some (tA,kA)) (hfa:w.frozen? ⟨vb,0,none⟩=false) (hfe:w.frozen? ⟨vb,kA,none⟩=false) :
  Calls Tryz.prog 148 #[.slice (some ⟨b,0,none⟩) n cap,.int .i64 i,.slice (some ⟨vb,0,none⟩) 1 vc] w λe w'=>e=.returned (.slice (some ⟨b,0,none⟩) (n+1) cap)/\w'=(w.drew.setCells b ((i+1)*5) (olds.drop (i*5))).setCells b (i*5) news:=by
 obtain⟨i0,z,hi0,hs5,hby,hz,hzs,hz1⟩:=X3;have hsz5:(Tryz.prog.info? 76).map (·.size)=some 5:=by rw[hi0];exact congrArg some hs5
 have hcell : ∀ j,j<arr.size->(w.cell? ⟨b,j,none⟩).isSome=true:=λj hj=>by rw[cell_of_row w b j arr 76 (0,0) hb,Array.getElem?_eq_getElem hj];rfl
 have hfz : ∀ j,w.frozen? ⟨b,j,none⟩=false:=λj=>frozen_of_row w b j arr 76 hb;have hcs : ∀ j v,olds[j]?=some v->w.cell? ⟨b,j,none⟩=some v:=λj v hj=>by
  rw[cell_of_row w b j arr 76 (0,0) hb,<-Array.getElem?_toList];rw[<-htk,List.getElem?_take] at hj;split at hj
  .exact hj
  .cases hj
 have u0:=run_underlying (P:=Tryz.prog) Iw;have hov : ∀ lb cb,(callFunc 221 #[.slice (some ⟨vb,0,none⟩) 1 vc,.slice (some ⟨b,(i+1)*5,none⟩) lb cb]).run Tryz.prog w=.ok (.value (.bool false)) w:=λlb cb=>by
  rw[run_callFunc_extern Tryz.func221 (by kernel_rfl) (by kernel_rfl) (by kernel_rfl) (e:=Extern.SlicesOverlaps.overlaps #[22,22] #[4]) (by kernel_rfl),
   Lib.run_overlaps_apart w 22 4 76 Iw 5 (λw=>by simp[Go.sizeOf,typeInfo,hi0,hs5]) ⟨vb,0,none⟩ ⟨b,(i+1)*5,none⟩ 1 vc lb cb hvb tA 76 kA arr.size hsa (by simp[World.shape?,hb]) (by rw[hsz];omega) hfa hfe]
  rfl
 have hdl:(olds.drop (i*5)).length=(n-i)*5:=by rw[List.length_drop,hol];omega
 have mixed:Tryz.prog.follows .mixedOrders=true:=by kernel_rfl
 have hw1:IntKind.i64.wrap ((i:Int)+1)=(i:Int)+1:=by rw[IntKind.wrap_i64];unfold maxLen at hcm;omega
 have hw2:IntKind.i64.wrap ((n:Int)+1)=(n:Int)+1:=by rw[IntKind.wrap_i64];unfold maxLen at hcm;omega
 have hb1:(0:Int)<=(i:Int)+1:=by omega
 have hin:i<=n:=by omega
 have htn:((i:Int)+1).toNat=i+1:=by omega
 have htn2:((n:Int)+1).toNat=n+1:=by omega
 have hz2:¬((i:Int)=(n:Int)):=by omega
 have hz3:¬((cap:Int)<(n:Int)+1):=by omega
 have hb2:¬(cap=i+1):=by omega
 have hb3:(i:Int)<=(n:Int)+1:=by omega
 have hb4:¬(cap=i):=by omega
 have hc63:cap<=9223372036854775807:=by unfold maxLen at hcm;omega
 have hcp1 : ∀ ty dc sc,(Builtin.copy_ #[22,22] ty #[.slice (some ⟨b,(i+1)*5,none⟩) (n+1-(i+1)) dc,.slice (some ⟨b,i*5,none⟩) (n+1-i) sc]).run Tryz.prog w.drew=.ok (goInt (Nat.min (n+1-i) (n+1-(i+1)))) (w.drew.setCells b ((i+1)*5) (olds.drop (i*5))):=λty dc sc =>
  Jn w.drew _ _ ty 76 5 b ((i+1)*5) (n+1-(i+1)) dc ⟨b,i*5,none⟩ (n+1-i) sc (olds.drop (i*5)) Iw hsz5 (by rw[hdl,natmin_r om];omega)
   (λj v hj=>by rw[Addr.add_lit];exact hcs (i*5+j) v (by rwa [List.getElem?_drop] at hj))
   (λj hj=>hcell _ (by rw[hdl] at hj;rw[hsz];omega)) (λj hj=>hfz _) (λv hv=>h1o v (List.mem_of_mem_drop hv))
 obtain⟨W1,hW1⟩ : ∃ W1,W1=w.drew.setCells b ((i+1)*5) (olds.drop (i*5)):=⟨_,rfl⟩;have hsp1 : ∀ k,k<arr.size->(W1.cell? ⟨b,k,none⟩).isSome=true:=λk hk=>by
  rw[hW1];exact isSome_setCells b _ _ w.drew (λj hj=>hcell ((i+1)*5+j) (by rw[hdl] at hj;rw[hsz];omega)) _ (hcell k hk)
 have hcp2 : ∀ (W:World),(∀ x,W.cell? x=W1.cell? x)->(∀ x,W.frozen? x=W1.frozen? x) -> ∀ ty dc,(Builtin.copy_ #[22,22] ty #[.slice (some ⟨b,i*5,none⟩) (n+1-i) dc,.slice (some ⟨vb,0,none⟩) 1 vc]).run Tryz.prog W=.ok (goInt (Nat.min 1 (n+1-i))) (W.setCells b (i*5) news):=λW hWc hWf ty dc =>
  Jn W _ _ ty 76 5 b (i*5) (n+1-i) dc ⟨vb,0,none⟩ 1 vc news Iw hsz5 (by rw[hvl,Xt om])
   (λj v hj=>by
    rw[Addr.add_lit,hWc,hW1,World.cell?_setCells_out b _ _ _ _ (λh _=>absurd h hvb),Nat.zero_add];exact hvs j v hj)
   (λj hj=>by rw[hWc];exact hsp1 _ (by rw[hvl] at hj;rw[hsz];omega)) (λj hj=>by rw[hWf,hW1,World.frozen?_setCells];exact hfz _) h1v
 rw[<-hW1] at hcp1;clear hcs hcell hdl hsp1 hfz htk;go_enter Tryz.func148,Tryz.ntmps148;go_wp2_with (simp only[hov]);go_region_law_o (refine step_copy_runI rfl _ _ 22 22 rfl (.slice (some ⟨b,(i+1)*5,none⟩) (n+1-(i+1)) (cap-(i+1))) (.slice (some ⟨b,i*5,none⟩) (n+1-i) (cap-i)) (by simp[Act.eval,Act.put]) (by simp[Act.eval,Act.put]) (hcp1 3 (cap-(i+1)) (cap-i)) ?_);go_wp2_with (at_builtin;refine wpList_copy_runI _ rfl _ _ 22 22 rfl _ _ rfl rfl (hcp2 _ (λ_=>rfl) (λ_=>rfl) _ _) ?_);go_ret;exact⟨rfl,rfl⟩
def iG (b n i vb vc:Nat) (w:World) (arr:Array Value) (olds news:List Value) (hb:w.heap[b]?=some (.cells arr 76 (0,0))) (hol:olds.length=n*5) (htk:arr.toList.take (n*5)=olds) (h1o : ∀ v∈olds,v.oneCell'=true)
    (hi:i<n) (hbig:n<=2000000000000) (hvl:news.length=5)
    (hvs : ∀ j v,news[j]?=some v->w.cell? ⟨vb,j,none⟩=some v) (h1v : ∀ v∈news,v.oneCell'=true) :
    Calls Tryz.prog 148 #[.slice (some ⟨b,0,none⟩) n n,.int .i64 i,.slice (some ⟨vb,0,none⟩) 1 vc] w λe w' => ∃ (G:Nat) (ROW:Array Value),e=.returned (.slice (some ⟨w.heap.size,0,none⟩) (n+1) G)/\n+1<=G/\G<=maxLen/\ROW.size=G*5/\ROW.toList.take (i*5)=olds.take (i*5) /\
      w'=(((w.alloc (.cells ROW 76)).drew.setCells w.heap.size (i*5) news).drew).setCells w.heap.size ((i+1)*5) (olds.drop (i*5)):=by
  obtain⟨i0,z,hi0,hs5,hby,hz,hzs,hz1⟩:=X3;have hsz5:(Tryz.prog.info? 76).map (·.size)=some 5:=by rw[hi0];exact congrArg some hs5
  have hcs : ∀ j v,olds[j]?=some v->w.cell? ⟨b,j,none⟩=some v:=λj v hj=>by
    rw[cell_of_row w b j arr 76 (0,0) hb,<-Array.getElem?_toList];rw[<-htk,List.getElem?_take] at hj;split at hj
    . exact hj
    . cases hj
  have u0:=run_underlying (P:=Tryz.prog) Iw;have u1:Tryz.prog.underlying 3=some (.int .i64):=by kernel_rfl
  have hbw:b<w.heap.size:=(Array.getElem?_eq_some_iff.1 hb).1;have hvw:vb<w.heap.size:=block_lt_of_cell (hvs 0 _ (List.getElem?_eq_getElem om));have hik:i+(n+1-i)=n+1:=by omega
  have hkk:(n:Int)+1-(i:Int)=((n+1-i:Nat):Int):=by omega
  have hold:(Builtin.firstCells i0.size i (.slice (some ⟨b,0,none⟩) i n)).run Tryz.prog w.drew=.ok (olds.take (i*5)).toArray w.drew:=by
    rw[hs5];exact run_firstCells_some w.drew 5 i ⟨b,0,none⟩ i n (olds.take (i*5)) (by rw[List.length_take,hol];omega) (λj v hj=>by
      rw[Addr.add_lit,Nat.zero_add];rw[List.getElem?_take] at hj;split at hj
      . exact hcs j v hj
      . cases hj)
  have hrz : ∀ ty, (Builtin.append_ #[22, 3] ty #[.slice (some ⟨b, 0, none⟩) i n, .int .i64 ((n : Int) + 1 - (i : Int))]).run Tryz.prog w =
      .ok (.slice (some ⟨w.heap.size,0,none⟩) (n+1) (grownCap w (n+1) n 76)) (w.drew.alloc (.cells ((olds.take (i*5)).toArray++Builtin.zeroCells z.cells (n+1-i)++Builtin.zeroCells z.cells (grownCap w (n+1) n 76-(n+1))) 76)):=λty=>by
    have h:=Lib.run_append_grow_zeros w 22 3 ty 76 i0 z .i64 .i64 Iw u1 hi0 hz (some ⟨b,0,none⟩) i n (olds.take (i*5)) hold (n+1-i) om (by rw[hs5];omega) om om (by rw[hby];omega) (by rw[hby,hik];exact growslice_fits_wide om om);rw[hik] at h;rw[hkk];exact h
  have hGn:n+1<=grownCap w (n+1) n 76:=grownCap_ge w _ _ _;have hGm:grownCap w (n+1) n 76<=maxLen:=grownCap_le_maxLen w (n+1) n 76 (by unfold maxLen;omega);obtain⟨G,hG⟩ : ∃ G,G=grownCap w (n+1) n 76:=⟨_,rfl⟩;rw[<-hG] at hrz hGn hGm;obtain⟨ROW,hROW⟩ : ∃ ROW:Array Value,ROW=(olds.take (i*5)).toArray++Builtin.zeroCells z.cells (n+1-i)++Builtin.zeroCells z.cells (G-(n+1)):=⟨_,rfl⟩;rw[<-hROW] at hrz;have hRs:ROW.size=G*5:=by
    rw[hROW];simp only[Array.size_append,size_zeroCells,hzs,List.size_toArray,List.length_take,hol];omega
  have hRt:ROW.toList.take (i*5)=olds.take (i*5):=by
    rw[hROW,Array.append_assoc,Array.toList_append];rw[List.take_append_of_le_length (by simp only[List.toList_toArray,List.length_take,hol];omega)];simp only[List.toList_toArray,List.take_take,Nat.min_self]
  obtain⟨W1,hW1⟩ : ∃ W1,W1=w.drew.alloc (.cells ROW 76):=⟨_,rfl⟩;rw[<-hW1] at hrz;have hN : ∀ j,j<(n+1)*5->(W1.cell? ⟨w.heap.size,j,none⟩).isSome=true:=λj hj=>by
    rw[hW1,World.cell?_alloc_at (w:=w.drew) ROW _ w.heap.size j rfl,Array.getElem?_eq_getElem om];rfl
  have hNf : ∀ j,W1.frozen? ⟨w.heap.size,j,none⟩=false:=λj=>by rw[hW1];exact World.frozen?_alloc_at (w:=w.drew) ROW _ w.heap.size j rfl
  have hOb : ∀ j v,w.cell? ⟨b,j,none⟩=some v->W1.cell? ⟨b,j,none⟩=some v:=λj v h=>by rw[hW1,World.cell?_alloc_past (w:=w.drew) _ b j hbw];exact h
  have hOv : ∀ j v,w.cell? ⟨vb,j,none⟩=some v->W1.cell? ⟨vb,j,none⟩=some v:=λj v h=>by rw[hW1,World.cell?_alloc_past (w:=w.drew) _ vb j hvw];exact h
  have hdl:(olds.drop (i*5)).length=(n-i)*5:=by rw[List.length_drop,hol];omega
  have hbN:b≠w.heap.size:=by omega
  have hcpA : ∀ (W:World),(∀ x,W.cell? x=W1.cell? x)->(∀ x,W.frozen? x=W1.frozen? x) -> ∀ ty dc,(Builtin.copy_ #[22,22] ty #[.slice (some ⟨w.heap.size,i*5,none⟩) (n+1-i) dc,.slice (some ⟨vb,0,none⟩) 1 vc]).run Tryz.prog W=.ok (goInt (Nat.min 1 (n+1-i))) (W.setCells w.heap.size (i*5) news):=λW hWc hWf ty dc =>
    Jn W _ _ ty 76 5 w.heap.size (i*5) (n+1-i) dc ⟨vb,0,none⟩ 1 vc news Iw hsz5 (by rw[hvl,Xt om])
      (λj v hj=>by rw[Addr.add_lit,hWc,Nat.zero_add];exact hOv _ v (hvs j v hj))
      (λj hj=>by rw[hWc];exact hN _ om) (λj hj=>by rw[hWf];exact hNf _) h1v
  have hcpB : ∀ (W:World),(∀ x,W.cell? x=(W1.setCells w.heap.size (i*5) news).cell? x)->(∀ x,W.frozen? x=(W1.setCells w.heap.size (i*5) news).frozen? x) -> ∀ ty dc sc,(Builtin.copy_ #[22,22] ty #[.slice (some ⟨w.heap.size,(i+1)*5,none⟩) (n+1-(i+1)) dc,.slice (some ⟨b,i*5,none⟩) (n-i) sc]).run Tryz.prog W=.ok (goInt (Nat.min (n-i) (n+1-(i+1)))) (W.setCells w.heap.size ((i+1)*5) (olds.drop (i*5))):=λW hWc hWf ty dc sc =>
    Jn W _ _ ty 76 5 w.heap.size ((i+1)*5) (n+1-(i+1)) dc ⟨b,i*5,none⟩ (n-i) sc (olds.drop (i*5)) Iw hsz5 (by rw[hdl,Xt om])
      (λj v hj=>by
        rw[Addr.add_lit,hWc,World.cell?_setCells_out _ _ _ _ _ (λh _=>absurd h hbN)];exact hOb _ v (hcs (i*5+j) v (by rwa [List.getElem?_drop] at hj)))
      (λj hj=>by rw[hWc];exact isSome_setCells _ _ _ _ (λt ht=>hN _ om) _ (hN _ om))
      (λj hj=>by rw[hWf,World.frozen?_setCells];exact hNf _) (λv hv=>h1o v (List.mem_of_mem_drop hv))
  subst hW1;have hE1 : ∀ x,((w.alloc (.cells ROW 76)).drew).cell? x=(w.drew.alloc (.cells ROW 76)).cell? x:=λx=>rfl;have hE2 : ∀ x,((w.alloc (.cells ROW 76)).drew).frozen? x=(w.drew.alloc (.cells ROW 76)).frozen? x:=λx=>rfl;have hF1 : ∀ x,(((w.alloc (.cells ROW 76)).drew.setCells w.heap.size (i*5) news).drew).cell? x=((w.drew.alloc (.cells ROW 76)).setCells w.heap.size (i*5) news).cell? x:=λx=>rfl;have hF2 : ∀ x,(((w.alloc (.cells ROW 76)).drew.setCells w.heap.size (i*5) news).drew).frozen? x=((w.drew.alloc (.cells ROW 76)).setCells w.heap.size (i*5) news).frozen? x:=λx=>rfl;have mixed:Tryz.prog.follows .mixedOrders=true:=by kernel_rfl
  have hc63:G<=9223372036854775807:=by unfold maxLen at hGm;omega
  have hw1:IntKind.i64.wrap ((i:Int)+1)=(i:Int)+1:=by rw[IntKind.wrap_i64];omega
  have hw2:IntKind.i64.wrap ((n:Int)+1)=(n:Int)+1:=by rw[IntKind.wrap_i64];omega
  have hw3:IntKind.i64.wrap ((n:Int)+1-(i:Int))=(n:Int)+1-(i:Int):=by rw[IntKind.wrap_i64];omega
  have hb1:(0:Int)<=(i:Int)+1:=by omega
  have hin:i<=n:=by omega
  have htn:((i:Int)+1).toNat=i+1:=by omega
  have hz2:¬((i:Int)=(n:Int)):=by omega
  have hz3:(n:Int)<(n:Int)+1:=by omega
  have hb3:(i:Int)<=(n:Int):=by omega
  have hGi:¬(G=i):=by omega
  have hGim:¬(G=i+1):=by omega
  have hci:¬(n=i):=by omega
  clear hkk hik hold hROW hG hcs hN hNf hOb hOv hdl htk;go_enter Tryz.func148,Tryz.ntmps148
  go_wp2_with (first
    | (at_builtin;refine Lib.wpList_append_run _ rfl _ _ _ _ rfl _ _ rfl rfl _ _ (hrz _) ?_)
    | (at_builtin;refine wpList_copy_runI _ rfl _ _ 22 22 rfl _ _ rfl rfl (hcpA _ hE1 hE2 _ _) ?_)
    | (at_builtin;refine wpList_copy_runI _ rfl _ _ 22 22 rfl _ _ rfl rfl (hcpB _ (λ_=>rfl) (λ_=>rfl) _ _ _) ?_))
  go_region_law_o (refine step_copy_runI rfl _ _ 22 22 rfl (.slice (some ⟨w.heap.size,(i+1)*5,none⟩) (n+1-(i+1)) (G-(i+1))) (.slice (some ⟨b,i*5,none⟩) (n-i) (n-i)) (by simp[Act.eval,Act.put]) (by simp[Act.eval,Act.put]) (hcpB _ hF1 hF2 3 (G-(i+1)) (n-i)) ?_);go_wp2;go_ret;exact⟨G,ROW,rfl,hGn,hGm,hRs,hRt,rfl⟩
end
section
open Go.Ab Go.RowKit Go.Lib Civ
def iD (b:Nat) (vs:List Value) (o:Nat) (w:World) (h : ∀ j,j<vs.length->(w.cell? ⟨b,o+j,none⟩).isSome=true) (k:Nat) (hk:(w.cell? ⟨b,k,none⟩).isSome=true):((w.setCells b o vs).cell? ⟨b,k,none⟩).isSome=true:=by
 by_cases hin:o<=k/\k<o+vs.length
 .have:=World.cell?_setCells_in b vs o w h (k-o) om;rw[show o+(k-o)=k by omega] at this;rw[this];rfl
 .rw[World.cell?_setCells_out b vs o w ⟨b,k,none⟩ (λ_ _=>by show k<o\/o+vs.length<=k;omega)];exact hk
def delete_w (b n cap i j:Nat) (w:World) (news zs:List Value) (hij:i<j) (hjn:j<=n) (hcap:n<=cap) (hm:cap<=9223372036854775807)
  (hnl:news.length=(n-j)*5) (hsrc : ∀ t u,news[t]?=some u->w.cell? ⟨b,j*5+t,none⟩=some u) (h1 : ∀ u∈news,u.oneCell'=true)
  (hc : ∀ j,j<n*5->(w.cell? ⟨b,j,none⟩).isSome=true) (hf : ∀ j,j<n*5->w.frozen? ⟨b,j,none⟩=false) :
  Calls Tryz.prog 147 #[.slice (some ⟨b,0,none⟩) n cap,.int .i64 i,.int .i64 (j:Int)] w λe w'=>e=.returned (.slice (some ⟨b,0,none⟩) (n-(j-i)) cap) /\ ∃ Z:List Value,Z.length=(j-i)*5/\(∀ v∈Z,v.oneCell'=true)/\w'=(w.drew.setCells b (i*5) news).setCells b ((n-(j-i))*5) Z:=by
 obtain⟨i0,hi0,hz1⟩ : ∃ i0,Tryz.prog.info? 76=some i0/\i0.size=5:=⟨_,rfl,rfl⟩;obtain⟨A,hA,s2⟩ : ∃ A:Addr,Hid ((if cap=j then some (⟨b,0,none⟩:Addr) else some ⟨b,j*5,none⟩)=some A)/\Hid (∀ t u,news[t]?=some u->w.drew.cell? (A.add t)=some u):=by
  by_cases h:cap=j
  .refine⟨⟨b,0,none⟩,by simp[Hid,h],λt u hu=>?_⟩;have h0:news.length=0:=by rw[hnl];omega
   rw[List.length_eq_zero_iff.1 h0] at hu;simp at hu
  .exact⟨⟨b,j*5,none⟩,by simp[Hid,h],λt u hu=>by rw[Addr.add_lit];exact hsrc t u hu⟩
 have s1:Hid (news.length=(n-j)*5):=hnl;have s3:Hid (∀ t,t<news.length->(w.drew.cell? ⟨b,0+i*5+t,none⟩).isSome=true/\w.drew.frozen? ⟨b,0+i*5+t,none⟩=false):=by
  intro t ht;rw[hnl] at ht;rw[Nat.zero_add];exact⟨hc _ om,hf _ om⟩
 obtain⟨W1,hW1⟩ : ∃ W1,W1=w.drew.setCells b (0+i*5) news:=⟨_,rfl⟩;have hW:Hid (W1=w.drew.setCells b (0+i*5) news):=hW1;obtain⟨z,hz,hzc⟩ : ∃ z:Value,(∀ w,(zeroValue 76).run Tryz.prog w=.ok z w)/\z.cells = #[.string ⟨#[]⟩,.int .i64 0,.int .i64 0,.string ⟨#[]⟩,.slice none 0 0]:=⟨.agg #[.string ⟨#[]⟩,.int .i64 0,.int .i64 0,.string ⟨#[]⟩,.slice none 0 0],λw=>rfl,rfl⟩;have hzs:z.cells.size=5:=by rw[hzc];rfl
 have hz1c : ∀ v∈(Builtin.zeroCells z.cells (n-(i+(n-j)))).toList,v.oneCell'=true:=λv hv=>by
  rw[hzc] at hv;simp[Builtin.zeroCells] at hv;obtain⟨k,_,rfl⟩:=hv;have:=Nat.mod_lt k (show 0<5 by omega);generalize k%5=q at this;match q,this with
  | 0,_=>rfl
  | 1,_=>rfl
  | 2,_=>rfl
  | 3,_=>rfl
  | 4,_=>rfl
 have hcl : ∀ ty,(Builtin.clear_ #[22] ty #[.slice (some ⟨b,(i+(n-j))*5,none⟩) (n-(i+(n-j))) (cap-(i+(n-j)))]).run Tryz.prog W1=.ok (.tuple #[]) (W1.setCells b ((i+(n-j))*5) (Builtin.zeroCells z.cells (n-(i+(n-j)))).toList):=λty=>by
  refine W3 W1 22 76 ty z (by kernel_rfl) hz b _ _ _ om (λt ht=>?_) (λt ht=>?_) (λv hv=>?_)
  .rw[hzs] at ht;rw[hW1];exact iD b _ _ _ (λu hu=>by rw[hnl] at hu;rw[Nat.zero_add];exact hc _ om) _ (hc _ om)
  .rw[hzs] at ht;rw[hW1,World.frozen?_setCells];exact hf _ om
  .exact hz1c v hv
 obtain⟨Z,hZ⟩ : ∃ Z,Z=(Builtin.zeroCells z.cells (n-(i+(n-j)))).toList:=⟨_,rfl⟩;rw[<-hZ] at hcl hz1c;have hZ1:Hid (∀ v∈Z,v.oneCell'=true):=hz1c;have hZ':Hid (Z.length=(j-i)*5):=by rw[show j-i=n-(i+(n-j)) by omega,hZ,Array.length_toList,size_zeroCells,hzs];exact rfl
 have hcl':Hid (∀ ty,(Builtin.clear_ #[22] ty #[.slice (some ⟨b,(i+(n-j))*5,none⟩) (n-(i+(n-j))) (cap-(i+(n-j)))]).run Tryz.prog W1=.ok (.tuple #[]) (W1.setCells b ((i+(n-j))*5) Z)):=hcl;have mixed:Tryz.prog.follows .mixedOrders=true:=by kernel_rfl
 have hic:i<=cap:=by omega
 have hjc:j<=cap:=by omega
 have hne:¬((i:Int)=(j:Int)):=by omega
 rw[show n-(j-i)=i+(n-j) by omega];clear hc hf hsrc hW1 hcl hzc hzs hz hZ hz1c;go_enter Tryz.func147,Tryz.ntmps147;go_wp2_with fail;go_region_law_o (refine step_append_room rfl (.tmp 22) (.tmp 25) 22 rfl 76 i0 5 (by kernel_rfl) hi0 hz1 b 0 i cap (by simp[Act.eval,Act.put]) A (n-j) (cap-j) news (by simp[Act.eval,Act.put,hA.out]) s1.out s2.out h1 om s3.out ?_;rw[<-hW.out]);go_wp2_with (simp only[hcl'.out]);all_goals go_ret
 all_goals exact⟨rfl,Z,hZ'.out,hZ1.out,by rw[hW.out,Nat.zero_add]⟩
end
section
open Go.Ab Go.RowKit Go.Lib Civ
def Qh {α:Type}{f:α->List AV}{k:Nat}(hf : ∀ x,(f x).length=k) : ∀ (l:List α) (i:Nat),i<l.length->rows f (l.eraseIdx i)=(rows f l).take (i*k)++(rows f l).drop ((i+1)*k)
 | [],i,h=>by simp at h
 | x::l,0,h=>by
  show rows f l=_;have:rows f (x::l)=f x++rows f l:=rfl;rw[this,Nat.zero_mul,List.take_zero,List.nil_append,Nat.zero_add,Nat.one_mul,List.drop_left' (hf x)]
 | x::l,i+1,h=>by
  show f x++rows f (l.eraseIdx i)=_;have:rows f (x::l)=f x++rows f l:=rfl;have e1:(i+1)*k=(f x).length+i*k:=by rw[hf,Nat.add_mul];omega
  have e2:(i+1+1)*k=(f x).length+(i+1)*k:=by rw[hf];simp only[Nat.add_mul];omega
  rw[this,Qh hf l i (by simpa using h),e2,List.drop_length_add_append,e1,List.take_length_add_append,List.append_assoc]
def delete_a {l:List Nam}{id v ty i:Nat}{h:AH}(he:h[id]?=some (.mk v ty 5 (rows Eu l))) (hi:i<l.length) :
  ACalls Tryz.prog 147 [.own id v l.length,iv i,iv ((i:Int)+1)] h λx h'=>x=.ret (.own id v (l.length-1))/\h'=h.set id (.mk v ty 5 (rows Eu (l.eraseIdx i))):=by
 have hlen:=Gm l;rw[show ((i:Int)+1)=((i+1:Nat):Int) by omega];refine (ACalls.of_turnS (R':=λn' cs=>n'=l.length-1/\cs=rows Eu (l.eraseIdx i)) (by kernel_rfl) he ?_ ?_).mono ?_
 .intro e;have:=congrArg List.length e;rw[hlen] at this;simp at this;omega
 .intro w g vs b cap arr hs ha hloc hcm hb hsz hle hr;simp only[RepL,Rep,hloc] at ha;obtain⟨u1,us1,e1,⟨A,c,e2,hn1,hn2,rfl⟩,u2,us2,rfl,rfl,u3,us3,rfl,rfl,rfl⟩:=ha;simp only[Option.some.injEq,Prod.mk.injEq] at e2;obtain⟨rfl,rfl⟩:=e2;obtain rfl:vs = #[.slice (some ⟨b,0,none⟩) l.length cap,.int .i64 i,.int .i64 ((i+1:Nat):Int)]:=by cases vs;simp_all
  have hone:=Gs (aH l) hr;rw[hlen] at hr hone hle;obtain⟨news,hnews⟩ : ∃ news,news=(arr.toList.take (l.length*5)).drop ((i+1)*5):=⟨_,rfl⟩;have hnl:news.length=(l.length-(i+1))*5:=by rw[hnews,List.length_drop,List.length_take,Array.length_toList (xs:=arr)];omega
  have h1 : ∀ u∈news,u.oneCell'=true:=λu hu=>hone u (List.mem_of_mem_drop (hnews ▸ hu));have hcell : ∀ j,j<l.length*5->w.cell? ⟨b,j,none⟩=arr[j]?:=λj hj=>cell_of_row w b j arr ty (0,0) hb;refine (delete_w b l.length cap i (i+1) w news [] om om hn1 (by unfold maxLen at hcm;omega) hnl (λt u hu=>?_) h1 (λj hj=>?_) (λj hj=>frozen_of_row w b j arr ty hb)).mono ?_
  .rw[hnews,List.getElem?_drop,List.getElem?_take] at hu;split at hu
   .rename_i hlt;rw[hcell _ hlt,<-Array.getElem?_toList];exact hu
   .cases hu
  .rw[hcell j hj,Array.getElem?_eq_getElem om];rfl
  rintro e w' ⟨rfl,Z,hZ,hZ1,rfl⟩;have hb1:w.drew.heap[b]?=some (.cells arr ty (0,0)):=hb;rw[Hg Tryz.prog b (i*5) ty news arr w.drew hb1 om h1];obtain⟨arr1,ha1⟩ : ∃ arr1,arr1=(arr.toList.take (i*5)++news++arr.toList.drop (i*5+news.length)).toArray:=⟨_,rfl⟩;rw[<-ha1];have hs1:arr1.size=arr.size:=by rw[ha1];simp only[List.size_toArray,List.length_append,List.length_take,List.length_drop,Array.length_toList];omega
  have hb2:=setRow_heap w.drew b arr arr1 ty (0,0) hb1;rw[Hg Tryz.prog b ((l.length-(i+1-i))*5) ty Z arr1 (w.drew.setRow b arr1) hb2 om hZ1];obtain⟨arr2,ha2⟩ : ∃ arr2,arr2=(arr1.toList.take ((l.length-(i+1-i))*5)++Z++arr1.toList.drop ((l.length-(i+1-i))*5+Z.length)).toArray:=⟨_,rfl⟩;rw[<-ha2];have hs2:arr2.size=arr1.size:=by rw[ha2];simp only[List.size_toArray,List.length_append,List.length_take,List.length_drop,Array.length_toList];omega
  have hlr:=Qh Im l i hi;have hvl:(arr.toList.take (i*5)++news).length=(l.length-1)*5:=by rw[List.length_append,hnl,List.length_take,Array.length_toList (xs:=arr)];omega
  refine⟨l.length-1,rows Eu (l.eraseIdx i),arr.toList.take (i*5)++news,arr2,by rw[show i+1-i=1 by omega],by omega,⟨rfl,rfl⟩,?_,setRow_heap _ b arr1 arr2 ty (0,0) hb2,by omega,by omega,?_,rfl,rfl,rfl,?_,λk hk hkb=>?_⟩
  .rw[hlr];refine RepL.append ?_ ?_
   .have:=hr.take (i*5);rwa [List.take_take,Nat.min_eq_left om] at this
   .rw[hnews];exact hr.drop ((i+1)*5)
  .rw[hvl,ha2,ha1];simp only[List.toList_toArray];rw[show (l.length-(i+1-i))*5=(arr.toList.take (i*5)++news).length by rw[hvl];omega,List.take_left,List.append_assoc];rw[<-hvl,List.take_left]
  .simp[World.setRow]
  .rw[setRow_other _ _ _ _ hkb,setRow_other _ _ _ _ hkb];rfl
 .rintro x h' ⟨n',cs,⟨rfl,rfl⟩,rfl,rfl⟩;exact⟨rfl,rfl⟩
end
section
open Go.Ab Go.RowKit Go.Lib Civ
def W8 {α:Type}{f:α->List AV}{k:Nat}(hf : ∀ x,(f x).length=k) : ∀ (l:List α) (i:Nat) (x:α),i<=l.length->rows f (l.take i++x::l.drop i)=(rows f l).take (i*k)++f x++(rows f l).drop (i*k)
 | l,0,x,h=>by rw[Nat.zero_mul];rfl
 | [],i+1,x,h=>by simp at h
 | y::l,i+1,x,h=>by
  have ih:=W8 hf l i x (by simpa using h);have e1:(i+1)*k=(f y).length+i*k:=by rw[hf,Nat.add_mul];omega
  show f y++rows f (l.take i++x::l.drop i)=_;rw[ih];show _=(f y++rows f l).take _++f x++(f y++rows f l).drop _;rw[e1,List.take_length_add_append,List.drop_length_add_append,List.append_assoc,List.append_assoc,List.append_assoc]
def insert_a {l:List Nam}{n:Nam}{id v j vj i:Nat}{h:AH}(he:h[id]?=some (.mk v 76 5 (rows Eu l))) (hj:h[j]?=some (.mk vj 76 5 (Eu n))) (hne:id≠j) (hi:i<=l.length) (hbig:l.length<=2000000000000) :
  ACalls Tryz.prog 148 [.own id v l.length,iv i,.own j vj 1] h λx h'=>x=.ret (.own id (v+1) (l.length+1))/\h'=h.set id (.mk (v+1) 76 5 (rows Eu (l.take i++n::l.drop i))):=by
 have hlen:=Gm l;refine (ACalls.of_turnG (R':=λn' cs=>n'=l.length+1/\cs=rows Eu (l.take i++n::l.drop i)) (by kernel_rfl) he ?_).mono ?_
 .intro w g vs A cap olds hs ha hloc hcm hro hold how;simp only[RepL,Rep,hloc] at ha;obtain⟨u1,us1,e1,⟨A',c',e2,hn1,hn2,rfl⟩,u2,us2,rfl,rfl,u3,us3,rfl,⟨Aj,cj,fj,hnj,hmj,rfl⟩,rfl⟩:=ha;simp only[Option.some.injEq,Prod.mk.injEq] at e2;obtain⟨rfl,rfl⟩:=e2
  -- the one that is put lies in a row of its own
  obtain⟨A2,cap2,gj,_,g3⟩:=hs.ent _ _ _ _ _ hj;rw[fj] at gj;simp only[Option.some.injEq,Prod.mk.injEq] at gj;obtain⟨rfl,rfl⟩:=gj;rcases g3 with ⟨e0,_⟩ | ⟨vb,varr,rfl,hc0,hd,hvb,hvs,hvl,hrv⟩
  .cases e0
  obtain rfl:vs = #[.slice A l.length cap,.int .i64 i,.slice (some ⟨vb,0,none⟩) 1 cj]:=by cases vs;simp_all
  have hol:olds.length=l.length*5:=by rw[hro.length,hlen]
  have h1o : ∀ u∈olds,u.oneCell'=true:=Gs (aH l) hro;obtain⟨news,hnews⟩ : ∃ news,news=varr.toList.take (Eu n).length:=⟨_,rfl⟩;rw[<-hnews] at hrv;have hn5:news.length=5:=hrv.length;have h1v : ∀ u∈news,u.oneCell'=true:=Gs (cs:=Eu n) rfl hrv;have hvc : ∀ k u,news[k]?=some u->w.cell? ⟨vb,k,none⟩=some u:=λk u hk=>by
   rw[cell_of_row w vb k varr 76 (0,0) hvb,<-Array.getElem?_toList];rw[hnews,List.getElem?_take] at hk;split at hk
   .exact hk
   .cases hk
  have hrows:rows Eu (l.take i++n::l.drop i)=(rows Eu l).take (i*5)++Eu n++(rows Eu l).drop (i*5):=W8 Im l i n hi;have hrep:RepL w g (rows Eu (l.take i++n::l.drop i)) (olds.take (i*5)++news++olds.drop (i*5)):=by
   rw[hrows];exact ((hro.take (i*5)).append hrv).append (hro.drop (i*5))
  have htl:(olds.take (i*5)).length=i*5:=by rw[List.length_take,hol];omega
  have hvne : ∀ b,cap≠0->A=some ⟨b,0,none⟩->vb≠b:=λb h0 e hb=>by
   subst hb;exact hne (hs.inj id j vb (how vb h0 (by rw[e];rfl)) ⟨vj,_,_,_,_,_,hj,fj,hc0,rfl⟩)
  by_cases hin:i=l.length
  .subst hin;refine (mF A l.length cap vb cj w olds news hold hol hn1 hcm hn5 hvc h1v om).mono ?_;rintro e w' ⟨A2,cap2,rfl,k2,k3,k4⟩;have e2:olds.take (l.length*5)++news++olds.drop (l.length*5)=olds++news:=by rw[List.take_of_length_le om,List.drop_of_length_le om,List.append_nil]
   exact⟨_,_,_,A2,cap2,rfl,k2,k3,⟨rfl,rfl⟩,hrep,by rw[e2];exact k4⟩
  .have hil:i<l.length:=by omega
   rcases hold with ⟨h0,_⟩ | ⟨b,arr,h0,rfl,hb,hsz,hle,htk⟩
   .omega
   rw[hol] at htk;by_cases hroom:l.length+1<=cap
   .refine (iF b l.length cap i vb cj w arr olds news hb hsz hol htk h1o hil hroom hcm hn5 (hvne b h0 rfl) hvc h1v 76 varr.size (by simp[World.shape?,hvb]) (frozen_of_row w vb 0 varr 76 hvb) (frozen_of_row w vb varr.size varr 76 hvb)).mono ?_;rintro e w' ⟨rfl,rfl⟩;have hb1:w.drew.heap[b]?=some (.cells arr 76 (0,0)):=hb;have hdl:(olds.drop (i*5)).length=(l.length-i)*5:=by rw[List.length_drop,hol];omega
    rw[Hg Tryz.prog b ((i+1)*5) 76 (olds.drop (i*5)) arr w.drew hb1 om (λu hu=>h1o u (List.mem_of_mem_drop hu))];obtain⟨arr1,ha1⟩ : ∃ arr1,arr1=(arr.toList.take ((i+1)*5)++olds.drop (i*5)++arr.toList.drop ((i+1)*5+(olds.drop (i*5)).length)).toArray:=⟨_,rfl⟩;rw[<-ha1];have hs1:arr1.size=arr.size:=by rw[ha1];simp only[List.size_toArray,List.length_append,List.length_take,List.length_drop,Array.length_toList];omega
    have hb2:=setRow_heap w.drew b arr arr1 76 (0,0) hb1;rw[Hg Tryz.prog b (i*5) 76 news arr1 (w.drew.setRow b arr1) hb2 om h1v];obtain⟨arr2,ha2⟩ : ∃ arr2,arr2=(arr1.toList.take (i*5)++news++arr1.toList.drop (i*5+news.length)).toArray:=⟨_,rfl⟩;rw[<-ha2];have hs2:arr2.size=arr1.size:=by rw[ha2];simp only[List.size_toArray,List.length_append,List.length_take,List.length_drop,Array.length_toList];omega
    have hat:arr.toList.length=arr.size:=Array.length_toList;have h1t:arr1.toList.take (i*5)=olds.take (i*5):=by
     rw[ha1,List.toList_toArray,List.append_assoc,List.take_append_of_le_length (by rw[List.length_take,hat];omega),List.take_take,<-htk,List.take_take];congr 1;omega
    have h1d:(arr1.toList.drop ((i+1)*5)).take ((l.length-i)*5)=olds.drop (i*5):=by
     rw[ha1,List.toList_toArray,List.append_assoc,List.drop_append_of_le_length (by rw[List.length_take,hat];omega),List.drop_of_length_le (by rw[List.length_take,hat];omega),List.nil_append,<-hdl,List.take_left]
    refine⟨_,_,_,some ⟨b,0,none⟩,cap,rfl,hroom,hcm,⟨rfl,rfl⟩,hrep,⟨b,arr2,h0,rfl,setRow_heap _ b arr1 arr2 76 (0,0) hb2,by omega,?_,?_,.inr ⟨h0,rfl⟩⟩,rfl,rfl,rfl,?_,λk hk hkb=>?_⟩
    .rw[List.length_append,List.length_append,htl,hn5,hdl];omega
    .rw[List.length_append,List.length_append,htl,hn5,hdl,ha2,List.toList_toArray,h1t,hn5];rw[List.take_append,List.length_append,htl,hn5,List.take_of_length_le (by rw[List.length_append,htl,hn5];omega)];congr 1;rw[show i*5+5+(l.length-i)*5-(i*5+5)=(l.length-i)*5 by omega,show i*5+5=(i+1)*5 by omega];exact h1d
    .simp[World.setRow]
    .have hkb':k≠b:=λe=>hkb h0 (by rw[e];rfl);rw[setRow_other _ _ _ _ hkb',setRow_other _ _ _ _ hkb'];rfl
   .obtain rfl:cap=l.length:=by omega
    refine (iG b l.length i vb cj w arr olds news hb hol htk h1o hil hbig hn5 hvc h1v).mono ?_;rintro e w' ⟨G,ROW,rfl,hG1,hG2,hRs,hRt,rfl⟩;have hdl:(olds.drop (i*5)).length=(l.length-i)*5:=by rw[List.length_drop,hol];omega
    obtain⟨W0,hW0⟩ : ∃ W0,W0=(w.alloc (.cells ROW 76)).drew:=⟨_,rfl⟩;have hb1:W0.heap[w.heap.size]?=some (.cells ROW 76 (0,0)):=by rw[hW0];exact heap_alloc_new w _
    have hW1 : ∀ k,k<w.heap.size->W0.heap[k]?=w.heap[k]?:=λk hk=>by rw[hW0];exact X4 w _ k hk
    have hW2:W0.os=w.os/\W0.tape=w.tape/\W0.output=w.output/\w.heap.size<=W0.heap.size:=by rw[hW0];refine⟨rfl,rfl,rfl,?_⟩;show _<=(w.alloc _).heap.size;simp
    rw[<-hW0,Hg Tryz.prog w.heap.size (i*5) 76 news ROW W0 hb1 om h1v];obtain⟨arr1,ha1⟩ : ∃ arr1,arr1=(ROW.toList.take (i*5)++news++ROW.toList.drop (i*5+news.length)).toArray:=⟨_,rfl⟩;rw[<-ha1];have hs1:arr1.size=ROW.size:=by rw[ha1];simp only[List.size_toArray,List.length_append,List.length_take,List.length_drop,Array.length_toList];omega
    have hb2:(W0.setRow w.heap.size arr1).drew.heap[w.heap.size]?=some (.cells arr1 76 (0,0)):=setRow_heap W0 w.heap.size ROW arr1 76 (0,0) hb1;rw[Hg Tryz.prog w.heap.size ((i+1)*5) 76 (olds.drop (i*5)) arr1 (W0.setRow w.heap.size arr1).drew hb2 om (λu hu=>h1o u (List.mem_of_mem_drop hu))];obtain⟨arr2,ha2⟩ : ∃ arr2,arr2=(arr1.toList.take ((i+1)*5)++olds.drop (i*5)++arr1.toList.drop ((i+1)*5+(olds.drop (i*5)).length)).toArray:=⟨_,rfl⟩;rw[<-ha2];have hs2:arr2.size=arr1.size:=by rw[ha2];simp only[List.size_toArray,List.length_append,List.length_take,List.length_drop,Array.length_toList];omega
    have h1t:arr1.toList.take ((i+1)*5)=olds.take (i*5)++news:=by
     have hll:(olds.take (i*5)++news).length=(i+1)*5:=by rw[List.length_append,htl,hn5];omega
     rw[ha1,List.toList_toArray,hRt,<-hll,List.take_left]
    refine⟨_,_,_,some ⟨w.heap.size,0,none⟩,G,rfl,hG1,hG2,⟨rfl,rfl⟩,hrep,⟨w.heap.size,arr2,by omega,rfl,setRow_heap _ w.heap.size arr1 arr2 76 (0,0) hb2,by omega,?_,?_,.inl (Nat.le_refl _)⟩,hW2.1,hW2.2.1,hW2.2.2.1,?_,λk hk hkb=>?_⟩
    .rw[List.length_append,List.length_append,htl,hn5,hdl];omega
    .have hll:(olds.take (i*5)++news++olds.drop (i*5)).length=(olds.take (i*5)++news++olds.drop (i*5)).length:=rfl;rw[ha2,List.toList_toArray,h1t,List.take_left]
    .have:=hW2.2.2.2;simpa [World.setRow,World.drew] using this
    .rw[setRow_other _ _ _ _ om];show (W0.setRow w.heap.size arr1).heap[k]?=_;rw[setRow_other _ _ _ _ om];exact hW1 k hk
 .rintro x h' ⟨n',cs,⟨rfl,rfl⟩,rfl,rfl⟩;exact⟨rfl,rfl⟩
end
end Go.Proofs.YtfcecekilahfiaaGreatDoor
namespace Go.Ab
variable {h:AH}
section
open Go.RowKit
section
def Thw (h:AH) (c d:AV):Prop := ∀ w g y,SimH w g h->Rep w g c y->Rep w (g.frz h 0) d y
def ThwL (h:AH) (c d:List AV):Prop := ∀ w g y,SimH w g h->RepL w g c y->RepL w (g.frz h 0) d y
def Thw.same {c:AV}(hl:c.lt 0=true):Thw h c c:=λw g y hs hr=>Rep.mono (g.cut_le_frz h 0) (λ_ _=>rfl) _ _ (Rep.cut _ _ hl hr)
def ThwL.same {c:List AV}(hl:AV.ltL 0 c=true):ThwL h c c:=λw g y hs hr=>RepL.mono (g.cut_le_frz h 0) (λ_ _=>rfl) _ _ (RepL.cut _ _ hl hr)
def ThwL.nil :ThwL h [] []:=ThwL.same rfl
def ThwL.cons {c d:AV}{cs ds:List AV}(h1:Thw h c d) (h2:ThwL h cs ds):ThwL h (c::cs) (d::ds):=λw g y hs hr=>by
 simp only[RepL] at hr ⊢;obtain⟨u,us,e,r1,r2⟩:=hr;exact⟨u,us,e,h1 _ _ _ hs r1,h2 _ _ _ hs r2⟩
def Thw.agg {cs ds:List AV}(h2:ThwL h cs ds):Thw h (.agg cs) (.agg ds):=λw g y hs hr=>by
 simp only[Rep] at hr ⊢;obtain⟨vs,e,r⟩:=hr;exact⟨vs,e,h2 _ _ _ hs r⟩
def Thw.own {id v m ty s:Nat}{cells:List AV}(he:h[id]?=some (.mk v ty s cells)) (hl:cells.length=m*s) (hlt:AV.ltL 0 cells=true):Thw h (.own id v m) (.sl m s false cells):=λw g y hs hr=>by
 simp only[Rep] at hr ⊢;obtain⟨A,cap,e1,e2,e3,rfl⟩:=hr;obtain⟨A',cap',f1,_,f3⟩:=hs.ent _ _ _ _ _ he;rw[e1] at f1;simp only[Option.some.injEq,Prod.mk.injEq] at f1;obtain⟨rfl,rfl⟩:=f1;refine⟨hl,A,cap,rfl,e2,e3,(λh=>by cases h),?_,λhne=>?_⟩
 .rintro rfl;rcases f3 with ⟨_,h0⟩ | ⟨b,arr,e,_⟩
  .exact h0
  .cases e
 .rcases f3 with ⟨rfl,_⟩ | ⟨b,arr,rfl,hc0,hd,hb,_,hle,hrl⟩
  .exact absurd rfl hne
  .refine⟨b,0,rfl,.inr ⟨id,Nat.zero_le _,v,ty,s,cells,_,cap,he,e1,hc0,rfl⟩,RepC.of_row hb _ 0 ?_⟩;rw[List.drop_zero];exact RepL.mono (g.cut_le_frz h 0) (λ_ _=>rfl) _ _ (RepL.cut _ _ hlt hrl)
def plnB:AV->Bool
 | .v _=>true
 | .tup l=>l.all λc=>match c with
  | .v _=>true
  | _=>false
 | _=>false
def oT : ∀ (l:List AV) (vs:List Value) {w w':World}{g g':Gh},(l.all λc=>match c with
  | .v _=>true
  | _=>false)=true->RepL w g l vs->RepL w' g' l vs
 | [],vs,_,_,_,_,_,h=>by simpa only [RepL] using h
 | c::l,vs,w,w',g,g',hp,h=>by
  simp only[RepL] at h ⊢;obtain⟨u,us,e,r1,r2⟩:=h;simp only[List.all_cons,Bool.and_eq_true] at hp;refine⟨u,us,e,?_,oT l us hp.2 r2⟩;cases c <;> simp at hp;simpa only [Rep] using r1
variable {P : Program}
def ACalls.thaw {f:FuncId}{args args':List AV}{c:AV}(hc:ACalls P f args' [] λz y=>y=[]/\z=.ret c) (hp:plnB c=true) (ht:ThwL h args args'):ACalls P f args h λz y=>y=h/\z=.ret c:=by
 refine⟨hc.1,λw g vs hs ha=>?_⟩;have s:=(hs.frz (n:=0) (Nat.zero_le _) (by simp)).1;refine (hc.2 w (g.frz h 0) vs s (ht w g _ hs ha)).mono ?_;rintro e w' ⟨y,k1,g1,r1,r2,r3,r4,r5,rfl,rfl⟩;have no : ∀ k,¬Ow (g.frz h 0) (List.take 0 h) k:=by
  rintro k (⟨i,ver,ty,s,c,b,cap,e,_⟩ | ⟨i,o,T,us,e⟩) <;> simp at e
 refine⟨.ret c,h,g,?_,hs.world (λk hk=>?_) r4.size,Gh.le.refl g,⟨r4.os,r4.tape,r4.output,r4.size,λk h1 h2=>r4.block k h1 (no k)⟩,λk hk=>.inl hk,rfl,rfl⟩
 .cases e <;> simp only[EndR] at r1 ⊢;cases c <;> simp only[plnB] at hp <;> try (cases hp;done)
  .simpa only [Rep] using r1
  .simp only[Rep] at r1 ⊢;obtain⟨us,e,r⟩:=r1;exact⟨us,e,oT _ _ hp r⟩
 .refine r4.block k ?_ (no k);rcases hk with hk | hk
  .exact hs.lt k hk
  .exact (hs.own_not_D hk).2
end
end
end Go.Ab
namespace Go.Proofs.YtfcecekilahfiaaGreatDoor
open Go.Ab
variable {E h:AH}{KS a0 a1 a2 a3 a4 a5 a6 lw:AV}{sh:Bool}{b c:Ent}{T:List AV}{l:List Nam}{S:List UInt8}{p:NPt}{K R i ik j k n ty v v0:Nat}{x:Operand}{r:Rel}{u:Upd}
section
open Go.Ab Go.RowKit Civ
attribute [local simp] Cp Ib Lt Dn Oi Gv
section
def nK {l:List AV}:((a0::a1::a2::a3::a4::a5::a6::l).drop 1).take 6=[a1,a2,a3,a4,a5,a6]:=rfl
end
def k85:=Kx 85 []
def k87:=Kx 87 [.e [] 13 [],.e [] 16 [false,false],.e [] 9 [false]]
def k89:=Ku (none) 89 [.u [[],[],[],[],[],[0,1,2,3,4],[0,1,2,3,4],[],[],[],[9],[10],[]],.u [[],[0],[0],[0],[0],[0],[0,1,2,3,4,5],[0,1,2,3,4,5,6],[0,1,2,3,4,5,6],[0,1,2,3,4,5,6,7,8],[0,1,2,3,4,5,6,7,8],[0,1,2,3,4,5,6,7,8],[0,1,2,3,4,5,6],[0,1,2,3,4,5,6],[0],[],[],[],[]]]
abbrev Tbs:=Nat×List Nam
abbrev kE (R:Nat) (lw:AV) (s:Tbs):Ent:=.mk 0 137 2 [.own R s.1 s.2.length,lw]
abbrev rE (s:Tbs):Ent:=.mk s.1 76 5 (rows Eu s.2)
def okTbs (s:Tbs):Prop:=risN s.2/\(∀ n∈s.2,Ur n/\Bw n.2=0)
def Oy (s:Tbs) (d:ByteArray):Tbs×Int:=if hasN s.2 d=true then ((s.1,s.2.eraseIdx (idxN s.2 d)),0) else (s,5)
def cW {nm:ByteArray}(hR:h[R]?=some (.mk v ty 5 (rows Eu l))) (hr:risN l) (hl:l.length<=4000000000000) :
  Ac 69 [.own R v l.length,sv nm] h (.tup [iv (posN l nm),bv (hasN l nm)]) :=
 (ACalls.wk (wkw (Wk.sl (Ro l)) (wk1 rfl wk0)) (Pw (full:=false) (h:=[]) hr hl)).thaw rfl (ThwL.cons (Thw.own hR (Gm l) (Lt l)) (ThwL.cons (Thw.same rfl) ThwL.nil))
def rchk_o {t:List Nam}{k:List Lnk}(hR:h[R]?=some (.mk v ty 5 (rows Eu t))) (hok:F9 (t,k)):Ac 28 [.agg [.own R v t.length,.fs k.length 2 (rows lnkC k)]] h (iv (Cb (t,k))) :=
 (ACalls.wk (wkw (Wk.agg (wkw (Wk.sl (Ro t)) (wkw Wk.fs wk0))) wk0) (Xg (f1:=false) (f2:=false) (h:=[]) hok)).thaw rfl (ThwL.cons (Thw.agg (ThwL.cons (Thw.own hR (Gm t) (Lt t)) (ThwL.cons (Thw.same (by simp[AV.lt,Dn])) ThwL.nil))) ThwL.nil)
def Mt {N:Nat}{s s':Tbs}(h:(kE R lw s).lt N=true):(kE R lw s').lt N=true:=by simpa [Ent.lt,AV.lt,AV.ltL] using h
def Ml {N:Nat}{s:Tbs}:(rE s).lt N=true:=by simp[Ent.lt,Lt]
def drop_a {s:Tbs}{d:ByteArray}(hK:h[K]?=some (kE R lw s)) (hR:h[R]?=some (rE s)) (hne:K≠R) (hs:okTbs s) (hz:s.2.length<=2000000000000) :
  ACalls Tryz.prog 85 [.ptr K 0 0,sv d] h λr h'=>r=.ret (iv (Oy s d).2)/\h'=(h.set K (kE R lw (Oy s d).1)).set R (rE (Oy s d).1):=by
 have hid:K<h.length:=(List.getElem?_eq_some_iff.1 hK).1;have hib:R<h.length:=(List.getElem?_eq_some_iff.1 hR).1;have hr:=hs.1;refine tJ' k85 λN hn hlt _ hbd=>?_;simp only[tb'] at hbd ⊢;have hKl:=hlt _ (List.mem_of_getElem? hK);refine Gg (h1:=(h.set K (kE R lw s)).set R (rE s)++[]) (by rw[I8 hK hR]) ?_;refine wk'<|wm<|Vw (Cr lk)<|fq<|fq<|Vw (Aa lk (Dx hne hid) gt0)<|mw<|?_;refine Af mp (cW (F1 hib) hr om) pt ?_;refine mw<|Vw (B7 lk gt)<|Vw (B7 lk gt)<|mw<|ms<|Ab<|wm<|Vw (Bj lk)<|sn'<|?_;refine Bg lk (λhc1=>?_) (λhc1=>?_)
 .have hb:hasN s.2 d=false:=by simpa using hc1
  have hD:Oy s d=(s,5):=if_neg (by rw[hb];simp);refine wo<|Ag<|Ad rz<|?_;refine⟨_,[],by simp only[List.append_nil];rfl,Bu hn,Gf hlt (Mt hKl) Ml,rfl,?_⟩;rw[hD];exact⟨rfl,rfl⟩
 have hb:hasN s.2 d=true:=by simpa using hc1
 have hp:=(V1 hr hb);obtain⟨hpl,_⟩:=Q5 hb;have hD:Oy s d=((s.1,s.2.eraseIdx (idxN s.2 d)),0):=if_pos hb;rw[hp];refine za<|wm<|mw<|Vw (Cr lk)<|fq<|fq<|Vw (Aa lk (Dx hne hid) gt0)<|mw<|mw<|?_;refine ad<|H2 mp (delete_a (F1 hib) hpl) (Hs hib) pt<|Vw (Cr lk)<|fq<|fq<|E' (Ai lk cv (Dx hne hid) rfl nb rfl Ct (Gp hne hid)) ptn<|sn'<|wo<|Ad rz<|?_;rw[show s.2.length-1=(s.2.eraseIdx (idxN s.2 d)).length from (List.length_eraseIdx_of_lt hpl).symm];refine⟨_,[],by simp only[List.append_nil];rfl,Bu hn,Gf hlt (Mt (s':=(s.1,s.2.eraseIdx (idxN s.2 d))) hKl) (Ml (s:=(s.1,s.2.eraseIdx (idxN s.2 d)))),rfl,?_⟩;rw[hD];exact⟨rfl,rfl⟩
def Fh (s:Tbs) (p:NPt):Tbs×Int:=match B4 s.2 p.1 with
 | none=>(s,5)
 | some t=>if patE t p.2≠0 then (s,patE t p.2) else ((s.1,s.2.set (idxN s.2 p.1) (p.1,patV t p.2)),0)
def set_tab (t:Tab) (hi:i<l.length):setCells (rows Eu l) (i*5+1) [iv t.1.1,iv t.1.2.1,sv t.1.2.2,chFr t.2]=rows Eu (l.set i (l[i].1,t)):=by
 rw[<-W7 Im hi (l[i].1,t)];show _=setCells ((rows Eu l).set (i*5) (sv l[i].1)) (i*5+1) _;have h0:i*5<(rows Eu l).length:=by rw[Gm];omega
 have h1:(rows Eu l)[i*5]=sv l[i].1:=by
  have:=congrArg (·[0]?) (Lp Im hi);simp only[List.getElem?_take,List.getElem?_drop] at this;simpa [List.getElem?_eq_getElem h0] using this
 rw[<-h1,List.set_getElem_self]
def kE_set {s:Tbs}{x:Nam}:kE R lw s=kE R lw (s.1,s.2.set i x):=by
 show Ent.mk _ _ _ [AV.own R s.1 s.2.length,lw]=Ent.mk _ _ _ [AV.own R s.1 (s.2.set i x).length,lw];rw[List.length_set]
def gK (p:NPt):Prop:=p.1.size<=maxLen/\okP p.2
def patch_a {s:Tbs}(hK:h[K]?=some (kE R lw s)) (hR:h[R]?=some (rE s)) (hne:K≠R) (hs:okTbs s) (hz:s.2.length<=2000000000000) (hp:gK p) :
  ACalls Tryz.prog 87 [.ptr K 0 0,.agg (nptC p)] h λr h'=>r=.ret (iv (Fh s p).2)/\h'=(h.set K (kE R lw (Fh s p).1)).set R (rE (Fh s p).1):=by
 have hid:K<h.length:=(List.getElem?_eq_some_iff.1 hK).1;have hib:R<h.length:=(List.getElem?_eq_some_iff.1 hR).1;have hr:=hs.1;refine tJ' k87 λN hn hlt _ hbd=>?_;simp only[tb'] at hbd ⊢;have hKl:=hlt _ (List.mem_of_getElem? hK);refine Gg (h1:=(h.set K (kE R lw s)).set R (rE s)++[]) (by rw[I8 hK hR]) ?_;refine wr'<|E' (Bq cv rfl (hl0 (Bu hn)) ha0) pt<|ms<|Ab<|Bl<|Dw vm<|Dw (Cr lk)<|dg<|dg<|Dw (Aa lk (Dx hne hid) gt0)<|dg<|?_;refine D' (Aa lk (hga (Bu hn) rfl) gt0) pt ?_;refine Br mp (λhE hX=>cW (hX _ _ (F1 hib)) hr om) pt ?_;refine Dw vm<|Dw (B7 lk gt)<|Dw (B7 lk gt)<|Dw vm<|Dw vm<|Bi<|?_;refine B9 ?_;refine sn'<|Ab<|wm<|Vw (Bj lk)<|sn'<|?_;refine Bg lk (λhc1=>?_) (λhc1=>?_)
 .have hb:hasN s.2 p.1=false:=by simpa using hc1
  have hD:Fh s p=(s,5):=by unfold Fh;rw[show B4 s.2 p.1=none from by have h9:=Fl s.2 p.1;rw[hb] at h9;cases hk:B4 s.2 p.1 with | none=>rfl | some t=>rw[hk] at h9;cases h9]
  refine wo<|Ag<|Ad rz<|?_;refine⟨_,_,rfl,Bu hn,Gf hlt (Mt hKl) Ml,rfl,?_⟩;rw[hD];exact⟨rfl,rfl⟩
 have hb:hasN s.2 p.1=true:=by simpa using hc1
 have hpp:=(V1 hr hb);obtain⟨hpl,hpn⟩:=Q5 hb;have hfd:B4 s.2 p.1=some s.2[idxN s.2 p.1].2:=by rw[Xy,List.getElem?_eq_getElem hpl];rfl
 have hok:=hs.2 _ (List.getElem_mem hpl);have hln:=D7 hok.2;rw[hpp];refine za<|Ab<|Bl<|Dw vm<|Dw (Cr lk)<|dg<|dg<|Dw (Aa lk (Dx hne hid) gt0)<|Dw vm<|?_;refine D' (Ck (k:=idxN s.2 p.1) lk lk (F1 hib) Im nb ro om (by first | rfl | (simp;done) | omega)) pt ?_;refine D' (Df lk) pt ?_;refine D' (nR lk (F1 hib) Im om nb Ig rfl) pt ?_;refine dg<|Dw (Ak lk (hga (Bu hn) rfl) nK rfl)<|?_;refine Br mp (λhE hX=>ACalls.wk (wkw (Is (t:=s.2[idxN s.2 p.1].2)) (wk1 rfl wk0))<|Z7 (t:=s.2[idxN s.2 p.1].2) (f1:=false) hln hok.1.2 hp.2) pt ?_;refine Dw vm<|Dw (B7 lk gt)<|Dw (B7 lk gt)<|D5 rfl rfl (hlk (Bu hn) rfl) (Lv) pt B2<|Bi<|?_;refine Eg J4 ?_;refine E' (Ai lk cv (hga (Bu hn) rfl) rfl nb rfl Ay (hs1 (Bu hn))) ptn<|ms<|Ab<|wm<|Vw (Cy lk lki)<|sn'<|?_;refine cd' lk (λhc2=>?_) (λhc2=>?_)
 .have he0:patE s.2[idxN s.2 p.1].2 p.2=0:=hc2;have hD:Fh s p=((s.1,s.2.set (idxN s.2 p.1) (s.2[idxN s.2 p.1].1,patV s.2[idxN s.2 p.1].2 p.2)),0):=by unfold Fh;rw[hfd,hpn];dsimp only;rw[if_neg (by rw[he0];simp)]
  refine Bl<|Dw vm<|Dw (Cr lk)<|dg<|dg<|Dw (Aa lk (Dx hne hid) gt0)<|Dw vm<|Dw (Ak lk (hga (Bu hn) rfl) Av rfl)<|?_;refine D' (Ck lk lk (F1 hib) Im nb ro om (by first | rfl | (simp;done) | omega)) pt ?_;refine Dw (Df lk)<|Bi<|?_;refine B9 ?_;refine E' (Ai lk cv (F1 hib) rfl (by rw[Gm];omega) rfl (set_tab _ hpl) (Hs hib)) ptn ?_;refine sn'<|wm<|mr<|Ad rz<|?_;rw[kE_set (R:=R) (lw:=lw) (s:=s) (i:=idxN s.2 p.1) (x:=(s.2[idxN s.2 p.1].1,patV s.2[idxN s.2 p.1].2 p.2))];refine⟨_,_,rfl,Bu hn,Gf hlt (Mt (s':=(s.1,s.2.set (idxN s.2 p.1) (s.2[idxN s.2 p.1].1,patV s.2[idxN s.2 p.1].2 p.2))) hKl) (Ml (s:=(s.1,s.2.set (idxN s.2 p.1) (s.2[idxN s.2 p.1].1,patV s.2[idxN s.2 p.1].2 p.2)))),rfl,?_⟩;rw[hD];exact⟨by rw[he0],rfl⟩
 have hD:Fh s p=(s,patE s.2[idxN s.2 p.1].2 p.2):=by unfold Fh;rw[hfd];exact if_pos hc2
 refine za<|wm<|mr<|Ad rz<|?_;refine⟨_,_,rfl,Bu hn,Gf hlt (Mt hKl) Ml,rfl,?_⟩;rw[hD];exact⟨rfl,rfl⟩
def putS (s:Tbs) (n:Nam):Tbs×Int:=if hasN s.2 n.1=true then (s,6) else ((s.1+1,insN s.2 n),0)
def place_u {s:Tbs}{nm:ByteArray}(hR:h[R]?=some (rE s)) (hr:risN s.2) (hz:s.2.length<=4000000000000) :
  ACalls Tryz.prog 69 [.own R s.1 s.2.length,sv nm] h λx h'=>x=.ret (.tup [iv (posN s.2 nm),bv (hasN s.2 nm)])/\h'=h.set R (rE s) :=
 (cW hR hr hz).mono λ_ _ ⟨a,b⟩=>⟨b,by rw[a,Hi hR]⟩
def put_a {s:Tbs}{n:Nam}(hK:h[K]?=some (kE R lw s)) (hR:h[R]?=some (rE s)) (hne:K≠R) (hs:risN s.2) (hz:s.2.length<=2000000000000) (hp:n.2.2.length<=3518437208883) :
  ACalls Tryz.prog 89 [.ptr K 0 0,.agg (namC n)] h λr h'=>r=.ret (iv (putS s n).2)/\h'=(h.set K (kE R lw (putS s n).1)).set R (rE (putS s n).1):=by
 have hid:K<h.length:=(List.getElem?_eq_some_iff.1 hK).1;have hib:R<h.length:=(List.getElem?_eq_some_iff.1 hR).1;have hr:=hs;refine tUJ' k89 λN hn hlt _ hbd=>?_;simp only[tb'] at hbd ⊢;have hKl:=hlt _ (List.mem_of_getElem? hK);refine Gg (h1:=(h.set K (kE R lw s)).set R (rE s)++[]) (by rw[I8 hK hR]) ?_;refine wr'<|E' (Bq cv rfl (hl0 (Bu hn)) ha0) pt<|ms<|Ab<|bT<|uf vm<|uf (Cr lk)<|uf (G0 lk)<|uf (G0 lk)<|?_;refine Wo rfl (Aa lk (Dx hne hid) gt0) (hx_l rfl) (hl1 (Bu hn)) nh pt ?_;refine u_fr rfl (G0 lk) pt ?_;refine Wo rfl (Aa lk (hga (Bu hn) rfl) gt0) (hx_l rfl) (hl1 (Bu hn)) nh pt ?_;refine bW mp (F1 hib) (λhU hUe=>place_u hUe hr om) nh (Hs hib) pt ?_;refine uf vm<|uf (B7 lk gt)<|uf (B7 lk gt)<|uf vm<|uf vm<|u_nil<|An<|Ab<|wk'<|?_;refine Bg lk (λhc1=>?_) (λhc1=>?_)
 .have hb:hasN s.2 n.1=true:=hc1;have hD:putS s n=(s,6):=if_pos hb;refine wo<|Ag<|Ad rz<|?_;refine⟨_,_,rfl,Bu hn,Gf hlt (Mt hKl) Ml,rfl,?_⟩;rw[hD];exact⟨rfl,rfl⟩
 have hb:hasN s.2 n.1=false:=by simpa using hc1
 have hD:putS s n=((s.1+1,insN s.2 n),0):=if_neg (by rw[hb];simp);refine za<|Ab<|bT<|uf vm<|uf vm<|uf (Cr lk)<|uf (G0 lk)<|uf (G0 lk)<|?_;refine Wo rfl (Aa lk (Dx hne hid) gt0) (hx_l rfl) (hl1 (Bu hn)) nh pt ?_;refine uf vm<|uf (G0 lk)<|?_;refine Wo rfl (Aa lk (hga (Bu hn) rfl) gt0) (hx_l rfl) (hl1 (Bu hn)) nh pt ?_;refine u_fr rfl (G0 lk) pt ?_;refine Wo rfl (Ak lk (hga (Bu hn) rfl) Ig rfl) (hx_l rfl) (hl1 (Bu hn)) nh pt ?_;refine nS mp (λhU=>cP hp) pt ?_;refine u_fr rfl (Bb (H6 cw cw)) pt ?_;refine u_al rfl (Ep (Dk cw) (hl1 (Bu hn)) ha1) (hl1 (Bu hn)) nh pt ?_;refine u_callW mp (F1 hib) (hga (Bu hn) rfl) (λhU hUe hUj=>insert_a (l:=s.2) (n:=n) (i:=posN s.2 n.1) hUe hUj om (lP _ _) hz) nh (Hs hib) pt ?_;refine uf (Cr lk)<|uf (G0 lk)<|uf (G0 lk)<|?_;refine u_st (Ai lk cv (Dx hne hid) rfl nb rfl Ct (Gp hne hid)) lk nh ptn ?_;refine u_nil<|An<|wo<|Ad rz<|?_;rw[show s.2.length+1=(insN s.2 n).length from (pJ _ _).symm];refine⟨_,_,rfl,Bu hn,Gf hlt (Mt (s':=(s.1+1,insN s.2 n)) hKl) (Ml (s:=(s.1+1,insN s.2 n))),rfl,?_⟩;rw[hD];exact⟨rfl,rfl⟩
end
open Go.Ab
variable {s s0:Tbs}
section
open Go.Ab Go.RowKit Civ
attribute [local simp] Cp Ib Lt Dn Oi Gv
section
def nJ {c0 c1 c2 c3 c4 c5 c6:AV}{l:List AV}:setCells (a0::a1::a2::a3::a4::a5::a6::l) 0 [c0,c1,c2,c3,c4,c5,c6]=c0::c1::c2::c3::c4::c5::c6::l:=rfl
def nI {l:List AV}:((a0::a1::a2::a3::a4::a5::a6::l).drop 0).take 7=[a0,a1,a2,a3,a4,a5,a6]:=rfl
end
def k84:=Kx 84 []
def k86:=Kx 86 []
def k88:=Kx 88 []
section
variable {α : Type}
def runS (f:Tbs->α->Tbs×Int):Tbs->List α->Tbs×Int
 | s,[]=>(s,0)
 | s,x::xs=>if (f s x).2≠0 then f s x else runS f (f s x).1 xs
def atS (f:Tbs->α->Tbs×Int) (s0:Tbs) (l:List α) (i:Nat) (s:Tbs):Prop:=runS f s0 l=runS f s (l.drop i)
def atS_0 (f:Tbs->α->Tbs×Int) (s0:Tbs) (l:List α):atS f s0 l 0 s0:=by unfold atS;rw[List.drop_zero]
def nB {f:Tbs->α->Tbs×Int}{l:List α}(h:atS f s0 l i s) (hi:i<l.length) (h0:(f s l[i]).2=0):atS f s0 l (i+1) (f s l[i]).1:=by
 unfold atS at h ⊢;rw[h,List.drop_eq_getElem_cons hi,runS,if_neg (by rw[h0];simp)]
def eM {f:Tbs->α->Tbs×Int}{l:List α}(h:atS f s0 l i s) (hi:i<l.length) (h0:(f s l[i]).2≠0):runS f s0 l=f s l[i]:=by
 unfold atS at h;rw[h,List.drop_eq_getElem_cons hi,runS,if_pos h0]
def eL {f:Tbs->α->Tbs×Int}{l:List α}(h:atS f s0 l i s) (hi:l.length<=i):runS f s0 l=(s,0):=by
 unfold atS at h;rw[h,List.drop_of_length_le hi];rfl
end
def eachS_a {f:Tbs->ByteArray->Tbs×Int}{I:Nat->Tbs->Prop}{l:List ByteArray}{fl:Bool}{F:Nat}(hK:h[K]?=some (kE R lw s0)) (hR:h[R]?=some (rE s0)) (hne:K≠R) (h0:I 0 s0)
  (hI : ∀ i s (hi:i<l.length),I i s->(f s l[i]).2=0->I (i+1) (f s l[i]).1)
  (hc : ∀ i s (hi:i<l.length) (h:AH),I i s->h[K]?=some (kE R lw s)->h[R]?=some (rE s)->ACalls Tryz.prog F [.ptr K 0 0,sv l[i]] h λr h'=>r=.ret (iv (f s l[i]).2)/\h'=(h.set K (kE R lw (f s l[i]).1)).set R (rE (f s l[i]).1)) :
  ACalls Tryz.prog 84 [.sl l.length 1 fl (rows strC l),.bnd (.func F) [.ptr K 0 0]] h λx h'=>x=.ret (iv (runS f s0 l).2)/\h'=(h.set K (kE R lw (runS f s0 l).1)).set R (rE (runS f s0 l).1):=by
 have hid:K<h.length:=(List.getElem?_eq_some_iff.1 hK).1;have hib:R<h.length:=(List.getElem?_eq_some_iff.1 hR).1;refine tJ' k84 λN hn hlt _ hbd=>?_;simp only[tb'] at hbd ⊢;have hKl:=hlt _ (List.mem_of_getElem? hK);refine Gg (h1:=(h.set K (kE R lw s0)).set R (rE s0)++[]) (by rw[I8 hK hR]) ?_;refine wk'<|Ab<|wm<|Vw (Bf lk)<|ms<|Ah<|?_;refine Ll (ι:=Nat×Tbs) (λ⟨i,s⟩=>[(10,iv (i:Int)),(4,.any),(6,.any),(7,.any)]++rn' 11 10) (λ⟨i,s⟩=>(h.set K (kE R lw s)).set R (rE s)++[]) (λ⟨i,s⟩=>i<=l.length/\I i s/\atS f s0 l i s) (λ⟨i,s⟩=>l.length-i) (⟨0,s0⟩) (by exact⟨Nat.zero_le _,h0,atS_0 f s0 l⟩) (by try simp only[sm',Nat.reduceAdd];exact ALe.same wA' rfl) ?_;rintro⟨i,s⟩ hi1;try simp only[sm',Nat.reduceAdd]
 obtain⟨hi1,hi2,hi3⟩:=hi1;refine wr'<|Vw (Bm lk lk)<|sn'<|Ab<|?_;refine cd' lk (λhc1=>?_) (λhc1=>?_)
 .have hi:i<l.length:=by omega
  have hS2 : ∀ x∈(h.set K (kE R lw (f s l[i]).1)).set R (rE (f s l[i]).1),x.lt N=true:=Gf hlt (Mt hKl) Ml;refine za<|Ab<|Ah<|wr'<|?_;refine V' (Bh lk lk Rt nb ro om ro rfl) pt ?_;refine Vw (Ba lk gt)<|ms<|wm<|mw<|?_;refine Wy lk mp ((hc i s hi _ hi2 (Dx hne hid) (F1 hib)).mono λr h'' hh=>⟨hh.1,hh.2.trans (by rw[Gp hne hid,Hs hib])⟩) pt ?_;refine ms<|wm<|Vw (Ca lk lki)<|sn'<|?_;refine cd' lk (λhc2=>?_) (λhc2=>?_)
  .have hE:=eM hi3 hi hc2;refine wm<|mr<|Au<|Ag<|Ag<|Au<|Ag<|Ad rz<|?_;exact⟨_,[],rfl,Bu hn,hS2,rfl,by rw[hE],by rw[hE]⟩
  have hE:(f s l[i]).2=0:=Decidable.of_not_not hc2;refine Be<|Aw<|An<|Aq<|?_;refine ad<|mw<|Am<|Az<|?_;refine lT' (⟨i+1,(f s l[i]).1⟩) (by (try dsimp only);exact⟨by omega,hI i s hi hi2 hE,nB hi3 hi hE⟩)
 have hE:=eL hi3 (show l.length<=i by omega);refine Bd<|As<|As<|Bp<|An<|wo<|Ad rz<|?_;exact⟨_,[],rfl,Bu hn,Gf hlt (Mt hKl) Ml,rfl,by rw[hE],by rw[hE]⟩
def eachP_a {f:Tbs->NPt->Tbs×Int}{I:Nat->Tbs->Prop}{l:List NPt}{fl:Bool}{F:Nat}(hK:h[K]?=some (kE R lw s0)) (hR:h[R]?=some (rE s0)) (hne:K≠R) (h0:I 0 s0)
  (hI : ∀ i s (hi:i<l.length),I i s->(f s l[i]).2=0->I (i+1) (f s l[i]).1)
  (hc : ∀ i s (hi:i<l.length) (h:AH),I i s->h[K]?=some (kE R lw s)->h[R]?=some (rE s)->ACalls Tryz.prog F [.ptr K 0 0,.agg (nptC l[i])] h λr h'=>r=.ret (iv (f s l[i]).2)/\h'=(h.set K (kE R lw (f s l[i]).1)).set R (rE (f s l[i]).1)) :
  ACalls Tryz.prog 86 [.sl l.length 7 fl (rows nptC l),.bnd (.func F) [.ptr K 0 0]] h λx h'=>x=.ret (iv (runS f s0 l).2)/\h'=(h.set K (kE R lw (runS f s0 l).1)).set R (rE (runS f s0 l).1):=by
 have hid:K<h.length:=(List.getElem?_eq_some_iff.1 hK).1;have hib:R<h.length:=(List.getElem?_eq_some_iff.1 hR).1;refine tJ' k86 λN hn hlt _ hbd=>?_;simp only[tb'] at hbd ⊢;have hKl:=hlt _ (List.mem_of_getElem? hK);refine Gg (h1:=(h.set K (kE R lw s0)).set R (rE s0)++[]) (by rw[I8 hK hR]) ?_;refine wk'<|Ab<|wm<|Vw (Bf lk)<|ms<|Ah<|?_;refine Ll (ι:=Nat×Tbs) (λ⟨i,s⟩=>[(10,iv (i:Int)),(4,.any),(6,.any),(7,.any)]++rn' 11 10) (λ⟨i,s⟩=>(h.set K (kE R lw s)).set R (rE s)++[]) (λ⟨i,s⟩=>i<=l.length/\I i s/\atS f s0 l i s) (λ⟨i,s⟩=>l.length-i) (⟨0,s0⟩) (by exact⟨Nat.zero_le _,h0,atS_0 f s0 l⟩) (by try simp only[sm',Nat.reduceAdd];exact ALe.same wA' rfl) ?_;rintro⟨i,s⟩ hi1;try simp only[sm',Nat.reduceAdd]
 obtain⟨hi1,hi2,hi3⟩:=hi1;refine wr'<|Vw (Bm lk lk)<|sn'<|Ab<|?_;refine cd' lk (λhc1=>?_) (λhc1=>?_)
 .have hi:i<l.length:=by omega
  have hS2 : ∀ x∈(h.set K (kE R lw (f s l[i]).1)).set R (rE (f s l[i]).1),x.lt N=true:=Gf hlt (Mt hKl) Ml;refine za<|Ab<|Ah<|wr'<|?_;refine V' (Bh lk lk Mn nb ro om ro rfl) pt ?_;refine Vw (Ax lk Ui rfl)<|E' (Bz (hl0 (Bu hn)) ha0) pt<|E' (Ai lk cv (hga (Bu hn) rfl) rfl nb rfl nJ (hs0 (Bu hn))) ptn<|sn'<|wm<|Vw (Ak lk (hga (Bu hn) rfl) nI rfl)<|?_;refine Wy lk mp ((hc i s hi _ hi2 (Dx hne hid) (F1 hib)).mono λr h'' hh=>⟨hh.1,hh.2.trans (by rw[Gp hne hid,Hs hib])⟩) pt ?_;refine ms<|wm<|Vw (Ca lk lki)<|sn'<|?_;refine cd' lk (λhc2=>?_) (λhc2=>?_)
  .have hE:=eM hi3 hi hc2;refine wm<|mr<|Au<|Ag<|Ag<|Au<|Ag<|Ad rz<|?_;exact⟨_,_,rfl,Bu hn,hS2,rfl,by rw[hE],by rw[hE]⟩
  have hE:(f s l[i]).2=0:=Decidable.of_not_not hc2;refine Be<|Aw<|An<|Aq<|?_;refine ad<|mw<|Am<|Az<|?_;refine lU' (⟨i+1,(f s l[i]).1⟩) (by (try dsimp only);exact⟨by omega,hI i s hi hi2 hE,nB hi3 hi hE⟩) (by refine zz ?_;exact bk' 0 (Bu hn) hS2)
 have hE:=eL hi3 (show l.length<=i by omega);refine Bd<|As<|As<|Bp<|An<|wo<|Ad rz<|?_;exact⟨_,[],rfl,Bu hn,Gf hlt (Mt hKl) Ml,rfl,by rw[hE],by rw[hE]⟩
def eachN_a {f:Tbs->Nam->Tbs×Int}{I:Nat->Tbs->Prop}{fl:Bool}{F:Nat}(hK:h[K]?=some (kE R lw s0)) (hR:h[R]?=some (rE s0)) (hne:K≠R) (h0:I 0 s0)
  (hI : ∀ i s (hi:i<l.length),I i s->(f s l[i]).2=0->I (i+1) (f s l[i]).1)
  (hc : ∀ i s (hi:i<l.length) (h:AH),I i s->h[K]?=some (kE R lw s)->h[R]?=some (rE s)->ACalls Tryz.prog F [.ptr K 0 0,.agg (namC l[i])] h λr h'=>r=.ret (iv (f s l[i]).2)/\h'=(h.set K (kE R lw (f s l[i]).1)).set R (rE (f s l[i]).1)) :
  ACalls Tryz.prog 88 [.sl l.length 5 fl (rows namC l),.bnd (.func F) [.ptr K 0 0]] h λx h'=>x=.ret (iv (runS f s0 l).2)/\h'=(h.set K (kE R lw (runS f s0 l).1)).set R (rE (runS f s0 l).1):=by
 have hid:K<h.length:=(List.getElem?_eq_some_iff.1 hK).1;have hib:R<h.length:=(List.getElem?_eq_some_iff.1 hR).1;refine tJ' k88 λN hn hlt _ hbd=>?_;simp only[tb'] at hbd ⊢;have hKl:=hlt _ (List.mem_of_getElem? hK);refine Gg (h1:=(h.set K (kE R lw s0)).set R (rE s0)++[]) (by rw[I8 hK hR]) ?_;refine wk'<|Ab<|wm<|Vw (Bf lk)<|ms<|Ah<|?_;refine Ll (ι:=Nat×Tbs) (λ⟨i,s⟩=>[(10,iv (i:Int)),(4,.any),(6,.any),(7,.any)]++rn' 11 10) (λ⟨i,s⟩=>(h.set K (kE R lw s)).set R (rE s)++[]) (λ⟨i,s⟩=>i<=l.length/\I i s/\atS f s0 l i s) (λ⟨i,s⟩=>l.length-i) (⟨0,s0⟩) (by exact⟨Nat.zero_le _,h0,atS_0 f s0 l⟩) (by try simp only[sm',Nat.reduceAdd];exact ALe.same wA' rfl) ?_;rintro⟨i,s⟩ hi1;try simp only[sm',Nat.reduceAdd]
 obtain⟨hi1,hi2,hi3⟩:=hi1;refine wr'<|Vw (Bm lk lk)<|sn'<|Ab<|?_;refine cd' lk (λhc1=>?_) (λhc1=>?_)
 .have hi:i<l.length:=by omega
  have hS2 : ∀ x∈(h.set K (kE R lw (f s l[i]).1)).set R (rE (f s l[i]).1),x.lt N=true:=Gf hlt (Mt hKl) Ml;refine za<|Ab<|Ah<|wr'<|?_;refine V' (Bh lk lk B8 nb ro om ro rfl) pt ?_;refine Vw (Ax lk Dv rfl)<|E' (Bz (hl0 (Bu hn)) ha0) pt<|E' (Ai lk cv (hga (Bu hn) rfl) rfl nb rfl Li (hs0 (Bu hn))) ptn<|sn'<|wm<|Vw (Ak lk (hga (Bu hn) rfl) Rj rfl)<|?_;refine Wy lk mp ((hc i s hi _ hi2 (Dx hne hid) (F1 hib)).mono λr h'' hh=>⟨hh.1,hh.2.trans (by rw[Gp hne hid,Hs hib])⟩) pt ?_;refine ms<|wm<|Vw (Ca lk lki)<|sn'<|?_;refine cd' lk (λhc2=>?_) (λhc2=>?_)
  .have hE:=eM hi3 hi hc2;refine wm<|mr<|Au<|Ag<|Ag<|Au<|Ag<|Ad rz<|?_;exact⟨_,_,rfl,Bu hn,hS2,rfl,by rw[hE],by rw[hE]⟩
  have hE:(f s l[i]).2=0:=Decidable.of_not_not hc2;refine Be<|Aw<|An<|Aq<|?_;refine ad<|mw<|Am<|Az<|?_;refine lU' (⟨i+1,(f s l[i]).1⟩) (by (try dsimp only);exact⟨by omega,hI i s hi hi2 hE,nB hi3 hi hE⟩) (by refine zz ?_;exact bk' 0 (Bu hn) hS2)
 have hE:=eL hi3 (show l.length<=i by omega);refine Bd<|As<|As<|Bp<|An<|wo<|Ad rz<|?_;exact⟨_,[],rfl,Bu hn,Gf hlt (Mt hKl) Ml,rfl,by rw[hE],by rw[hE]⟩
end
section
open Go.Ab Civ
def pV {d:ByteArray}(h:hasN s.2 d=true):Oy s d=((s.1,s.2.eraseIdx (idxN s.2 d)),0):=if_pos h
def pW {d:ByteArray}(h:¬hasN s.2 d=true):Oy s d=(s,5):=if_neg h
def putS_y {n:Nam}(h:hasN s.2 n.1=true):putS s n=(s,6):=if_pos h
def lN {n:Nam}(h:¬hasN s.2 n.1=true):putS s n=((s.1+1,insN s.2 n),0):=if_neg h
def gE (h:B4 s.2 p.1=none):Fh s p=(s,5):=by unfold Fh;rw[h]
def gD {t:Tab}(h:B4 s.2 p.1=some t) (he:¬patE t p.2=0):Fh s p=(s,patE t p.2):=by unfold Fh;rw[h];exact if_pos he
def gC {t:Tab}(h:B4 s.2 p.1=some t) (he:patE t p.2=0):Fh s p=((s.1,s.2.set (idxN s.2 p.1) (p.1,patV t p.2)),0):=by unfold Fh;rw[h];exact if_neg (by simpa using he)
def W2 : ∀ (ds:List ByteArray) (s:Tbs),runS Oy s ds=((s.1,(C1 s.2 ds).1),(C1 s.2 ds).2)
 | [],s=>rfl
 | d::ds,s=>by
  rw[runS,C1];by_cases h:hasN s.2 d=true
  .rw[pV h,if_pos h,if_neg (by simp),W2]
  .rw[pW h,if_neg h,if_pos (by simp)]
def Pq : ∀ (ps:List NPt) (s:Tbs),runS Fh s ps=((s.1,(Dg patE patV s.2 ps).1),(Dg patE patV s.2 ps).2)
 | [],s=>rfl
 | p::ps,s=>by
  rw[runS,Dg];cases hk:B4 s.2 p.1 with
  | none=>rw[gE hk,if_pos (by simp)]
  | some t =>
   simp only
   by_cases h:patE t p.2=0
   .rw[gC hk h,if_neg (by simp),if_neg (by simpa using h),Pq]
   .rw[gD hk h,if_pos h,if_pos h]
def oM : ∀ (ns:List Nam) (s:Tbs),∃ v,runS putS s ns=((v,(Fy s.2 ns).1),(Fy s.2 ns).2)
 | [],s=>⟨s.1,rfl⟩
 | n::ns,s=>by
  rw[runS,Fy];by_cases h:hasN s.2 n.1=true
  .rw[putS_y h,if_pos h,if_pos (by simp)];exact⟨s.1,rfl⟩
  .rw[lN h,if_neg h,if_neg (by simp)];exact oM ns (s.1+1,insN s.2 n)
def okTs (s:Tbs):Prop:=okTbs s/\s.2.length<=20
def oX {d:ByteArray}(h:okTs s):okTs (Oy s d).1:=by
 by_cases hh:hasN s.2 d=true
 .rw[pV hh];refine⟨⟨Tm h.1.1 _,λn hn=>h.1.2 n (List.mem_of_mem_eraseIdx hn)⟩,Nat.le_trans ?_ h.2⟩;show (s.2.eraseIdx _).length<=_;rw[List.length_eraseIdx];have:=h.2;split <;> omega
 .rw[pW hh];exact h
def gI {s:Tbs}{p:NPt}(h:okTs s) (hp:gK p):okTs (Fh s p).1:=by
 cases hk:B4 s.2 p.1 with
 | none=>rw[gE hk];exact h
 | some t =>
  by_cases h0:patE t p.2=0
  .rw[gC hk h0]
   have hh:=Ke hk
   have hm:=F4 hk
   refine⟨⟨cQ h.1.1 hh,λn hn=>?_⟩,by show (s.2.set _ _).length<=20;rw[List.length_set];exact h.2⟩
   rcases List.mem_or_eq_of_mem_set hn with hn | rfl
   .exact h.1.2 n hn
   .have hv:patV t p.2=outT t p.2:=if_pos h0
    have ht:=(h.1.2 _ hm).1
    refine⟨⟨ht.1,by show okT (patV t p.2);rw[hv];exact oY ht.2 hp.2⟩,?_⟩
    show Bw (patV t p.2)=0
    unfold patE at h0
    split at h0
    .cases h0
    split at h0
    .cases h0
    rw[hv];exact h0
  .rw[gD hk h0];exact h
def Xn (k:Nat) (s:Tbs):Prop:=risN s.2/\(∀ n∈s.2,Ur n)/\s.2.length<=20+k
def ok_put {n:Nam}(h:Xn k s) (hn:Ur n):Xn (k+1) (putS s n).1:=by
 by_cases hh:hasN s.2 n.1=true
 .rw[putS_y hh];exact⟨h.1,h.2.1,Nat.le_trans h.2.2 om⟩
 .rw[lN hh];refine⟨Vz h.1 (by simpa using hh),λm hm=>?_,by have:=pJ s.2 n;have:=h.2.2;show (insN s.2 n).length<=_;omega⟩;rcases List.mem_append.1 hm with hm | hm
  .exact h.2.1 m (List.mem_of_mem_take hm)
  .rcases List.mem_cons.1 hm with rfl | hm
   .exact hn
   .exact h.2.1 m (List.mem_of_mem_drop hm)
def ok_run {α:Type}{f:Tbs->α->Tbs×Int}{I:Nat->Tbs->Prop}(hI : ∀ i s x,I i s->I (i+1) (f s x).1 ) (hw : ∀ i j s,i<=j->I i s->I j s) : ∀ (l:List α) (i:Nat) (s:Tbs),I i s->I (i+l.length) (runS f s l).1
 | [],i,s,h=>h
 | x::l,i,s,h=>by
  rw[runS];split
  .exact hw (i+1) _ _ (by rw[List.length_cons];omega) (hI i s x h)
  .have:=ok_run hI hw l (i+1) _ (hI i s x h);rwa [show i+(x::l).length=i+1+l.length by rw[List.length_cons];omega]
end
section
open Go.Ab Go.RowKit Civ
attribute [local simp] Cp Ib Lt Dn Oi Gv
section
def Y8 {τ:Operand->AV}{y0:Operand}{a b:AV}(h0:Lf τ y0 [a,b]):Cm τ [(0,2,y0)] [(.sl 0 0 true []),(.sl 0 0 true [])]=some [a,b]:=fl h0 rfl
end
def k44:=Kx 44 [.e [] 13 [false,false,false,false,false]]
def k15:=Kx 15 []
def gJ (u:Upd):Prop:=(∀ n∈u.2.1,Ur n/\n.2.2.length<=3518437208883)/\(∀ p∈u.2.2.1,gK p)/\(∀ l∈u.2.2.2,l.1.size<=maxLen/\l.2.size<=maxLen)/\u.2.1.length<=1954687338211/\u.2.2.2.length<=4398046511104
def Je (r:Rel) (u:Upd):List Nam×Int :=
 if (C1 r.1 u.1).2≠0 then ((C1 r.1 u.1).1,(C1 r.1 u.1).2)
 else if (Dg patE patV (C1 r.1 u.1).1 u.2.2.1).2≠0 then Dg patE patV (C1 r.1 u.1).1 u.2.2.1
 else Fy (Dg patE patV (C1 r.1 u.1).1 u.2.2.1).1 u.2.1
def Wm (h:(Je r u).2≠0):updV r u=(rel0,(Je r u).2):=by
 unfold Je at h ⊢;unfold updV;split at h
 .rename_i h1;rw[if_pos h1,if_pos h1]
 rename_i h1;rw[if_neg h1,if_neg h1];split at h
 .rename_i h2;rw[if_pos h2,if_pos h2]
 rename_i h2;rw[if_neg h2,if_neg h2,if_pos h]
def updV_ok (h:(Je r u).2=0):updV r u=if Cb ((Je r u).1,u.2.2.2)≠0 then (rel0,Cb ((Je r u).1,u.2.2.2)) else (((Je r u).1,u.2.2.2),0):=by
 unfold Je at h ⊢;unfold updV;split at h
 .rename_i h1;exact absurd h h1
 rename_i h1;rw[if_neg h1,if_neg h1];split at h
 .rename_i h2;exact absurd h h2
 rename_i h2;rw[if_neg h2,if_neg h2,if_neg (by simpa using h)]
def drops_a {ds:List ByteArray}{fl:Bool}(hK:h[K]?=some (kE R lw (v,l))) (hR:h[R]?=some (rE (v,l))) (hne:K≠R) (hs:okTs (v,l)) :
  ACalls Tryz.prog 84 [.sl ds.length 1 fl (rows strC ds),.bnd (.func 85) [.ptr K 0 0]] h λx h'=>x=.ret (iv (C1 l ds).2)/\h'=(h.set K (kE R lw (v,(C1 l ds).1))).set R (rE (v,(C1 l ds).1)):=by
 have:=eachS_a (f:=Oy) (I:=λ_ s=>okTs s) (l:=ds) (fl:=fl) hK hR hne hs (λi s hi h1 _=>oX h1) (λi s hi h h1 h2 h3=>drop_a h2 h3 hne h1.1 (by have:=h1.2;omega));rw[W2] at this;exact this
def sR {ps:List NPt}{fl:Bool}(hK:h[K]?=some (kE R lw (v,l))) (hR:h[R]?=some (rE (v,l))) (hne:K≠R) (hs:okTs (v,l)) (hp : ∀ p∈ps,gK p) :
  ACalls Tryz.prog 86 [.sl ps.length 7 fl (rows nptC ps),.bnd (.func 87) [.ptr K 0 0]] h λx h'=>x=.ret (iv (Dg patE patV l ps).2)/\h'=(h.set K (kE R lw (v,(Dg patE patV l ps).1))).set R (rE (v,(Dg patE patV l ps).1)):=by
 have:=eachP_a (f:=Fh) (I:=λ_ s=>okTs s) (l:=ps) (fl:=fl) hK hR hne hs (λi s hi h1 _=>gI h1 (hp _ (List.getElem_mem hi))) (λi s hi h h1 h2 h3=>patch_a h2 h3 hne h1.1 (by have:=h1.2;omega) (hp _ (List.getElem_mem hi)));rw[Pq] at this;exact this
def putsV (v:Nat) (l ns:List Nam):Nat:=(runS putS (v,l) ns).1.1
def run_put' (v:Nat) (l ns:List Nam):runS putS (v,l) ns=((putsV v l ns,(Fy l ns).1),(Fy l ns).2):=by
 obtain⟨w,hw⟩:=oM ns (v,l);unfold putsV;rw[hw]
def puts_a {ns:List Nam}{fl:Bool}(hK:h[K]?=some (kE R lw (v,l))) (hR:h[R]?=some (rE (v,l))) (hne:K≠R) (hs:Xn 0 (v,l)) (hp : ∀ n∈ns,Ur n/\n.2.2.length<=3518437208883) (hz:ns.length<=1954687338211) :
  ACalls Tryz.prog 88 [.sl ns.length 5 fl (rows namC ns),.bnd (.func 89) [.ptr K 0 0]] h λx h'=>x=.ret (iv (Fy l ns).2)/\h'=(h.set K (kE R lw (putsV v l ns,(Fy l ns).1))).set R (rE (putsV v l ns,(Fy l ns).1)):=by
 have:=eachN_a (f:=putS) (I:=λi s=>Xn i s) (l:=ns) (fl:=fl) hK hR hne hs (λi s hi h1 _=>ok_put h1 (hp _ (List.getElem_mem hi)).1) (λi s hi h h1 h2 h3=>put_a h2 h3 hne h1.1 (by have:=h1.2.2;omega) (hp _ (List.getElem_mem hi)).2);rw[run_put'] at this;exact this
def ok_drops (ds:List ByteArray) (h:okTs (v,l)):okTs (v,(C1 l ds).1):=by
 have:=ok_run (f:=Oy) (I:=λ_ s=>okTs s) (λi s x h=>oX h) (λi j s _ h=>h) ds 0 (v,l) h;rw[W2] at this;exact this
def Xl {v:Nat} : ∀ {l:List Nam}(ps:List NPt),okTs (v,l)->(∀ p∈ps,gK p)->okTs (v,(Dg patE patV l ps).1)
 | l,[],h,_=>h
 | l,p::ps,h,hp=>by
  have h1:=gI (p:=p) h (hp p (by simp));have e:=Pq (p::ps) (v,l);rw[runS] at e;have e2:(Dg patE patV l (p::ps)).1=(if (Fh (v,l) p).2≠0 then Fh (v,l) p else runS Fh (Fh (v,l) p).1 ps).1.2:=(congrArg (λx=>x.1.2) e).symm;rw[e2];split
  .exact⟨h1.1,h1.2⟩
  rw[Pq];exact Xl ps ⟨h1.1,h1.2⟩ λq hq=>hp q (by simp[hq])
def oW {v:Nat} : ∀ {l:List Nam}(k:Nat) (ns:List Nam),Xn k (v,l)->(∀ n∈ns,Ur n)->Xn (k+ns.length) (v,(Fy l ns).1)
 | l,k,[],h,_=>h
 | l,k,n::ns,h,hp=>by
  have h1:=ok_put (n:=n) h (hp n (by simp));rw[Fy];by_cases hh:hasN l n.1=true
  .rw[if_pos hh];exact⟨h.1,h.2.1,Nat.le_trans h.2.2 (by rw[List.length_cons];omega)⟩
  rw[if_neg hh];rw[lN hh] at h1;have:=oW (v:=v) (k+1) ns (l:=insN l n) ⟨h1.1,h1.2.1,h1.2.2⟩ λm hm=>hp m (by simp[hm]);rwa [show k+(n::ns).length=k+1+ns.length by rw[List.length_cons];omega]
def okTs_put (h:okTs s):Xn 0 s:=⟨h.1.1,λn hn=>(h.1.2 n hn).1,by have:=h.2;omega⟩
def N6 {e:AV}:Wk (.tup [.agg [.sl 0 0 true [],.sl 0 0 true []],e]) (.tup [.agg (Z5 rel0),e]):=Wk.tup (wkw (Wk.agg (wkw Wk.nilS (wkw Wk.nilS wk0))) (wk1 rfl wk0))
def upd_f (hr:F9 r) (h0:Cb r=0) (hu:gJ u) :
  Ac 44 [.agg (relC r),.agg (updC u)] h (.tup [.agg (Z5 (updV r u).1),iv (updV r u).2]):=by
 obtain⟨a1,a2,a3,a4,a5,a6⟩:=E9 h0;obtain⟨u1,u2,u3,u4,u5⟩:=hu;refine tW' k44 λN hn hlt _ hbd=>?_;simp only[tb'] at hbd ⊢;refine wr'<|E' (Bq cv rfl hl0 ha0) pt<|E' (Bq cv rfl hl1 ha1) pt<|E' (Bz hl2 ha2) pt<|ms<|wr'<|fq<|Vw (Aa lk gx gt3)<|Af mp (gY u5) pt<|Vw (Bb (J3 cw))<|?_;refine Vw (Bb (Y8 cw))<|E' (Bq cv rfl hl3 ha3) pt<|mw<|Am<|?_;refine B0 (ALe.own0Cell (st':=5) (ty:=76) gx gt0 hl4 pt0 (Eq.trans (congrArg (λz=>List.set z _ _) ha4) hs3)) ?_;refine Ab<|wr'<|fq<|Vw (Aa lk gx gt0)<|Vw (Bf lk)<|ms<|Ah<|?_;refine w_lp (ι:=Nat×Nat) (λ⟨i,v⟩=>[(19,iv (i:Int)),(8,.any)]++rn' 20 21) (λ⟨i,v⟩=>[(3,.mk 0 137 2 [.own (N+4) v (r.1.take i).length,.fs u.2.2.2.length 2 (rows lnkC u.2.2.2)]),(4,.mk v 76 5 (rows Eu (r.1.take i)))]) (λ⟨i,v⟩=>i<=r.1.length) (λ⟨i,v⟩=>r.1.length-i) (⟨0,0⟩) (by exact Nat.zero_le _) ?_;rintro⟨i,v⟩ hi1;try simp only[sm',Nat.reduceAdd]
 replace hi1:i<=r.1.length:=hi1;have htl:(r.1.take i).length<=20:=by rw[List.length_take];omega
 refine wr'<|Vw (Bm lk lk)<|sn'<|Ab<|?_;refine cd' lk (λhc1=>?_) (λhc1=>?_)
 .have hi:i<r.1.length:=by omega
  have hst:=List.take_succ_eq_append_getElem hi;have hlu:=D7 (a3 _ (List.getElem_mem hi)).2;refine za<|Ab<|Ah<|wr'<|?_;refine V' (Bh lk lk B8 nb ro om ro rfl) pt ?_;refine Vw (Ax lk Dv rfl)<|E' (Bz hl5 ha5) pt<|E' (Ai lk cv gx rfl nb rfl Li hs5) ptn<|sn'<|Bl<|Dw vm<|Dw vm<|Dw (Cr lk)<|dg<|dg<|Dw (Aa lk gx gt0)<|dg<|Dw (Aa lk gx gt0)<|?_;refine dg<|Dw (Ak lk gx Ig rfl)<|?_;refine Br mp (λhE hX=>cP om) pt ?_;refine Dw (Bb (H6 cw cw))<|D5 rfl rfl (hlk hn rfl) (G8 (Dk cw)) pt B2<|Bi<|?_;refine Eg Nw ?_;refine E' (C6 (C0 lk gx rfl Dv nb) lk gx (Gm _) om rfl hs4) pt ?_;refine Vw (Cr lk)<|fq<|fq<|E' (Ai lk cv gx rfl nb rfl Ct hs3) ptn<|Am<|Aw<|An<|Aq<|?_;refine ad<|mw<|Am<|Az<|?_;refine lU' (⟨i+1,v+1⟩) (by (try dsimp only);omega) (by refine zz ?_;exact bk' 5 hn hlt (by rw[hst,List.length_append,Bt];rfl) (hT:=by simp[AV.lt,AV.ltL,Ent.lt]) (hE:=by simp[AV.lt,AV.ltL,Ent.lt]))
 rw[List.take_of_length_le (show r.1.length<=i by omega)] at *;have hT0:okTs (v,r.1):=⟨⟨a4,λn hn=>⟨hr.1 n hn,(a3 n hn).2⟩⟩,a1⟩;refine Bd<|As<|As<|Bp<|An<|wr'<|fq<|Vw (Aa lk gx gt0)<|mw<|Vw (kU mp)<|?_;refine Hh mp (drops_a (v:=v) (l:=r.1) (ds:=u.1) (K:=N+3) (R:=N+4) (lw:=.fs u.2.2.2.length 2 (rows lnkC u.2.2.2)) gx gx om hT0) hs3 hs4 pt ?_;refine ms<|Ab<|wm<|Vw (Cy lk lki)<|sn'<|?_;refine cd' lk (λhc2=>?_) (λhc2=>?_)
 .have hd0:(C1 r.1 u.1).2=0:=hc2;have hT1:=ok_drops u.1 hT0;refine Aq<|fq<|Vw (Aa lk gx gt2)<|mw<|Vw (kU mp)<|?_;refine Hh mp (sR (v:=v) (l:=(C1 r.1 u.1).1) (ps:=u.2.2.1) (K:=N+3) (R:=N+4) (lw:=.fs u.2.2.2.length 2 (rows lnkC u.2.2.2)) gx gx om hT1 u2) hs3 hs4 pt ?_;refine ms<|Ab<|wm<|Vw (Cy lk lki)<|sn'<|?_;refine cd' lk (λhc3=>?_) (λhc3=>?_)
  .have hp0:(Dg patE patV (C1 r.1 u.1).1 u.2.2.1).2=0:=hc3;have hT2:=okTs_put (Xl u.2.2.1 hT1 u2);have hV:Je r u=Fy (Dg patE patV (C1 r.1 u.1).1 u.2.2.1).1 u.2.1:=by unfold Je;rw[if_neg (by simpa using hd0),if_neg (by simpa using hp0)]
   refine Aq<|fq<|Vw (Aa lk gx gt1)<|mw<|Vw (kU mp)<|?_;refine Hh mp (puts_a (v:=v) (l:=(Dg patE patV (C1 r.1 u.1).1 u.2.2.1).1) (ns:=u.2.1) (K:=N+3) (R:=N+4) (lw:=.fs u.2.2.2.length 2 (rows lnkC u.2.2.2)) gx gx om hT2 u1 u4) hs3 hs4 pt ?_;refine ms<|Ab<|wm<|Vw (Cy lk lki)<|sn'<|?_;refine cd' lk (λhc4=>?_) (λhc4=>?_)
   .have hu0:(Fy (Dg patE patV (C1 r.1 u.1).1 u.2.2.1).1 u.2.1).2=0:=hc4;have hE:=updV_ok (r:=r) (u:=u) (by rw[hV];exact hu0);rw[hV] at hE;have hT3:=oW 0 u.2.1 hT2 (λn hn=>(u1 n hn).1);have hok:F9 ((Fy (Dg patE patV (C1 r.1 u.1).1 u.2.2.1).1 u.2.1).1,u.2.2.2):=⟨hT3.2.1,u3⟩;refine Aq<|mw<|Vw (Cr lk)<|fq<|Vw (Ak lk gx B1 rfl)<|Af mp (rchk_o gx hok) pt<|ms<|Ab<|wm<|Vw (Ca lk lki)<|?_;refine sn' ?_;refine cd' lk (λhc5=>?_) (λhc5=>?_)
    .rw[if_pos hc5] at hE;refine wr'<|Vw (Bb E4)<|mw<|E' (Ai lk cv gx rfl nb rfl Cc hs2) ptn<|mr<|Ag<|Ad (rsn (rm1 (rr_c gt gx (ld1 B1 rfl)) (rm1 (rr_t gt) rm0)))<|rtW'<|?_;rw[hE];exact N6
    rw[if_neg hc5] at hE;refine Be ?_;refine B0 (ALe.iceCellRF (hga hn rfl) (hga hn rfl) om gt0 (List.take_of_length_le (by rw[Gm];exact Nat.le_refl _)) (by rw[Gm];exact Nat.le_refl _) rfl pt0 hs4 hs3) ?_;refine wm<|Vw (Cr lk)<|fq<|Vw (Ak lk gx B1 rfl)<|E' (Ai lk cv gx rfl nb rfl Cc hs2) ptn<|mr<|Ad (rsn (rm1 (rr_c gt gx (ld1 B1 rfl)) (rm1 (rr_t gt) rm0)))<|rtW'<|?_;rw[hE];exact Wk.refl _
   have hE:=Wm (r:=r) (u:=u) (by rw[hV];exact hc4);rw[hV] at hE;refine za<|Ab<|wm<|Vw (Ca lk lki)<|sn'<|?_;refine Iu lk (by exact decide_eq_true hc4) ?_;refine wr'<|Vw (Bb E4)<|mw<|E' (Ai lk cv gx rfl nb rfl Cc hs2) ptn<|mr<|Ag<|Ad (rsn (rm1 (rr_c gt gx (ld1 B1 rfl)) (rm1 (rr_t gt) rm0)))<|rtW'<|?_;rw[hE];exact N6
  have hV:Je r u=Dg patE patV (C1 r.1 u.1).1 u.2.2.1:=by unfold Je;rw[if_neg (by simpa using hd0),if_pos hc3]
  have hE:=Wm (r:=r) (u:=u) (by rw[hV];exact hc3);rw[hV] at hE;refine za<|Ab<|wm<|Vw (Cy lk lki)<|sn'<|?_;refine F2 lk (by exact decide_eq_false hc3) ?_;refine za<|Ab<|wm<|Vw (Ca lk lki)<|sn'<|?_;refine Iu lk (by exact decide_eq_true hc3) ?_;refine wr'<|Vw (Bb E4)<|mw<|E' (Ai lk cv gx rfl nb rfl Cc hs2) ptn<|mr<|Ag<|Ad (rsn (rm1 (rr_c gt gx (ld1 B1 rfl)) (rm1 (rr_t gt) rm0)))<|rtW'<|?_;rw[hE];exact N6
 have hV:Je r u=((C1 r.1 u.1).1,(C1 r.1 u.1).2):=if_pos hc2;have hE:=Wm (r:=r) (u:=u) (by rw[hV];exact hc2);rw[hV] at hE;refine za<|Ab<|wm<|Vw (Cy lk lki)<|sn'<|?_;refine F2 lk (by exact decide_eq_false hc2) ?_;refine za<|Ab<|wm<|Vw (Cy lk lki)<|sn'<|?_;refine F2 lk (by exact decide_eq_false hc2) ?_;refine za<|Ab<|wm<|Vw (Ca lk lki)<|sn'<|?_;refine Iu lk (by exact decide_eq_true hc2) ?_;refine wr'<|Vw (Bb E4)<|mw<|E' (Ai lk cv gx rfl nb rfl Cc hs2) ptn<|mr<|Ag<|Ad (rsn (rm1 (rr_c gt gx (ld1 B1 rfl)) (rm1 (rr_t gt) rm0)))<|rtW'<|?_;rw[hE];exact N6
def wk_relFi {e:AV}:Wk (.tup [.agg (Z5 r),e]) (.tup [.agg (relC r),e]):=Wk.tup (wkw wk_relFr (wk1 rfl wk0))
def kG (hr:F9 r) (hu:gJ u) :
  Ac 15 [.agg (relC r),.agg (updC u)] h (.tup [.agg (Z5 (Rh r u).1),iv (Rh r u).2]):=by
 refine tW' k15 λN hn _ _ hbd=>?_;simp only[tb'] at hbd ⊢;refine wr'<|E' (Bq cv rfl hl0 ha0) pt<|E' (Bq cv rfl hl1 ha1) pt<|E' (Bz hl2 ha2) pt<|ms<|Ab<|wr'<|Vw (Ak lk gx B1 rfl)<|Af mp (Xg (t:=r.1) (k:=r.2) hr) pt<|mw<|?_;refine sn'<|wm<|Vw (Ca lk lki)<|sn'<|?_;refine cd' lk (λhc1=>?_) (λhc1=>?_)
 .have hE:Rh r u=(rel0,Cb r):=if_pos hc1;refine wr'<|Vw (Bb E4)<|mw<|E' (Ai lk cv gx rfl nb rfl Cc hs2) ptn<|mr<|Ag<|Ad (rsn (rm1 (rr_c gt gx (ld1 B1 rfl)) (rm1 (rr_t gt) rm0)))<|rtW'<|?_;rw[hE];exact N6
 have h0:Cb r=0:=Decidable.of_not_not hc1;have hE:Rh r u=updV r u:=if_neg hc1;refine za<|wr'<|Vw (Ak lk gx B1 rfl)<|Vw (Ak lk gx Av rfl)<|Af mp (upd_f hr h0 hu) pt<|Vw (B7 lk gt)<|Vw (B7 lk gt)<|E' (Ai lk cv gx rfl nb rfl Cc hs2) ptn<|mr<|?_;refine Ad (rsn (rm1 (rr_c gt gx (ld1 B1 rfl)) (rm1 (rr_t gt) rm0)))<|rtW'<|?_;rw[hE];exact Wk.refl _
def apply_r (hr:F9 r) (hu:gJ u) :
  Ac 15 [.agg (relC r),.agg (updC u)] h (.tup [.agg (relC (Rh r u).1),iv (Rh r u).2]):=(kG hr hu).wkR wk_relFi
def Xu {s:ByteArray}(h:D3 s=true):s.size<=maxLen:=by
 unfold D3 at h;simp only[Bool.and_eq_true,decide_eq_true_eq] at h;have:=h.1.1.2;simp only[maxLen];omega
def aD (h:Cb r=0):F9 r:=by
 obtain⟨_,_,a3,_,a5,_⟩:=E9 h;refine⟨λn hn=>⟨Xu (a3 n hn).1,Xm (a3 n hn).2⟩,λl hl=>⟨?_,Xu (a5 l hl).1⟩⟩;have:=Ht.1 (a5 l hl).2.2;obtain⟨n,hn,e⟩:=List.mem_map.1 this;rw[<-e];exact Xu (a3 n hn).1
def oZ {t u:Tab}(h:okT u):okP (D9 t u):=⟨h.1,λx hx=>h.2 x (List.mem_of_mem_take (List.mem_of_mem_drop hx))⟩
def aC {s:Rel}(hr:Cb r=0) (hs:Cb s=0):gJ (betU r s):=by
 obtain⟨a1,a2,a3,a4,a5,a6⟩:=E9 hr;obtain⟨b1,b2,b3,b4,b5,b6⟩:=E9 hs;have kr:=aD hr;have ks:=aD hs;refine⟨λn hn=>?_,λp hp=>?_,ks.2,?_,?_⟩
 .have hm:n∈s.1:=(List.mem_filter.1 hn).1;exact⟨ks.1 n hm,by have:=D7 (b3 n hm).2;omega⟩
 .obtain⟨n,hn,he⟩:=Tb.1 hp;obtain⟨e1,t,h1,_,e2⟩:=M8 he;have k2:=ks.1 n hn;refine⟨by rw[e1];exact k2.1,?_⟩;rw[e2];exact oZ k2.2
 .have:=Yu r.1 s.1;show (betP r.1 s.1).length<=_;omega
 show s.2.length<=_;omega
end
section
open Go.Ab Go.RowKit Civ
def nNew:ByteArray:=bA [78,101,119]
def mzc0 :Ac 58 [.agg (srcC src0)] h (iv 0):=by
 have:=eU (a:=src0.1) (z:=src0.2.1) (k:=src0.2.2) (h:=h) Ru;rw[show Dh (src0.1,src0.2.1,src0.2.2)=0 from chk0] at this;exact this
def to0 :Ac 66 [.agg (srcC src0),.agg [sv nHt,.sl 2 10 false (rows eraC [era0,era1])]] h (.tup [tabA tab0,iv 0]):=by
 have:=tofV_a (a:=src0.1) (z:=src0.2.1) (k:=src0.2.2) (x:=(nHt,[era0,era1])) (h:=h) Ru chk0 (by simp[src0]);rw[show ofV (src0.1,src0.2.1,src0.2.2) (nHt,[era0,era1])=(tab0,0) from of0] at this;exact this
def mk_ev:evF Tryz.prog (orcs (orc 58 [.agg (srcC src0)] (iv 0)) (orc 66 [.agg (srcC src0),.agg [sv nHt,.sl 2 10 false (rows eraC [era0,era1])]] (.tup [tabA tab0,iv 0]))) 1000 20 26 [.agg (srcC src0)] []=some (.ret (.tup [.agg (relC rel1),iv 0]),[]):=by kernel_rfl
def mk1 :Ac 26 [.agg (srcC src0)] h (.tup [.agg (relC rel1),iv 0]) :=
 ACalls.ev 1000 20 (Fc (Ek λh=>mzc0) (Ek λh=>to0)) mk_ev (hl:=by kernel_rfl) (hc:=by kernel_rfl)
def rmk1 :Ac 70 [.agg (srcC src0)] h (.tup [.agg (relC rel1),iv 0]):=by
 have:=rmake_g (a:=src0.1) (z:=src0.2.1) (k:=src0.2.2) (h:=h) Ru rcrl0 λh=>by
  rw[show Dh (src0.1,src0.2.1,src0.2.2)=0 from chk0];exact rchkZ0
 rw[show (src0.1,src0.2.1,src0.2.2)=src0 from rfl,make0] at this;exact this
def dif1 :Ac 13 [.agg [.sl 0 0 true [],.sl 0 0 true []],.agg (relC rel1)] h (.tup [.agg (updC upd1),iv 0]):=by
 have:=diffR_a (r:=rel0) (s:=rel1) (h:=h) ⟨λ_ h=>(by cases h),λ_ h=>(by cases h)⟩ V4;rw[diff0] at this;exact ACalls.wk (wkw (Wk.agg (wkw Wk.nilF (wkw Wk.nilF wk0))) (wk1 rfl wk0)) this
def app2 :Ac 15 [.agg [.sl 0 0 true [],.sl 0 0 true []],.agg (updC upd1)] h (.tup [.agg (relC rel1),iv 0]):=by
 have h0:Cb rel0=0:=rfl;have e:betU rel0 rel1=upd1:=rfl;have:=apply_r (r:=rel0) (u:=upd1) (h:=h) ⟨λ_ h=>(by cases h),λ_ h=>(by cases h)⟩ (e ▸ aC h0 bG);rw[show Rh rel0 upd1=(rel1,0) from (if_neg (by rw[h0];simp)).trans (e ▸ leadR h0 bG)] at this;exact ACalls.wk (wkw (Wk.agg (wkw Wk.nilF (wkw Wk.nilF wk0))) (wk1 rfl wk0)) this
def findR1:Hu rel1 nOld=(tab0,0):=by
 rw[Hu,if_neg (by rw[bG];simp)];rfl
def findR2:Hu rel1 nNew=(Ga,5):=by
 rw[Hu,if_neg (by rw[bG];simp)];rfl
def fnd1 :Ac 16 [.agg (relC rel1),sv nOld] h (.tup [tabA tab0,iv 0]):=by
 have:=pP (t:=rel1.1) (k:=rel1.2) (nm:=nOld) (h:=h) V4 (by decide);rw[show (rel1.1,rel1.2)=rel1 from rfl,findR1] at this;exact this
def fnd2 :Ac 16 [.agg (relC rel1),sv nNew] h (.tup [tabA Ga,iv 5]):=by
 have:=pP (t:=rel1.1) (k:=rel1.2) (nm:=nNew) (h:=h) V4 (by decide);rw[show (rel1.1,rel1.2)=rel1 from rfl,findR2] at this;exact this
def same1 :Ac 22 [.agg (relC rel1),.agg (relC rel1)] h (bv true):=by
 have:=W5 (t:=rel1.1) (u:=rel1.1) (k:=rel1.2) (m:=rel1.2) (f1:=false) (f2:=false) (f3:=false) (f4:=false) (h:=h);rw[decide_eq_true rfl] at this;exact this
def stab1 :Ac 23 [tabA tab0,tabA tab0] h (bv true):=by
 have:=Ry (t:=tab0) (u:=tab0) (f1:=false) (f2:=false) (h:=h);rw[decide_eq_true rfl] at this;exact this
def lK :Ac 4 [] h (bv true) :=
 ACalls.ev 1000 20 (Fc (Ek λh=>gG) (Fc (Ek λh=>mk1) (Fc (Ek λh=>rmk1) (Fc (Ek λh=>dif1) (Fc (Ek λh=>app2) (Fc (Ek λh=>fnd1) (Fc (Ek λh=>fnd2) (Fc (Ek λh=>rchk1) (Fc (Ek λh=>same1) (Ek λh=>stab1)))))))))) (by kernel_rfl)
end
section
open Go.Ab Civ
attribute [local simp] Cp
section
def Y9 {τ:Operand->AV}{y0:Operand}{a b c:AV}(h0:Lf τ y0 [a,b,c]):Cm τ [(0,3,y0)] [(iv 0),(iv 0),(.v (.string ⟨#[]⟩)),(iv 0),(iv 0),(.sl 0 0 true [])]=some [a,b,c,(iv 0),(iv 0),(.sl 0 0 true [])]:=fl h0 rfl
end
def k43:=Kx 43 []
def c40:AC:=(Sr [Oo 2 (.box 30 4 (t 0)),Oo 3 (.box 30 4 (t 1)),Oo 4 (.new 49 6 [(iv 0),(iv 0),Ss,(iv 0),(iv 0),nl])] (Sd [Fa 9 3 2,Ld 10 9,Oo 11 (.len false (t 10)),Fa 12 3 3,Ld 13 12,Oo 14 (.len false (t 13)),Mv 5 11,Mv 6 14] (Sr [Fa 15 0 3,Oo 16 (.load true 3 (t 15)),Oo 17 (.build [(iv 0),(iv 0),Ss,(iv 0),(iv 0),nl] [(0,(3,(t 16)))]),Oo 7 (.new 49 6 [(iv 0),(iv 0),Ss,(iv 0),(iv 0),nl]),⟨none,none,(.store 6 (t 7) (t 17))⟩] (.seq (.block 0 (.loop (.seq (Sd [Fa 18 3 7,Ld 19 18,Mv 20 5,Bn 21 .lss 19 20,Mv 22 21,Ot 23 22 (.fa 3 (t 7)),Ot 24 22 (.load false 1 (t 23)),Ot 25 22 (mt 6),Ot 26 22 (.bin .lss (t 24) (t 25)),Oo 27 (.pick (t 22) (t 26) (.const (.bool false))),Mv 28 27,Ot 29 28 (.fa 3 (t 2)),Ot 30 28 (.load false 1 (t 29)),Ot 31 28 (.fa 3 (t 7)),Ot 32 28 (.load false 1 (t 31)),Ot 33 28 (.ia 4 (t 30) (t 32)),Ot 34 28 (.load true 4 (t 33)),Ot 35 28 (.fa 3 (t 3)),Ot 36 28 (.load false 1 (t 35)),Ot 37 28 (.fa 3 (t 7)),Ot 38 28 (.load false 1 (t 37)),Ot 39 28 (.ia 4 (t 36) (t 38)),Ot 40 28 (.load true 4 (t 39)),Ot 41 28 (.eqs false [.int,.int,.int,.str] (t 34) (t 40)),Oo 42 (.pick (t 28) (t 41) (.const (.bool false)))] (Cd 42 .skip (.exit 0))) (.block 1 (.reg [Fa 43 3 7,Ld 44 43,Bc 45 .add 44 1,Fa 46 3 7,Sc 46 45]))))) (.seq (.block 2 (.loop (.seq (Sd [Fa 47 3 7,Ld 48 47,Fa 49 4 7,Ld 50 49,Bn 51 .add 48 50,Mv 52 5,Bn 53 .lss 51 52,Mv 54 53,Ot 55 54 (.fa 3 (t 7)),Ot 56 54 (.load false 1 (t 55)),Ot 57 54 (.fa 4 (t 7)),Ot 58 54 (.load false 1 (t 57)),Ot 59 54 (.bin .add (t 56) (t 58)),Ot 60 54 (mt 6),Ot 61 54 (.bin .lss (t 59) (t 60)),Oo 62 (.pick (t 54) (t 61) (.const (.bool false))),Mv 63 62,Ot 64 63 (.fa 3 (t 2)),Ot 65 63 (.load false 1 (t 64)),Ot 66 63 (mt 5),Ot 67 63 (.bin .sub (t 66) (Ci 1)),Ot 68 63 (.fa 4 (t 7)),Ot 69 63 (.load false 1 (t 68)),Ot 70 63 (.bin .sub (t 67) (t 69)),Ot 71 63 (.ia 4 (t 65) (t 70)),Ot 72 63 (.load true 4 (t 71)),Ot 73 63 (.fa 3 (t 3)),Ot 74 63 (.load false 1 (t 73)),Ot 75 63 (mt 6),Ot 76 63 (.bin .sub (t 75) (Ci 1)),Ot 77 63 (.fa 4 (t 7)),Ot 78 63 (.load false 1 (t 77)),Ot 79 63 (.bin .sub (t 76) (t 78)),Ot 80 63 (.ia 4 (t 74) (t 79)),Ot 81 63 (.load true 4 (t 80)),Ot 82 63 (.eqs false [.int,.int,.int,.str] (t 72) (t 81)),Oo 83 (.pick (t 63) (t 82) (.const (.bool false)))] (Cd 83 .skip (.exit 2))) (.block 3 (.reg [Fa 84 4 7,Ld 85 84,Bc 86 .add 85 1,Fa 87 4 7,Sc 87 86]))))) (.seq (Sr [Fa 88 3 7,Ld 89 88,Mv 8 89] (.block 4 (.loop (.seq (Sr [Mv 90 8,Mv 91 6,Fa 92 4 7,Ld 93 92,Bn 94 .sub 91 93,Bn 95 .lss 90 94] (Cd 95 .skip (.exit 4))) (.seq (.block 5 (.drw [Fa 98 5 7,Ld 99 98,Fa 100 3 3,Ld 101 100,Mv 102 8,Oo 103 (.ia 4 (t 101) (t 102)),Oo 104 (.load true 4 (t 103)),Oo 105 (.lit 86 4 1 [(iv 0),(iv 0),(iv 0),Ss] [(0,(4,(t 104)))])] [false,false,false] [Oo 106 (.app 86 4 40 (t 99) (t 105)),Fa 107 5 7,Sc 107 106])) (.reg [Mv 96 8,Bc 97 .add 96 1,Mv 8 97])))))) (Sr [Oo 108 (.load true 6 (t 7)),⟨none,none,(.store 6 (t 4) (t 108))⟩] .ret)))))))
def k40:Em Tryz.prog 40=some ⟨c40,[(.cell 4 true 6)],109⟩:=by kernel_rfl
def sameP_a {p q:Pat}{f1 f2:Bool} :
  Ac 43 [.agg [iv p.1.1,iv p.1.2.1,sv p.1.2.2,iv p.2.1,iv p.2.2.1,.sl p.2.2.2.length 4 f1 (rows chgC p.2.2.2)],.agg [iv q.1.1,iv q.1.2.1,sv q.1.2.2,iv q.2.1,iv q.2.2.1,.sl q.2.2.2.length 4 f2 (rows chgC q.2.2.2)]] h (bv (decide (p=q))):=by
 refine tI' k43 λN hn _ _ hbd=>?_;simp only[tb'] at hbd ⊢;refine wr'<|E' (Bq cv rfl hl0 ha0) pt<|E' (Bq cv rfl hl1 ha1) pt<|ms<|wr'<|fq<|Vw (Aa lk gx gt3)<|fq<|Vw (Aa lk gx gt3)<|Vw (Cy lk lk)<|?_;refine mv' lk pt ?_;refine sp' (t:=10) gt pt pt (λhg10=>?_) (λhg10=>?_)
 .refine sd<|fq<|sd<|Vw (Aa lk gx gt4)<|sd<|fq<|sd<|Vw (Aa lk gx gt4)<|sd<|Vw (Cy lk lk)<|Vw (Ar lk lk)<|mw<|?_;refine sp' (t:=17) gt pt pt (λhg17=>?_) (λhg17=>?_)
  .refine sd<|fq<|sd<|Vw (Ak lk gx Ap rfl)<|sd<|fq<|sd<|Vw (Aa lk gx gt5)<|sd<|Vw (Bb (Ef cw cw))<|sd<|fq<|sd<|Vw (Ak lk gx Ap rfl)<|?_;refine sd<|fq<|sd<|Vw (Aa lk gx gt5)<|sd<|Vw (Bb (Ef cw cw))<|sd<|Af mp (Ry (t:=(p.1,p.2.2.2)) (u:=(q.1,q.2.2.2))) pt<|Vw (Ar lk lk)<|mr<|Ad rz<|?_;refine rT' ?_;refine bvx ?_;obtain⟨p1,p2,p3,p4⟩:=p;obtain⟨q1,q2,q3,q4⟩:=q;simp only at hg10 hg17;subst hg10 hg17;simp
  refine so<|so<|so<|so<|so<|so<|so<|so<|so<|so<|so<|Vw (Ao lk lkb)<|mw<|Am<|?_;refine An<|C4<|Ad rz<|rT'<|?_;exact bvx (decide_eq_false (λe=>hg17 (by rw[e]))).symm
 refine so<|so<|so<|so<|so<|Vw (Ao lk lkb)<|mw<|so<|so<|so<|so<|so<|so<|so<|?_;refine so<|so<|so<|so<|Vw (Ao lk lkb)<|mr<|Ad rz<|rT'<|?_;exact bvx (decide_eq_false (λe=>hg10 (by rw[e]))).symm
def Og {l:List Chg}{d:Nat}(h:d+k<l.length):(l.drop d).reverse[k]'(by simp;omega)=l[l.length-1-k]:=by
 rw[List.getElem_reverse,List.getElem_drop];congr 1;simp only[List.length_drop];omega
def diffOf_a {t u:Tab}{f1 f2:Bool}(h1:t.2.length<=1000) (h2:u.2.length<=1000) :
  Ac 40 [.agg [iv t.1.1,iv t.1.2.1,sv t.1.2.2,.sl t.2.length 4 f1 (rows chgC t.2)],.agg [iv u.1.1,iv u.1.2.1,sv u.1.2.2,.sl u.2.length 4 f2 (rows chgC u.2)]] h (patA (D9 t u)):=by
 have hh:=hd_le t u;have ht:=tl_le t u;refine tI' k40 λN hn hlt _ hbd=>?_;simp only[tb'] at hbd ⊢;refine wr'<|E' (Bq cv rfl hl0 ha0) pt<|E' (Bq cv rfl hl1 ha1) pt<|E' (Bz hl2 ha2) pt<|sn'<|Ab<|Bl<|dg<|Dw (Aa lk gx gt3)<|Dw (Bf lk)<|dg<|Dw (Aa lk gx gt3)<|?_;refine Dw (Bf lk)<|Dw vm<|Dw vm<|Bi<|?_;refine B9 ?_;refine sn'<|wr'<|fq<|Vw (Ak lk gx Ap rfl)<|Vw (Bb (Y9 cw))<|E' (Bz hl3 ha3) pt<|E' (Ai lk cv gx rfl nb rfl Hc hs3) ptn<|sn'<|?_;refine L9 (ι:=Unit) (λ(x:Unit)=>[]++rn' 18 29) (λ(x:Unit)=>[(3,.mk 0 49 6 [iv u.1.1,iv u.1.2.1,sv u.1.2.2,iv (hdOf t u:Int),iv 0,.sl 0 0 true []])]) (λ(x:Unit)=>True) ?_ ?_
 .try simp only[sm',Nat.reduceAdd]
  refine Ah ?_;refine w_lp (ι:=Nat) (λ(k:Nat)=>[]++rn' 18 29) (λ(k:Nat)=>[(3,.mk 0 49 6 [iv u.1.1,iv u.1.2.1,sv u.1.2.2,iv (k:Int),iv 0,.sl 0 0 true []])]) (λ(k:Nat)=>k<=t.2.length/\k<=u.2.length/\hdOf t u=k+com (t.2.drop k) (u.2.drop k)) (λ(k:Nat)=>t.2.length-k) (0) (by exact⟨Nat.zero_le _,Nat.zero_le _,by simp[hdOf]⟩) ?_;rintro k hi1;try simp only[sm',Nat.reduceAdd]
  obtain⟨hk1,hk2,hkc⟩:=hi1;refine Ab<|Ab<|Bl<|dg<|Dw (Aa lk gx gt3)<|Dw vm<|Dw (Bm lk lk)<|Dw vm<|?_;refine dq' (t:=22) gt pt pt (λhg22=>?_) (λhg22=>?_)
  .refine dO<|dg<|dO<|Dw (Aa lk gx gt3)<|dO<|Dw vm<|dO<|Dw (Bm lk lk)<|Dw (Ar lk lk)<|Dw vm<|?_;refine dq' (t:=28) gt pt pt (λhg28=>?_) (λhg28=>?_)
   .refine dO<|dg<|dO<|Dw (Aa lk gx gt3)<|dO<|dg<|dO<|Dw (Aa lk gx gt3)<|dO<|?_;refine D' (Bh lk lk Cg nb ro om ro rfl) pt ?_;refine dO<|Dw (Ax lk Bv rfl)<|dO<|dg<|dO<|Dw (Aa lk gx gt3)<|dO<|dg<|dO<|Dw (Aa lk gx gt3)<|dO<|?_;refine D' (Bh lk lk Cg nb ro om ro rfl) pt ?_;refine dO<|Dw (Ax lk Bv rfl)<|dO<|Dw (Nc lk lk Hz)<|Dw (Ar lk lk)<|Bi<|?_;refine B9 ?_;refine sn' ?_;refine cd' lk (λhc1=>?_) (λhc1=>?_)
    .refine za<|Ah<|Aq<|fq<|Vw (Aa lk gx gt3)<|?_;refine ad<|fq<|E' (Ai lk cv gx rfl nb rfl If hs3) ptn<|Am<|Aw<|Az<|?_;refine lT' (k+1) (by (try dsimp only);exact⟨by omega,by omega,by rw[hkc,Yo om om (Sz hc1)];omega⟩)
    refine Bd<|As<|As<|Bp<|Az<|?_;have hk0:hdOf t u=k:=by first | (rw[hkc,Kf om];simp;done) | (rw[hkc,I9 om om (λe=>hc1 (by rw[e];simp))];simp;done)
    exact cT' (()) (by trivial) (by refine zz ?_;exact ALe.same wA' (by rw[hk0]))
   refine dn<|dn<|dn<|dn<|dn<|dn<|dn<|dn<|dn<|dn<|dn<|dn<|dn<|Dw (Ao lk lkb)<|?_;refine Bi ?_;refine B9 ?_;refine sn'<|Cf lk<|Bd<|As<|As<|Bp<|Az<|?_;have hk0:hdOf t u=k:=by first | (rw[hkc,Kf om];simp;done) | (rw[hkc,I9 om om (λe=>hc1 (by rw[e];simp))];simp;done)
   exact cT' (()) (by trivial) (by refine zz ?_;exact ALe.same wA' (by rw[hk0]))
  refine dn<|dn<|dn<|dn<|Dw (Ao lk lkb)<|Dw vm<|dn<|dn<|dn<|dn<|dn<|dn<|dn<|dn<|?_;refine dn<|dn<|dn<|dn<|dn<|Dw (Ao lk lkb)<|Bi<|?_;refine B9 ?_;refine sn'<|Cf lk<|Bd<|As<|As<|Bp<|Az<|?_;have hk0:hdOf t u=k:=by first | (rw[hkc,Kf om];simp;done) | (rw[hkc,I9 om om (λe=>hc1 (by rw[e];simp))];simp;done)
  exact cT' (()) (by trivial) (by refine zz ?_;exact ALe.same wA' (by rw[hk0]))
 rintro x hq6;try simp only[sm',Nat.reduceAdd]
 refine L9 (ι:=Unit) (λ(x:Unit)=>[]++rn' 47 41) (λ(x:Unit)=>[(3,.mk 0 49 6 [iv u.1.1,iv u.1.2.1,sv u.1.2.2,iv (hdOf t u:Int),iv (tlOf t u:Int),.sl 0 0 true []])]) (λ(x:Unit)=>True) ?_ ?_
 .try simp only[sm',Nat.reduceAdd]
  refine Ah ?_;refine w_lp (ι:=Nat) (λ(j:Nat)=>[]++rn' 47 41) (λ(j:Nat)=>[(3,.mk 0 49 6 [iv u.1.1,iv u.1.2.1,sv u.1.2.2,iv (hdOf t u:Int),iv (j:Int),.sl 0 0 true []])]) (λ(j:Nat)=>hdOf t u+j<=t.2.length/\hdOf t u+j<=u.2.length/\tlOf t u=j+com ((t.2.drop (hdOf t u)).reverse.drop j) ((u.2.drop (hdOf t u)).reverse.drop j)) (λ(j:Nat)=>t.2.length-j) (0) (by exact⟨by omega,by omega,by simp[tlOf]⟩) ?_;rintro j hi2;try simp only[sm',Nat.reduceAdd]
  obtain⟨hj1,hj2,hjc⟩:=hi2;refine Ab<|Ab<|Bl<|dg<|Dw (Aa lk gx gt3)<|dg<|Dw (Aa lk gx gt4)<|?_;refine D' (Du lk lk om om) pt ?_;refine Dw vm<|Dw (Bm lk lk)<|Dw vm<|?_;refine dq' (t:=54) gt pt pt (λhg54=>?_) (λhg54=>?_)
  .refine dO<|dg<|dO<|Dw (Aa lk gx gt3)<|dO<|dg<|dO<|Dw (Aa lk gx gt4)<|dO<|?_;refine D' (Du lk lk om om) pt ?_;refine dO<|Dw vm<|dO<|Dw (Bm lk lk)<|Dw (Ar lk lk)<|Dw vm<|?_;refine dq' (t:=63) gt pt pt (λhg63=>?_) (λhg63=>?_)
   .refine dO<|dg<|dO<|Dw (Aa lk gx gt3)<|dO<|Dw vm<|dO<|?_;refine D' (Ch lk lki om om) pt ?_;refine dO<|dg<|dO<|Dw (Aa lk gx gt4)<|dO<|?_;refine D' (Ch lk lk om om) pt ?_;refine d_do gt ?_;refine D' (Bh (k:=t.2.length-1-j) lk lk Cg nb ro om ro rfl) pt ?_;refine dO<|Dw (Ax lk Bv rfl)<|dO<|dg<|dO<|Dw (Aa lk gx gt3)<|dO<|Dw vm<|dO<|?_;refine D' (Ch lk lki om om) pt ?_;refine dO<|dg<|dO<|Dw (Aa lk gx gt4)<|dO<|?_;refine D' (Ch lk lk om om) pt ?_;refine d_do gt ?_;refine D' (Bh (k:=u.2.length-1-j) lk lk Cg nb ro om ro rfl) pt ?_;refine dO<|Dw (Ax lk Bv rfl)<|dO<|Dw (Nc lk lk Hz)<|Dw (Ar lk lk)<|Bi<|?_;refine B9 ?_;refine sn' ?_;refine cd' lk (λhc2=>?_) (λhc2=>?_)
    .refine za<|Ah<|Aq<|fq<|Vw (Aa lk gx gt4)<|?_;refine ad<|fq<|E' (Ai lk cv gx rfl nb rfl Vl hs3) ptn<|Am<|Aw<|Az<|?_;refine lT' (j+1) (by (try dsimp only);exact⟨by omega,by omega,by rw[hjc,Yo (by simp;omega) (by simp;omega) (by rw[Og om,Og om];exact Sz hc2)];omega⟩)
    refine Bd<|As<|As<|Bp<|Az<|?_;have hj0:tlOf t u=j:=by first | (rw[hjc,Kf (by simp;omega)];simp;done) | (rw[hjc,I9 (by simp;omega) (by simp;omega) (by rw[Og om,Og om];exact λe=>hc2 (by rw[e];simp))];simp;done)
    exact cT' (()) (by trivial) (by refine zz ?_;exact ALe.same wA' (by rw[hj0]))
   refine dn<|dn<|dn<|dn<|dn<|dn<|dn<|dn<|dn<|dn<|dn<|dn<|dn<|dn<|?_;refine dn<|dn<|dn<|dn<|dn<|Dw (Ao lk lkb)<|Bi<|?_;refine B9 ?_;refine sn'<|Cf lk<|Bd<|As<|As<|Bp<|Az<|?_;have hj0:tlOf t u=j:=by first | (rw[hjc,Kf (by simp;omega)];simp;done) | (rw[hjc,I9 (by simp;omega) (by simp;omega) (by rw[Og om,Og om];exact λe=>hc2 (by rw[e];simp))];simp;done)
   exact cT' (()) (by trivial) (by refine zz ?_;exact ALe.same wA' (by rw[hj0]))
  refine dn<|dn<|dn<|dn<|dn<|dn<|dn<|Dw (Ao lk lkb)<|Dw vm<|dn<|dn<|dn<|dn<|dn<|?_;refine dn<|dn<|dn<|dn<|dn<|dn<|dn<|dn<|dn<|dn<|dn<|dn<|dn<|dn<|?_;refine Dw (Ao lk lkb)<|Bi<|?_;refine B9 ?_;refine sn'<|Cf lk<|Bd<|As<|As<|Bp<|Az<|?_;have hj0:tlOf t u=j:=by first | (rw[hjc,Kf (by simp;omega)];simp;done) | (rw[hjc,I9 (by simp;omega) (by simp;omega) (by rw[Og om,Og om];exact λe=>hc2 (by rw[e];simp))];simp;done)
  exact cT' (()) (by trivial) (by refine zz ?_;exact ALe.same wA' (by rw[hj0]))
 rintro x hq9;try simp only[sm',Nat.reduceAdd]
 refine Ab<|wr'<|fq<|Vw (Aa lk gx gt3)<|mw<|Am<|?_;refine B0 (ALe.own0Cell (st':=4) (ty:=86) gx gt5 hl4 pt5 (Eq.trans (congrArg (λz=>List.set z _ _) ha4) hs3)) ?_;refine Ah ?_;refine It (ι:=Nat×Nat) (λ⟨i,v⟩=>[(8,iv (i:Int))]++rn' 90 18) (λ⟨i,v⟩=>[(3,.mk 0 49 6 [iv u.1.1,iv u.1.2.1,sv u.1.2.2,iv (hdOf t u:Int),iv (tlOf t u:Int),.own (N+4) v ((u.2.take i).drop (hdOf t u)).length]),(4,.mk v 86 4 (rows chgC ((u.2.take i).drop (hdOf t u))))]) (λ⟨i,v⟩=>hdOf t u<=i/\i<=u.2.length-tlOf t u) (λ⟨i,v⟩=>u.2.length-i) (⟨hdOf t u,0⟩) (by exact⟨Nat.le_refl _,by omega⟩) (by try simp only[sm',Nat.reduceAdd];exact ALe.same wA' (by rw[show (u.2.take (hdOf t u)).drop (hdOf t u)=[] from by simp];rfl)) ?_;rintro⟨i,v⟩ hi3;try simp only[sm',Nat.reduceAdd]
 obtain⟨hi1,hi2⟩:=hi3;refine Ab<|wm<|mw<|fq<|Vw (Aa lk gx gt4)<|?_;refine V' (Ch lk lk om om) pt ?_;refine Vw (Bm lk lk)<|sn'<|?_;refine cd' lk (λhc3=>?_) (λhc3=>?_)
 .have hst:(u.2.take (i+1)).drop (hdOf t u)=(u.2.take i).drop (hdOf t u)++[u.2[i]]:=by rw[List.take_succ_eq_append_getElem om,List.drop_append_of_le_length (by rw[List.length_take];omega)]
  refine za<|Ab<|Ah<|Bl<|dg<|Dw (Aa lk gx gt5)<|dg<|Dw (Aa lk gx gt3)<|Dw vm<|?_;refine D' (Bh lk lk Cg nb ro om ro rfl) pt ?_;refine Dw (Ax lk Bv rfl)<|D5 rfl rfl (hlk hn rfl) (G8 (Gb cw)) pt B2<|Bi<|?_;refine Eg Lh ?_;refine E' (C6 (C0 lk (hga hn rfl) rfl Bv nb) lk (hga hn rfl) (Cu _) (by rw[List.length_drop,List.length_take];omega) rfl hs4) pt ?_;refine fq<|E' (Ai lk cv gx rfl nb rfl Vk hs3) ptn<|Am<|Aw<|An<|Aq<|mw<|?_;refine ad<|mw<|Am<|Az<|?_;refine lU' (⟨i+1,v+1⟩) (by (try dsimp only);exact⟨by omega,by omega⟩) (by refine zz ?_;exact bk' 5 hn hlt (by rw[hst,Bt,C3,List.length_append];rfl))
 refine Bd<|As<|As<|Bp<|?_;have hi0:u.2.length-tlOf t u=i:=by omega
 subst hi0;refine B0 (ALe.iceCellR (hga hn rfl) (hga hn rfl) om gt5 (List.take_of_length_le (by rw[Cu];exact Nat.le_refl _)) (by rw[Cu];exact Nat.le_refl _) pt5 hs4 hs3) ?_;exact wr'<|Vw (Ak lk gx Gd rfl)<|E' (Ai lk cv gx rfl nb rfl Hc hs2) ptn<|sr<|Ad (rs1 (rr_c gt gx (ld1 Gd rfl)))<|rT' rfl
end
section
open Go.Ab Go.RowKit Civ
attribute [local simp] Cp Ib Dn Oi Gv
section
def Rk {e0 e1 e2 e3 e4 e5 e6 d0:Ent}:([e0,e1,e2,e3,e4,e5,e6]:AH)++[d0]=[e0,e1,e2,e3,e4,e5,e6,d0]:=rfl
def bO {l:List AV}:(a0::a1::a2::a3::a4::a5::l).take 6=[a0,a1,a2,a3,a4,a5]:=rfl
end
def k12:=Kx 12 [.e [] 10 [],.e [] 9 [false,false,false],.e [] 10 [],.e [] 8 [false,false,false],.e [] 14 [],.e [] 23 [false,false,false]]
def c14:AC:=(Sr [Oo 2 (.box 39 4 (t 0)),Oo 3 (.box 39 4 (t 1)),Mb 4 false] (.seq (Sr [Fa 8 0 2,Ld 9 8,Oo 10 (.len false (t 9)),Fa 11 0 3,Ld 12 11,Oo 13 (.len false (t 12)),Bn 14 .neq 10 13,Mv 15 14,Of 16 15 (.fa 1 (t 2)),Of 17 15 (.load false 1 (t 16)),Of 18 15 (.fa 1 (t 3)),Of 19 15 (.load false 1 (t 18)),Of 20 15 (.call (.func 42) [(t 17),(t 19)]),Of 21 15 (.un .not (t 20)),Oo 22 (.pick (t 15) (.const (.bool true)) (t 21)),Mv 23 22,Of 24 23 (.fa 2 (t 2)),Of 25 23 (.load false 1 (t 24)),Of 26 23 (.len false (t 25)),Of 27 23 (.fa 2 (t 3)),Of 28 23 (.load false 1 (t 27)),Of 29 23 (.len false (t 28)),Of 30 23 (.bin .neq (t 26) (t 29)),Oo 31 (.pick (t 23) (.const (.bool true)) (t 30)),Mv 32 31,Of 33 32 (.fa 3 (t 2)),Of 34 32 (.load false 1 (t 33)),Of 35 32 (.len false (t 34)),Of 36 32 (.fa 3 (t 3)),Of 37 32 (.load false 1 (t 36)),Of 38 32 (.len false (t 37)),Of 39 32 (.bin .neq (t 35) (t 38)),Oo 40 (.pick (t 32) (.const (.bool true)) (t 39))] (Cd 40 (Sr [Mb 4 false] .ret) .skip)) (.seq (Sr [Mc 5 0] (.block 0 (.loop (.seq (Sr [Mv 41 5,Fa 42 0 2,Ld 43 42,Oo 44 (.len false (t 43)),Bn 45 .lss 41 44] (Cd 45 .skip (.exit 0))) (.seq (.block 1 (Sd [Fa 48 0 2,Ld 49 48,Mv 50 5,Oo 51 (.ia 1 (t 49) (t 50)),Ld 52 51,Fa 53 0 3,Ld 54 53,Mv 55 5,Oo 56 (.ia 1 (t 54) (t 55)),Ld 57 56,Bn 58 .neq 52 57] (Cd 58 (Sr [Mb 4 false] .ret) .skip))) (.reg [Mv 46 5,Bc 47 .add 46 1,Mv 5 47])))))) (.seq (Sr [Mc 6 0] (.block 2 (.loop (.seq (Sr [Mv 59 6,Fa 60 2 2,Ld 61 60,Oo 62 (.len false (t 61)),Bn 63 .lss 59 62] (Cd 63 .skip (.exit 2))) (.seq (.block 3 (Sd [Fa 66 2 2,Ld 67 66,Mv 68 6,Oo 69 (.ia 7 (t 67) (t 68)),Fa 70 0 69,Ld 71 70,Fa 72 2 3,Ld 73 72,Mv 74 6,Oo 75 (.ia 7 (t 73) (t 74)),Fa 76 0 75,Ld 77 76,Bn 78 .neq 71 77,Mv 79 78,Of 80 79 (.fa 2 (t 2)),Of 81 79 (.load false 1 (t 80)),Of 82 79 (mt 6),Of 83 79 (.ia 7 (t 81) (t 82)),Of 84 79 (.fa 1 (t 83)),Of 85 79 (.load true 6 (t 84)),Of 86 79 (.fa 2 (t 3)),Of 87 79 (.load false 1 (t 86)),Of 88 79 (mt 6),Of 89 79 (.ia 7 (t 87) (t 88)),Of 90 79 (.fa 1 (t 89)),Of 91 79 (.load true 6 (t 90)),Of 92 79 (.call (.func 43) [(t 85),(t 91)]),Of 93 79 (.un .not (t 92)),Oo 94 (.pick (t 79) (.const (.bool true)) (t 93))] (Cd 94 (Sr [Mb 4 false] .ret) .skip))) (.reg [Mv 64 6,Bc 65 .add 64 1,Mv 6 65])))))) (.seq (Sr [Mc 7 0] (.block 4 (.loop (.seq (Sr [Mv 95 7,Fa 96 3 2,Ld 97 96,Oo 98 (.len false (t 97)),Bn 99 .lss 95 98] (Cd 99 .skip (.exit 4))) (.seq (.block 5 (Sd [Fa 102 3 2,Ld 103 102,Mv 104 7,Oo 105 (.ia 2 (t 103) (t 104)),Oo 106 (.load true 2 (t 105)),Fa 107 3 3,Ld 108 107,Mv 109 7,Oo 110 (.ia 2 (t 108) (t 109)),Oo 111 (.load true 2 (t 110)),Oo 112 (.eqs true [.str,.str] (t 106) (t 111))] (Cd 112 (Sr [Mb 4 false] .ret) .skip))) (.reg [Mv 100 7,Bc 101 .add 100 1,Mv 7 101])))))) (Sr [Mb 4 true] .ret))))))
def k14:Em Tryz.prog 14=some ⟨c14,[(.tmp 4)],113⟩:=by kernel_rfl
def atN_at {t:List Nam}{nm:ByteArray}(h:¬atN t nm<0) : ∃ hp:idxN t nm<t.length,atN t nm=(idxN t nm:Int)/\B4 t nm=some t[idxN t nm].2:=by
 have hh:=Nt h;obtain⟨hp,e⟩:=Q5 hh;refine⟨hp,?_,by rw[Xy,List.getElem?_eq_getElem hp];rfl⟩;exact if_pos hp
def rupd_a {s:Rel}{f1 f2 f3 f4:Bool}(hr:Cb r=0) (hs:Cb s=0) :
  Ac 12 [.agg [.sl r.1.length 5 f1 (rows namC r.1),.sl r.2.length 2 f2 (rows lnkC r.2)],.agg [.sl s.1.length 5 f3 (rows namC s.1),.sl s.2.length 2 false (rows lnkC s.2)]] h (.agg (updC (betU r s))):=by
 obtain⟨a1,a2,a3,a4,a5,a6⟩:=E9 hr;obtain⟨b1,b2,b3,b4,b5,b6⟩:=E9 hs;refine tI' k12 λN hn hlt _ hbd=>?_;simp only[tb'] at hbd ⊢;refine wr'<|E' (Bq cv rfl hl0 ha0) pt<|E' (Bq cv rfl hl1 ha1) pt<|E' (Bz hl2 ha2) pt<|sn'<|wr'<|fq<|Vw (Aa lk gx gt1)<|Vw (Bb (Pi cw))<|E' (Bz hl3 ha3) pt<|E' (Ai lk cv gx rfl nb rfl Ay hs3) ptn<|?_;refine Am ?_;refine B0 (ALe.trans (ALe.own0Cell (st':=1) (ty:=9) gx gt0 hl4 pt0 (Eq.trans (congrArg (λz=>List.set z _ _) ha4) hs3)) (ALe.trans (ALe.own0Cell (st':=5) (ty:=76) gx gt1 hl5 pt1 (Eq.trans (congrArg (λz=>List.set z _ _) ha5) hs3)) (ALe.own0Cell (st':=7) (ty:=66) gx gt2 hl6 pt2 (Eq.trans (congrArg (λz=>List.set z _ _) ha6) hs3)))) ?_;refine Ab<|wk'<|Ah<|?_;refine w_lp (ι:=Nat×Nat) (λ⟨i,v⟩=>[(6,iv (i:Int))]++rn' 12 28) (λ⟨i,v⟩=>[(3,.mk 0 39 4 [.own (N+4) v (betD (r.1.take i) s.1).length,.own (N+5) 0 0,.own (N+6) 0 0,.sl s.2.length 2 false (rows lnkC s.2)]),(4,.mk v 9 1 (rows strC (betD (r.1.take i) s.1)))]) (λ⟨i,v⟩=>i<=r.1.length) (λ⟨i,v⟩=>r.1.length-i) (⟨0,0⟩) (by exact Nat.zero_le _) ?_;rintro⟨i,v⟩ hi1;try simp only[sm',Nat.reduceAdd]
 replace hi1:i<=r.1.length:=hi1;have hdl:=jY (r.1.take i) s.1;rw[List.length_take] at hdl;refine Ab<|wm<|fq<|Vw (Aa lk gx gt0)<|Vw (Bf lk)<|Vw (Bm lk lk)<|sn'<|?_;refine cd' lk (λhc1=>?_) (λhc1=>?_)
 .have hi:i<r.1.length:=by omega
  have hst:=bK (r.1.take i) s.1 r.1[i];rw[<-List.take_succ_eq_append_getElem hi] at hst;refine za<|Ab<|Ah<|Ab<|Bl<|dg<|Dw (Aa lk gx gt0)<|dg<|Dw (Aa lk gx gt0)<|Dw vm<|?_;refine D' (Bh lk lk B8 nb ro om ro rfl) pt ?_;refine Dw (Cj lk dp0)<|Dw (Ba lk gt)<|?_;refine Br mp (λhE hX=>Jf) pt ?_;refine Dw (Bm lk lki)<|Bi<|?_;refine B9 ?_;refine sn' ?_;refine cd' lk (λhc2=>?_) (λhc2=>?_)
  .have hb:hasN s.1 r.1[i].1=false:=Uf hc2;rw[if_neg (by rw[hb];simp)] at hst;refine Bl<|dg<|Dw (Aa lk gx gt0)<|dg<|Dw (Aa lk gx gt0)<|Dw vm<|?_;refine D' (Bh lk lk B8 nb ro om ro rfl) pt ?_;refine Dw (Cj lk dp0)<|Dw (Ba lk gt)<|D5 rfl rfl (hlk hn rfl) (G8 (Fq cw)) pt B2<|Bi<|?_;refine Eg Rk ?_;refine E' (C6 (C0 lk gx rfl Ee nb) lk gx (H1 _) om rfl hs4) pt ?_;refine fq<|E' (Ai lk cv gx rfl nb rfl Ct hs3) ptn<|Am<|Aw<|An<|Aq<|mw<|?_;refine ad<|mw<|Am<|Az<|?_;refine lU' (⟨i+1,v+1⟩) (by (try dsimp only);omega) (by refine zz ?_;exact bk' 7 hn hlt (by rw[hst,List.length_append,Bt];rfl) (hT:=by simp[AV.lt,AV.ltL,Ent.lt]) (hE:=by simp[AV.lt,AV.ltL,Ent.lt]))
  have hb:hasN s.1 r.1[i].1=true:=Nt hc2;rw[if_pos hb,List.append_nil] at hst;refine Be<|Aw<|An<|Aq<|mw<|?_;refine ad<|mw<|Am<|Az<|?_;refine lU' (⟨i+1,v⟩) (by (try dsimp only);omega) (by refine zz ?_;exact ALe.same wA' (by (rw[hst];try rfl)))
 rw[List.take_of_length_le (show r.1.length<=i by omega)] at *;refine Bd<|As<|As<|Bp<|An<|Ab<|wk'<|Ah<|?_;refine w_lp (ι:=Nat×Nat×Nat) (λ⟨j,p,q⟩=>[(7,iv (j:Int)),(8,.any)]++rn' 40 67) (λ⟨j,p,q⟩=>[(3,.mk 0 39 4 [.own (N+4) v (betD r.1 s.1).length,.own (N+5) p (betP r.1 (s.1.take j)).length,.own (N+6) q (betT D9 r.1 (s.1.take j)).length,.sl s.2.length 2 false (rows lnkC s.2)]),(5,.mk p 76 5 (rows namC (betP r.1 (s.1.take j)))),(6,.mk q 66 7 (rows nptC (betT D9 r.1 (s.1.take j))))]) (λ⟨j,p,q⟩=>j<=s.1.length) (λ⟨j,p,q⟩=>s.1.length-j) (⟨0,0,0⟩) (by exact Nat.zero_le _) ?_;rintro⟨j,p,q⟩ hi2;try simp only[sm',Nat.reduceAdd]
 replace hi2:j<=s.1.length:=hi2;have hpl:=Yu r.1 (s.1.take j);have hql:=jX r.1 (s.1.take j);rw[List.length_take] at hpl hql;refine Ab<|wm<|fq<|Vw (Aa lk gx gt0)<|Vw (Bf lk)<|Vw (Bm lk lk)<|sn'<|?_;refine cd' lk (λhc3=>?_) (λhc3=>?_)
 .have hj:j<s.1.length:=by omega
  have hsP:=bJ r.1 (s.1.take j) s.1[j];have hsT:=bI r.1 (s.1.take j) s.1[j];rw[<-List.take_succ_eq_append_getElem hj] at hsP hsT;have hlu:=D7 (b3 _ (List.getElem_mem hj)).2;refine za<|Ab<|Ah<|Ab<|Bl<|dg<|Dw (Aa lk gx gt0)<|dg<|Dw (Aa lk gx gt0)<|Dw vm<|?_;refine D' (Bh lk lk B8 nb ro om ro rfl) pt ?_;refine Dw (Cj lk dp0)<|Dw (Ba lk gt)<|?_;refine Br mp (λhE hX=>Jf) pt ?_;refine Dw vm<|Bi<|?_;refine B9 ?_;refine sn'<|wm<|Vw (Bm lk lki)<|sn'<|?_;refine cd' lk (λhc4=>?_) (λhc4=>?_)
  .have hb:hasN r.1 s.1[j].1=false:=Uf hc4;have hF:=qQ hb;rw[if_neg (by rw[hb];simp)] at hsP;rw[hF] at hsT;replace hsT:betT D9 r.1 (s.1.take (j+1))=betT D9 r.1 (s.1.take j):=hsT.trans (List.append_nil _);refine Bl<|dg<|Dw (Aa lk gx gt1)<|dg<|Dw (Aa lk gx gt0)<|Dw vm<|?_;refine D' (Bh lk lk B8 nb ro om ro rfl) pt ?_;refine Dw (Ax lk Dv rfl)<|D5 rfl rfl (hlk hn rfl) (G8 (Dk cw)) pt B2<|Bi<|?_;refine Eg Rk ?_;refine E' (C6 (C0 lk gx rfl Dv nb) lk gx (F0 _) om rfl hs5) pt ?_;refine fq<|E' (Ai lk cv gx rfl nb rfl Gi hs3) ptn<|Am<|Aw<|An<|Aq<|mw<|?_;refine ad<|mw<|Am<|Az<|?_;refine lU' (⟨j+1,p+1,q⟩) (by (try dsimp only);omega) (by refine zz ?_;exact bk' 7 hn hlt (by rw[hsP,hsT,List.length_append,Bt];rfl) (hT:=by simp[AV.lt,AV.ltL,Ent.lt]) (hE:=by simp[AV.lt,AV.ltL,Ent.lt]))
  have hb:hasN r.1 s.1[j].1=true:=Nt hc4;obtain⟨hp,hpe,hkl⟩:=atN_at hc4;have hlr:=D7 (a3 _ (List.getElem_mem hp)).2;rw[if_pos hb,List.append_nil] at hsP;rw[hpe];refine Ab<|Bl<|dg<|Dw (Aa lk gx gt0)<|Dw vm<|?_;refine D' (Bh (k:=idxN r.1 s.1[j].1) lk lk B8 nb ro om ro rfl) pt ?_;refine Dw (Cj lk dp1)<|Dw (Ax lk Bv rfl)<|dg<|Dw (Aa lk gx gt0)<|Dw vm<|?_;refine D' (Bh lk lk B8 nb ro om ro rfl) pt ?_;refine Dw (Cj lk dp1)<|Dw (Ax lk Bv rfl)<|?_;refine Br mp (λhE hX=>Ry (t:=r.1[idxN r.1 s.1[j].1].2) (u:=s.1[j].2)) pt ?_;refine Dw (Bj lk)<|Bi<|?_;refine B9 ?_;refine sn' ?_;refine Bg lk (λhc5=>?_) (λhc5=>?_)
  .have hne:¬r.1[idxN r.1 s.1[j].1].2=s.1[j].2:=by simpa using hc5
   have hF:betF D9 r.1 s.1[j]=some (s.1[j].1,D9 r.1[idxN r.1 s.1[j].1].2 s.1[j].2):=by unfold betF;rw[hkl];dsimp only;rw[if_neg hne]
   rw[hF] at hsT;refine Bl<|dg<|Dw (Aa lk gx gt2)<|dg<|Dw (Aa lk gx gt0)<|Dw vm<|?_;refine D' (Bh lk lk B8 nb ro om ro rfl) pt ?_;refine Dw (Cj lk dp0)<|Dw (Ba lk gt)<|dg<|Dw (Aa lk gx gt0)<|Dw vm<|?_;refine D' (Bh (k:=idxN r.1 s.1[j].1) lk lk B8 nb ro om ro rfl) pt ?_;refine Dw (Cj lk dp1)<|Dw (Ax lk Bv rfl)<|dg<|Dw (Aa lk gx gt0)<|Dw vm<|?_;refine D' (Bh lk lk B8 nb ro om ro rfl) pt ?_;refine Dw (Cj lk dp1)<|Dw (Ax lk Bv rfl)<|?_;refine Br mp (λhE hX=>diffOf_a (t:=r.1[idxN r.1 s.1[j].1].2) (u:=s.1[j].2) om om) pt ?_;refine Dw (Bb (N1 cw cw))<|D5 rfl rfl (hlk hn rfl) (G8 (Na cw)) pt B2<|Bi<|?_;refine Eg Rk ?_;refine E' (C6 (C0 lk gx rfl Ui nb) lk gx (cZ _) om rfl hs6) pt ?_;refine fq<|E' (Ai lk cv gx rfl nb rfl Lj hs3) ptn<|Am<|Aw<|An<|Aq<|mw<|?_;refine ad<|mw<|Am<|Az<|?_;refine lU' (⟨j+1,p,q+1⟩) (by (try dsimp only);omega) (by refine zz ?_;exact bk' 7 hn hlt (by rw[hsP,hsT,List.length_append,Bt];rfl) (hT:=by simp[AV.lt,AV.ltL,Ent.lt]) (hE:=by simp[AV.lt,AV.ltL,Ent.lt]))
  have hne:r.1[idxN r.1 s.1[j].1].2=s.1[j].2:=by simpa using hc5
  have hF:betF D9 r.1 s.1[j]=none:=by unfold betF;rw[hkl];dsimp only;rw[if_pos hne]
  rw[hF] at hsT;replace hsT:betT D9 r.1 (s.1.take (j+1))=betT D9 r.1 (s.1.take j):=hsT.trans (List.append_nil _);refine Be<|Aw<|An<|Aq<|mw<|?_;refine ad<|mw<|Am<|Az<|?_;refine lU' (⟨j+1,p,q⟩) (by (try dsimp only);omega) (by refine zz ?_;exact ALe.same wA' (by (rw[hsP,hsT];try rfl)))
 rw[List.take_of_length_le (show s.1.length<=j by omega)] at *;refine Bd<|As<|As<|Bp<|?_;refine B0 (ALe.trans (ALe.iceCellR (hga hn rfl) (hga hn rfl) om gt0 (List.take_of_length_le (by rw[H1];exact Nat.le_refl _)) (by rw[H1];exact Nat.le_refl _) pt0 hs4 hs3) (ALe.trans (ALe.iceCellR (hga hn rfl) (hga hn rfl) om gt1 (List.take_of_length_le (by rw[F0];exact Nat.le_refl _)) (by rw[F0];exact Nat.le_refl _) pt1 hs5 hs3) (ALe.iceCellR (hga hn rfl) (hga hn rfl) om gt2 (List.take_of_length_le (by rw[cZ];exact Nat.le_refl _)) (by rw[cZ];exact Nat.le_refl _) pt2 hs6 hs3))) ?_;exact wr'<|Vw (Ak lk gx Av rfl)<|E' (Ai lk cv gx rfl nb rfl Ay hs2) ptn<|sr<|Ad (rs1 (rr_c gt gx (ld1 Av rfl)))<|rT' rfl
def sameN_r {t:List Nam}:Ac 42 [.sl t.length 5 false (rows namC t),.sl t.length 5 false (rows namC t)] h (bv true):=by
 have:=R4 (t:=t) (u:=t) (f1:=false) (f2:=false) (h:=h);rw[decide_eq_true rfl] at this;exact this
def sameP_r {p:Pat}:Ac 43 [.agg [iv p.1.1,iv p.1.2.1,sv p.1.2.2,iv p.2.1,iv p.2.2.1,chS p.2.2.2],.agg [iv p.1.1,iv p.1.2.1,sv p.1.2.2,iv p.2.1,iv p.2.2.1,chS p.2.2.2]] h (bv true):=by
 have:=sameP_a (p:=p) (q:=p) (f1:=false) (f2:=false) (h:=h);rw[decide_eq_true rfl] at this;exact this
def sameU_r :Ac 14 [.agg (updC u),.agg (updC u)] h (bv true):=by
 refine tI' k14 λN hn _ _ hbd=>?_;simp only[tb'] at hbd ⊢;refine wr'<|E' (Bq cv rfl hl0 ha0) pt<|E' (Bq cv rfl hl1 ha1) pt<|ms<|Ab<|wr'<|fq<|Vw (Aa lk gx gt0)<|Vw (Bf lk)<|fq<|?_;refine Vw (Aa lk gx gt0)<|Vw (Bf lk)<|Vw (Ca lk lk)<|mw<|?_;refine cN (t:=15) gt (b:=false) (by exact decide_eq_false (by simp)) pt ?_;refine sd<|fq<|sd<|Vw (Aa lk gx gt1)<|sd<|fq<|sd<|Vw (Aa lk gx gt1)<|sd<|Af mp (sameN_r) pt<|sd<|Vw (Bj lk)<|Vw (Ao lk lk)<|mw<|?_;refine sd<|fq<|sd<|Vw (Aa lk gx gt2)<|sd<|Vw (Bf lk)<|sd<|fq<|sd<|Vw (Aa lk gx gt2)<|sd<|Vw (Bf lk)<|sd<|Vw (Ca lk lk)<|?_;refine Vw (Ao lk lk)<|mw<|?_;refine cN (t:=32) gt (b:=false) (by exact decide_eq_false (by simp)) pt ?_;refine sd<|fq<|sd<|Vw (Aa lk gx gt3)<|sd<|Vw (Bf lk)<|sd<|fq<|sd<|Vw (Aa lk gx gt3)<|sd<|Vw (Bf lk)<|sd<|Vw (Ca lk lk)<|?_;refine Vw (Ao lk lk)<|sn'<|?_;refine F2 lk (by exact decide_eq_false (by simp)) ?_;refine za<|Ab<|wk'<|Ah<|?_;refine w_lp (ι:=Nat) (λ(i:Nat)=>[(5,iv (i:Int)),(4,.any)]++rn' 41 18) (λ(i:Nat)=>[]) (λ(i:Nat)=>i<=u.1.length) (λ(i:Nat)=>u.1.length-i) (0) (by exact Nat.zero_le _) ?_;rintro i hi1;try simp only[sm',Nat.reduceAdd]
 replace hi1:i<=u.1.length:=hi1;refine Ab<|wm<|fq<|Vw (Aa lk gx gt0)<|Vw (Bf lk)<|Vw (Bm lk lk)<|sn'<|?_;refine cd' lk (λhc2=>?_) (λhc2=>?_)
 .have hi:i<u.1.length:=by omega
  refine za<|Ab<|Ah<|Ab<|Bl<|dg<|Dw (Aa lk gx gt0)<|Dw vm<|?_;refine D' (Bh lk lk Rt nb ro om ro rfl) pt ?_;refine Dw (Ba lk gt)<|dg<|Dw (Aa lk gx gt0)<|Dw vm<|?_;refine D' (Bh lk lk Rt nb ro om ro rfl) pt ?_;refine D' (Ba lk gt) pt ?_;refine D' ((by first | exact Ca lk lk | exact H7 lk lk)) pt ?_;refine Bi ?_;refine B9 ?_;refine sn' ?_;refine F2 lk (by exact decide_eq_false (by simp)) ?_;refine Be<|Aw<|An<|Aq<|mw<|?_;refine ad<|mw<|Am<|Az<|?_;refine lT' (i+1) (by (try dsimp only);omega)
 refine Bd<|As<|As<|Bp<|An<|Ab<|wk'<|Ah<|?_;refine w_lp (ι:=Nat) (λ(j:Nat)=>[(6,iv (j:Int)),(4,.any)]++rn' 59 36) (λ(j:Nat)=>[]) (λ(j:Nat)=>j<=u.2.2.1.length) (λ(j:Nat)=>u.2.2.1.length-j) (0) (by exact Nat.zero_le _) ?_;rintro j hi2;try simp only[sm',Nat.reduceAdd]
 replace hi2:j<=u.2.2.1.length:=hi2;refine Ab<|wm<|fq<|Vw (Aa lk gx gt2)<|Vw (Bf lk)<|Vw (Bm lk lk)<|sn'<|?_;refine cd' lk (λhc4=>?_) (λhc4=>?_)
 .have hj:j<u.2.2.1.length:=by omega
  refine za<|Ab<|Ah<|Ab<|Bl<|dg<|Dw (Aa lk gx gt2)<|Dw vm<|?_;refine D' (Bh lk lk Mn nb ro om ro rfl) pt ?_;refine Dw (Cj lk dp0)<|Dw (Ba lk gt)<|dg<|Dw (Aa lk gx gt2)<|Dw vm<|?_;refine D' (Bh lk lk Mn nb ro om ro rfl) pt ?_;refine Dw (Cj lk dp0)<|Dw (Ba lk gt)<|?_;refine D' ((by first | exact Ca lk lk | exact H7 lk lk)) pt ?_;refine D' vm pt ?_;refine d_known (t:=79) gt (b:=false) (by exact decide_eq_false (by simp)) pt ?_;refine dO<|dg<|dO<|Dw (Aa lk gx gt2)<|dO<|Dw vm<|dO<|?_;refine D' (Bh lk lk Mn nb ro om ro rfl) pt ?_;refine dO<|Dw (Cj lk dp1)<|dO<|Dw (Ax lk bO rfl)<|dO<|dg<|dO<|Dw (Aa lk gx gt2)<|dO<|Dw vm<|dO<|?_;refine D' (Bh lk lk Mn nb ro om ro rfl) pt ?_;refine dO<|Dw (Cj lk dp1)<|dO<|Dw (Ax lk bO rfl)<|dO<|?_;refine Br mp (λhE hX=>sameP_r) pt ?_;refine dO<|Dw (Bj lk)<|Dw (Ao lk lk)<|Bi<|?_;refine B9 ?_;refine sn'<|Cf lk<|Be<|Aw<|An<|Aq<|mw<|?_;refine ad<|mw<|Am<|Az<|?_;refine lT' (j+1) (by (try dsimp only);omega)
 refine Bd<|As<|As<|Bp<|An<|Ab<|wk'<|Ah<|?_;refine w_lp (ι:=Nat) (λ(k:Nat)=>[(7,iv (k:Int)),(4,.any)]++rn' 95 18) (λ(k:Nat)=>[]) (λ(k:Nat)=>k<=u.2.2.2.length) (λ(k:Nat)=>u.2.2.2.length-k) (0) (by exact Nat.zero_le _) ?_;rintro k hi3;try simp only[sm',Nat.reduceAdd]
 replace hi3:k<=u.2.2.2.length:=hi3;refine Ab<|wm<|fq<|Vw (Aa lk gx gt3)<|Vw (Bf lk)<|Vw (Bm lk lk)<|sn'<|?_;refine cd' lk (λhc6=>?_) (λhc6=>?_)
 .have hk:k<u.2.2.2.length:=by omega
  refine za<|Ab<|Ah<|Ab<|Bl<|dg<|Dw (Aa lk gx gt3)<|Dw vm<|?_;refine D' (Bh lk lk Da nb ro om ro rfl) pt ?_;refine Dw (Ax lk Ce rfl)<|dg<|Dw (Aa lk gx gt3)<|Dw vm<|?_;refine D' (Bh lk lk Da nb ro om ro rfl) pt ?_;refine Dw (Ax lk Ce rfl)<|Dw (Ma lk lk Y5)<|Bi<|?_;refine B9 ?_;refine sn' ?_;refine F2 lk (by exact decide_eq_false (by simp)) ?_;refine Be<|Aw<|An<|Aq<|mw<|?_;refine ad<|mw<|Am<|Az<|?_;refine lT' (k+1) (by (try dsimp only);omega)
 exact Bd<|As<|As<|Bp<|An<|wo<|Ad rz<|rT' rfl
end
section
open Go.Ab Civ
def le:Nat->Int->List UInt8
 | 0,_=>[]
 | k+1,n=>UInt8.ofNat (n%256).toNat::le k (n/256)
def Me : ∀ (k:Nat) (n:Int),(le k n).length=k
 | 0,_=>rfl
 | k+1,n=>by simp[le,Me k]
def nm:List UInt8->Int
 | []=>0
 | b::l=>(b.toNat:Int)+256*nm l
def gO : ∀ l:List UInt8,0<=nm l/\nm l<256 ^ l.length
 | []=>by simp[nm]
 | b::l=>by
  have h:=gO l;have hb:=b.toNat_lt;simp only[nm,List.length_cons,Int.pow_succ];omega
def idx:List Loc->Loc->Nat
 | [],_=>0
 | a::K,l=>if a=l then 0 else idx K l+1
def idx_le : ∀ (K:List Loc) (l:Loc),idx K l<=K.length
 | [],_=>Nat.le_refl _
 | a::K,l=>by
  have:=idx_le K l;unfold idx;split <;> simp <;> omega
def nP : ∀ {K:List Loc}{l:Loc}(h:idx K l<K.length),K[idx K l]=l
 | [],_,h=>by simp at h
 | a::K,l,h=>by
  by_cases e:a=l
  .simp[idx,e]
  .have h1:idx (a::K) l=idx K l+1:=by rw[idx,if_neg e]
   simp only[h1,List.getElem_cons_succ];exact nP (by rw[h1] at h;simpa using h)
def idx_step {K:List Loc}{l:Loc}(hk:k<K.length) (hi:k<=idx K l) (h:K[k]≠l):k+1<=idx K l:=by
 rcases Nat.lt_or_ge k (idx K l) with h1 | h1
 .exact h1
 .have e:idx K l=k:=by omega
  have:=nP (K:=K) (l:=l) om;simp only[e] at this;exact absurd this h
def nO : ∀ {K:List Loc}{l:Loc}{k:Nat}(hk:k<K.length),K[k]=l->idx K l<=k
 | [],_,_,hk,_=>by simp at hk
 | a::K,l,0,_,h=>by simp at h;simp[idx,h]
 | a::K,l,k+1,hk,h=>by
  have:=nO (K:=K) (l:=l) (k:=k) (by simpa using hk) (by simpa using h);unfold idx;split <;> omega
def addK (K:List Loc) (l:Loc):List Loc:=if idx K l<K.length then K else K++[l]
def kL (K:List Loc) (l:Loc):K.length<=(addK K l).length/\(addK K l).length<=K.length+1:=by
 unfold addK;split <;> simp
def ksOf:List Loc->List Chg->List Loc
 | K,[]=>K
 | K,c::cs=>ksOf (addK K c.2) cs
def isOf:List Loc->List Chg->List Nat
 | _,[]=>[]
 | K,c::cs=>idx K c.2::isOf (addK K c.2) cs
def iE : ∀ (K:List Loc) (l:List Chg),(isOf K l).length=l.length
 | _,[]=>rfl
 | K,c::cs=>by simp[isOf,iE]
def gZ : ∀ (K:List Loc) (l:List Chg),(ksOf K l).length<=K.length+l.length
 | K,[]=>by simp[ksOf]
 | K,c::cs=>by
  have h1:=gZ (addK K c.2) cs;have h2:=kL K c.2;simp only[ksOf,List.length_cons];omega
def encL (l:Loc):List UInt8:=le 3 (l.1+100000)++(le 2 l.2.1++(le 1 l.2.2.size++l.2.2.data.toList))
def encC (p:Chg×Nat):List UInt8:=le 5 (p.1.1+274877906944)++le 2 p.2
def kinds (t:Tab):List Loc:=ksOf [t.1] t.2
def Uy (t:Tab):List Nat:=isOf [t.1] t.2
def enc (t:Tab):List UInt8:=le 2 (kinds t).length++((kinds t).flatMap encL++(le 2 0++(le 2 t.2.length++(t.2.zip (Uy t)).flatMap encC)))
def tR (t:Tab):(kinds t).length<=1+t.2.length:=by
 have:=gZ [t.1] t.2;simpa [kinds] using this
def hJ {p:Loc->Prop} : ∀ (K:List Loc) (l:List Chg),(∀ x∈K,p x)->(∀ c∈l,p c.2) -> ∀ x∈ksOf K l,p x
 | K,[],hK,_=>hK
 | K,c::cs,hK,hl=>by
  refine hJ (addK K c.2) cs ?_ (λd hd=>hl d (by simp[hd]));intro x hx;unfold addK at hx;split at hx
  .exact hK x hx
  .rcases List.mem_append.1 hx with h | h
   .exact hK x h
   .simp at h;subst h;exact hl c (by simp)
end
section
open Go.Ab Civ
attribute [local simp] Cp
section
def eO {τ:Operand->AV}{y0:Operand}{a:AV}(h0:Lf τ y0 [a]):Cm τ [(0,1,y0)] [(.v (.int .u8 0))]=some [a]:=fl h0 rfl
end
def c97:AC:=(Sr [Mv 6 2,Mc 7 0] (.block 0 (.loop (Sr [Bn 8 .lss 7 6] (.seq (Cd 8 .skip (.exit 0)) (.seq (.block 1 (Sr [Mv 9 0,Mv 10 0,Nk 11 10,Fa 12 0 11,Ld 13 12,Mv 14 1,Oo 15 (.cvi .u8 (t 14)),Oo 16 (.lit 5 1 1 [(.v (.int .u8 0))] [(0,(1,(t 15)))]),Oo 17 (.app 5 1 1 (t 13) (t 16)),Nk 18 9,Fa 19 0 18,Sc 19 17] (.reg [Mv 20 1,Oo 21 (.bin .shr (t 20) (.const (.int .u64 8))),Mv 1 21]))) (.reg [Bc 22 .add 7 1,Mv 7 22])))))))
def k97:Em Tryz.prog 97=some ⟨c97,[],23⟩:=by kernel_rfl
def c151:AC:=(Sr [Oo 3 (.box 27 3 (t 1)),Mc 4 0] (.seq (Sr [Mv 6 0,Oo 7 (.len false (t 6)),Mc 8 0] (.block 0 (.loop (Sr [Bn 9 .lss 8 7] (.seq (Cd 9 .skip (.exit 0)) (.seq (.block 1 (Sr [Mv 10 8,Mv 5 10] (Sd [Oo 11 (.load true 3 (t 3)),Mv 12 0,Mv 13 5,Oo 14 (.ia 3 (t 12) (t 13)),Oo 15 (.load true 3 (t 14)),Oo 16 (.eqs false [.int,.int,.str] (t 11) (t 15))] (Cd 16 (Sr [Mv 17 5,Mv 4 17] .ret) .skip)))) (.reg [Bc 18 .add 8 1,Mv 8 18]))))))) (Sr [Oo 4 (.mv (.const (.int .i64 (-1))))] .ret)))
def k151:Em Tryz.prog 151=some ⟨c151,[(.tmp 4)],19⟩:=by kernel_rfl
def c96:AC:=(Sr [Oo 3 (.box 27 3 (t 1)),Mc 4 0] (Sd [Mv 6 0,Nk 7 6,Fa 8 1 7,Ld 9 8,Oo 10 (.load true 3 (t 3)),Cl 11 151 [(t 9),(t 10)],Mv 5 11] (.seq (Sr [Mv 12 5,Bc 13 .lss 12 0] (Cd 13 (Sr [Mv 14 0,Nk 15 14,Fa 16 1 15,Ld 17 16,Oo 18 (.len false (t 17)),Mv 5 18] (.drw [Mv 19 0,Mv 20 0,Nk 21 20,Fa 22 1 21,Ld 23 22,Oo 24 (.load true 3 (t 3)),Oo 25 (.lit 27 3 1 [(iv 0),(iv 0),Ss] [(0,(3,(t 24)))])] [false,false,false,false] [Oo 26 (.app 27 3 32 (t 23) (t 25)),Nk 27 19,Fa 28 1 27,Sc 28 26])) .skip)) (Sr [Mv 29 5,Mv 4 29] .ret))))
def k96:Em Tryz.prog 96=some ⟨c96,[(.tmp 4)],30⟩:=by kernel_rfl
abbrev Ih (l:Loc):List AV:=[iv l.1,iv l.2.1,sv l.2.2]
abbrev inC (n:Nat):List AV:=[iv (n:Int)]
def Um (l:List UInt8):AV.ltL n (rows u8R l)=true:=Eh (λ_ _=>rfl) l
attribute [local simp] Um
def Ic (l:List Loc):AV.ltL n (rows Ih l)=true:=Eh (λ_ _=>rfl) l
attribute [local simp] Ic
def aR (l:List Nat):AV.ltL n (rows inC l)=true:=Eh (λ_ _=>rfl) l
attribute [local simp] aR
def I3 {n:Nat} : ∀ {a b:List AV},AV.ltL n (a++b)=(AV.ltL n a&&AV.ltL n b)
 | [],b=>by simp[AV.ltL]
 | c::a,b=>by simp only[List.cons_append,AV.ltL,I3 (a:=a),Bool.and_assoc]
attribute [local simp] I3
def u8_len1 : ∀ x,(u8R x).length=1:=λ_=>rfl
def u8_leaf (l:List UInt8):(rows u8R l).all leaf=true:=Jg (λ_=>rfl) l
def Mq : ∀ x,(Ih x).length=3:=λ_=>rfl
def dQ : ∀ x,(inC x).length=1:=λ_=>rfl
def u8_len (l:List UInt8):(rows u8R l).length=l.length*1:=C9 u8_len1 l
def V8 (l:List Loc):(rows Ih l).length=l.length*3:=C9 Mq l
def in_len (l:List Nat):(rows inC l).length=l.length*1:=C9 dQ l
def wrap8 (n:Int):IntKind.u8.wrap n=((UInt8.ofNat (n%256).toNat).toNat:Int):=by
 rw[UInt8.toNat_ofNat',Nat.mod_eq_of_lt om];simp[IntKind.wrap,IntKind.bits,IntKind.signed];omega
def v_cvi8 {n:Int}{k':IntKind}(hx:Ae T x=.v (.int k' n)):aval h (Ae T) (.cvi .u8 x)=some (.v (.int .u8 ((UInt8.ofNat (n%256).toNat).toNat:Int))):=by
 rw[v_cvi hx,wrap8]
def v_shr8 {y:Operand}{n:Int}{kd:IntKind}(hx:Ae T x=iv n) (hy:Ae T y=.v (.int kd 8)):aval h (Ae T) (.bin .shr x y)=some (iv (n/256)):=Hl hx hy (by
 simp only[vBin];rw[if_neg om];congr 3;have:(2:Int) ^ (min (8:Int).toNat IntKind.i64.bits)=256:=by decide
 rw[this];exact Int.fdiv_eq_ediv_of_nonneg n om)
def N4 {L:List UInt8}{K:AV}{id ib:Nat}{n:Int}(h1:h[id]?=some (.mk v0 ty 2 [.own ib v L.length,K])) (h2:h[ib]?=some (.mk v 5 1 (rows u8R L))) (hne:id≠ib) (hk:k<=8) (hL:L.length<=1000000000) (hK:K.lt h.length=true) :
  ACalls Tryz.prog 97 [.ptr id v0 0,iv n,iv (k:Int)] h λr h'=>r=.ret (.tup [])/\h'=(h.set id (.mk v0 ty 2 [.own ib (v+k) (L++le k n).length,K])).set ib (.mk (v+k) 5 1 (rows u8R (L++le k n))):=by
 have hid:id<h.length:=(List.getElem?_eq_some_iff.1 h1).1;have hib:ib<h.length:=(List.getElem?_eq_some_iff.1 h2).1;refine tJ' k97 λN hn hlt _ hbd=>?_;simp only[tb'] at hbd ⊢;rw[hn] at hK;have hib':ib<N:=by omega
 refine Gg (h1:=(h.set id (.mk v0 ty 2 [.own ib (v+0) L.length,K])).set ib (.mk (v+0) 5 1 (rows u8R L))++[]) (by rw[Nat.add_zero,I8 h1 h2]) ?_;refine wm<|ms<|Ah<|?_;refine Ll (ι:=Nat×Int×List UInt8) (λ⟨i,m,M⟩=>[(1,iv m),(7,iv (i:Int))]++rn' 8 15) (λ⟨i,m,M⟩=>(h.set id (.mk v0 ty 2 [.own ib (v+i) M.length,K])).set ib (.mk (v+i) 5 1 (rows u8R M))++[]) (λ⟨i,m,M⟩=>i<=k/\M.length=L.length+i/\L++le k n=M++le (k-i) m) (λ⟨i,m,M⟩=>k-i) (⟨0,n,L⟩) (by exact⟨by omega,by omega,by simp⟩) (by try simp only[sm',Nat.reduceAdd];exact ALe.same wA' rfl) ?_;rintro⟨i,m,M⟩ hi1;try simp only[sm',Nat.reduceAdd]
 obtain⟨hk1,hk2,hk3⟩:=hi1;refine wr'<|Vw (Bm lk lk)<|sn'<|Ab<|?_;refine cd' lk (λhc1=>?_) (λhc1=>?_)
 .refine za<|Ab<|Ah<|wm<|mw<|Vw (Cr lk)<|fq<|Vw (Aa lk (Dx hne hid) gt0)<|mw<|Vw (v_cvi8 lk)<|E' (Ep (eO cw) (hl0 (Bu hn)) ha0) pt<|?_;refine E' (C6 (C0 lk (hga (Bu hn) rfl) rfl Ee nb) lk (F1 hib) (u8_len _) om rfl (Hs hib)) pt ?_;refine Vw (Cr lk)<|fq<|E' (Ai lk cv (Dx hne hid) rfl nb rfl Ct (Gp hne hid)) ptn<|sn'<|Aq<|mw<|Vw (v_shr8 lk lki)<|mw<|Am<|Aw<|An<|Aq<|?_;refine ad<|mw<|Am<|Az<|?_;refine lU' (⟨i+1,m/256,M++[UInt8.ofNat (m%256).toNat]⟩) (by (try dsimp only);refine⟨by omega,by simp;omega,?_⟩;rw[hk3,show k-i=(k-(i+1))+1 by omega,le];simp) (by refine zz ?_;exact ALe.trans (ALe.back (by repeat (first | exact wk0 | refine wka ?_ | refine wk1 rfl ?_ | refine wk1 (by first | rfl | exact ivx om | (simp;done)) ?_)) rfl (E1:=[]) (k:=N+0) (by simp only[List.length_cons,List.length_nil,(Bu hn)]) om (by exact lt') (ltw om (Gf hlt (by simp[Ent.lt,AV.lt,AV.ltL, *]) (by simp[Ent.lt,AV.lt,AV.ltL,Um,I3]))) (by rfl)) (ALe.same (WkL.refl _) (by simp only[Bt,C3,List.length_append];rfl)))
 refine Bd<|As<|As<|Bp<|Ul (rs0)<|?_;have e0:k-i=0:=by omega
 rw[e0,le,List.append_nil] at hk3;refine⟨_,[],by simp only[List.append_nil];rfl,Bu hn,Gf hlt (by simp[Ent.lt,AV.lt,AV.ltL, *]) (by simp[Ent.lt,Um]),rfl,rfl,?_⟩;rw[hk3,show i=k by omega]
def index_a {K:List Loc}{l:Loc}(he:h[ik]?=some (.mk v ty 3 (rows Ih K))) :
  Ac 151 [.own ik v K.length,.agg [iv l.1,iv l.2.1,sv l.2.2]] h (iv (if idx K l<K.length then (idx K l:Int) else -1)):=by
 refine tI' k151 λN hn _ _ hbd=>?_;simp only[tb'] at hbd ⊢;refine wr'<|E' (Bq cv rfl hl0 ha0) pt<|ms<|Ab<|wm<|Vw (Ej lk)<|ms<|?_;refine Ah ?_;refine w_lp (ι:=Nat) (λ(k:Nat)=>[(8,iv (k:Int)),(4,.any),(5,.any)]++rn' 9 10) (λ(k:Nat)=>[]) (λ(k:Nat)=>k<=K.length/\k<=idx K l) (λ(k:Nat)=>K.length-k) (0) (by exact⟨by omega,by omega⟩) ?_;rintro k hi1;try simp only[sm',Nat.reduceAdd]
 obtain⟨hk1,hk2⟩:=hi1;refine wr'<|Vw (Bm lk lk)<|sn'<|Ab<|?_;refine cd' lk (λhc1=>?_) (λhc1=>?_)
 .have hk:k<K.length:=by omega
  refine za<|Ab<|Ah<|wm<|ms<|Ab<|Bl<|Dw (Ak lk gx Ap rfl)<|Dw vm<|?_;refine D' vm pt ?_;refine D' (Ck lk lk (Ez he) Mq nb ro om (by first | rfl | (simp;done) | omega)) pt ?_;refine D' (Iv lk (Ez he) Mq om rfl) pt ?_;refine Dw (Nc lk lk Ft)<|Bi<|?_;refine B9 ?_;refine sn' ?_;refine cd' lk (λhc2=>?_) (λhc2=>?_)
  .have hkl:K[k]=l:=by obtain⟨x1,x2,x3⟩:=hc2;exact (Prod.ext x1 (Prod.ext x2 x3)).symm
   refine wm<|mr<|Au<|Ag<|Ag<|Au<|Ag<|Ad rz<|rT'<|?_;refine ivx ?_;have e:=nO hk hkl;have e2:idx K l=k:=by omega
   rw[e2,if_pos hk]
  have hkl:K[k]≠l:=λe=>hc2 (by rw[<-e];exact⟨rfl,rfl,rfl⟩);refine Be<|Aw<|An<|Aq<|?_;refine ad<|mw<|Am<|Az<|?_;refine lT' (k+1) (by (try dsimp only);exact⟨by omega,idx_step hk hk2 hkl⟩)
 refine Bd<|As<|As<|Bp<|An<|wo<|Ad rz<|rT'<|?_;refine ivx ?_;rw[if_neg om]
def bump (K:List Loc) (l:Loc) (v:Nat):Nat:=if idx K l<K.length then v else v+1
def kind_a {K:List Loc}{l:Loc}{B:AV}{id:Nat}(h1:h[id]?=some (.mk v0 ty 2 [B,.own ik v K.length])) (h2:h[ik]?=some (.mk v 27 3 (rows Ih K))) (hne:id≠ik) (hL:K.length<=1000000000) (hB:B.lt h.length=true) (hBl:leaf B=true) :
  ACalls Tryz.prog 96 [.ptr id v0 0,.agg [iv l.1,iv l.2.1,sv l.2.2]] h λr h'=>r=.ret (iv (idx K l:Int))/\h'=(h.set id (.mk v0 ty 2 [B,.own ik (bump K l v) (addK K l).length])).set ik (.mk (bump K l v) 27 3 (rows Ih (addK K l))):=by
 have hid:id<h.length:=(List.getElem?_eq_some_iff.1 h1).1;have hik:ik<h.length:=(List.getElem?_eq_some_iff.1 h2).1;refine tJ' k96 λN hn hlt _ hbd=>?_;simp only[tb'] at hbd ⊢;rw[hn] at hB;have hik':ik<N:=by omega
 refine Gg (h1:=(h.set id (.mk v0 ty 2 [B,.own ik v K.length])).set ik (.mk v 27 3 (rows Ih K))++[]) (by rw[I8 h1 h2]) ?_;refine wr'<|E' (Bq cv rfl (hl0 (Bu hn)) ha0) pt<|ms<|Ab<|Bl<|Dw vm<|Dw (Cr lk)<|dg<|Dw (Aa lk (Dx hne hid) gt1)<|Dw (Ak lk (hga (Bu hn) rfl) Ap rfl)<|?_;refine Br mp (λhE hX=>index_a (K:=K) (l:=l) (hX ik _ (F1 hik))) pt ?_;refine Dw vm<|Bi<|?_;refine B9 ?_;refine sn'<|Ab<|wm<|Vw (Bm lk lki)<|sn'<|?_;refine cd' lk (λhc1=>?_) (λhc1=>?_)
 .have hno:¬idx K l<K.length:=by intro e;rw[if_pos e] at hc1;omega
  have ha:addK K l=K++[l]:=if_neg hno;have hb:bump K l v=v+1:=if_neg hno;have hi:idx K l=K.length:=by have:=idx_le K l;omega
  refine wm<|Vw (Cr lk)<|fq<|Vw (Aa lk (Dx hne hid) gt1)<|Vw (Ej lk)<|ms<|Bl<|Dw vm<|Dw vm<|Dw (Cr lk)<|?_;refine dg<|Dw (Aa lk (Dx hne hid) gt1)<|Dw (Ak lk (hga (Bu hn) rfl) Ap rfl)<|D5 rfl rfl (hlk (Bu hn) rfl) (G8 (D1 cw)) pt B2<|Bi<|?_;refine Eg J4 ?_;refine E' (C6 (C0 lk (hga (Bu hn) rfl) rfl Cn nb) lk (F1 hik) (V8 _) om rfl (Hs hik)) pt ?_;refine Vw (Cr lk)<|fq<|E' (Ai lk cv (Dx hne hid) rfl nb rfl Gi (Gp hne hid)) ptn<|sn'<|wm<|mr<|Ad rz<|?_;refine⟨_,_,rfl,Bu hn,Gf hlt (by simp[Ent.lt,AV.lt,AV.ltL, *]) (by simp[Ent.lt,AV.lt,AV.ltL,Ic,I3]),rfl,congrArg AE.ret (ivx om),?_⟩;rw[ha,hb,Bt,C3,List.length_append];rfl
 have hyes:idx K l<K.length:=Decidable.byContradiction (λe=>hc1 (by rw[if_neg e];omega));have ha:addK K l=K:=if_pos hyes;have hb:bump K l v=v:=if_pos hyes;refine za<|wm<|mr<|Ad rz<|?_;refine⟨_,_,rfl,Bu hn,Gf hlt (by simp[Ent.lt,AV.lt,AV.ltL, *]) (by simp[Ent.lt,Ic]),rfl,congrArg AE.ret (ivx (by rw[if_pos hyes])),?_⟩;rw[ha,hb]
end
section
open Go.Ab Civ
attribute [local simp] Cp Um Ic aR I3
def k53:=Kx 53 []
def k51:=Kx 51 []
def k54:=Kx 54 []
def k50:=Kx 50 []
abbrev sb (S:List UInt8):AV:=sv ⟨S.toArray⟩
def tkR (n:Nat) (S:List UInt8):List UInt8:=if S.length<n then [] else S.take n
def tkS (n:Nat) (S:List UInt8):List UInt8:=if S.length<n then [] else S.drop n
def tkB (n:Nat) (S:List UInt8) (sh:Bool):Bool:=if S.length<n then true else sh
def Ng (S:List UInt8):(⟨S.toArray⟩:ByteArray).size=S.length:=rfl
def sb_ext (S:List UInt8) (a b:Nat):(⟨S.toArray⟩:ByteArray).extract a b=⟨((S.take b).drop a).toArray⟩:=by
 apply ByteArray.ext;rw[ByteArray.data_extract];apply Array.ext';rw[Array.toList_extract,List.extract_eq_take_drop,List.drop_take]
def sb_at (S:List UInt8) (k:Nat):Dy ⟨S.toArray⟩ k=S.getD k 0:=rfl
def v_slsS {lo hi:Option Operand}{l u:Int}{a b:Nat}(hx:Ae T x=sb S) (hl:Dm (Ae T) 0 lo=some l) (hh:Dm (Ae T) S.length hi=some u) (ha:l=(a:Int)) (hb:u=(b:Int)) (h1:a<=b) (h2:b<=S.length):aval h (Ae T) (.sls x lo hi)=some (sb ((S.take b).drop a)):=by
 subst ha hb;rw[eZ hx hl hh om om (by rw[Ng];omega),sb_ext];rfl
def take_a {id:Nat}(h1:h[id]?=some (.mk v0 ty 3 [sb S,bv sh,KS])) (hK:KS.lt h.length=true) :
  ACalls Tryz.prog 53 [.ptr id v0 0,iv (n:Int)] h λr h'=>r=.ret (sb (tkR n S))/\h'=h.set id (.mk v0 ty 3 [sb (tkS n S),bv (tkB n S sh),KS]):=by
 have hid:id<h.length:=(List.getElem?_eq_some_iff.1 h1).1;refine tJ' k53 λN hn hlt _ hbd=>?_;simp only[tb'] at hbd ⊢;rw[hn] at hK;refine Gg (h1:=h.set id (.mk v0 ty 3 [sb S,bv sh,KS])++[]) (by rw[Hi h1]) ?_;refine wk'<|Ab<|wm<|Vw (Cr lk)<|fq<|Vw (Aa lk (I7 hid) gt0)<|Vw (E6 lk)<|mw<|?_;refine Vw (Bm lk lk)<|sn'<|?_;refine cd' lk (λhc1=>?_) (λhc1=>?_)
 .have hc1':S.length<n:=by rw[Ng] at hc1;omega
  refine wm<|mw<|Vw (Cr lk)<|fq<|E' (Ai lk (cvl lks rfl) (I7 hid) rfl nb rfl Ct (Oq hid)) ptn<|Vw (Cr lk)<|fq<|E' (Ai lk (cvl lkb rfl) (I7 hid) rfl nb rfl Gi (Oq hid)) ptn<|sn'<|wr'<|?_;refine mr<|Ag<|Ad rz<|?_;refine⟨_,_,rfl,I6 hn,Sp hlt (by simp[Ent.lt,AV.lt,AV.ltL, *]),rfl,?_,?_⟩;rw[tkR,if_pos hc1'];rw[tkS,tkB,if_pos hc1',if_pos hc1']
 have hc1':¬S.length<n:=by rw[Ng] at hc1;omega
 refine za<|wm<|Vw (Cr lk)<|fq<|Vw (Aa lk (I7 hid) gt0)<|mw<|?_;refine V' (v_slsS (a:=0) (b:=n) lk on_ (oi lk) rfl rfl om om) pt ?_;refine ms<|wm<|mw<|Vw (Cr lk)<|fq<|Vw (Aa lk (I7 hid) gt0)<|mw<|?_;refine V' (v_slsS (a:=n) (b:=S.length) lk (oi lk) on_ rfl rfl om om) pt ?_;refine Vw (Cr lk)<|fq<|E' (Ai lk cv (I7 hid) rfl nb rfl Ct (Oq hid)) ptn<|sn'<|wm<|mr<|Ad rz<|?_;refine⟨_,_,rfl,I6 hn,Sp hlt (by simp[Ent.lt,AV.lt,AV.ltL, *]),rfl,?_,?_⟩;rw[tkR,if_neg hc1',List.drop_zero];rw[tkS,tkB,if_neg hc1',if_neg hc1',List.take_length]
def Vr (n:Nat) (S:List UInt8):(tkR n S).length<=n:=by
 unfold tkR;split
 .simp
 rw[List.length_take];omega
def or8 {x b:Int}(hx0:0<=x) (hx1:x<1099511627776) (hb0:0<=b) (hb1:b<256):IntKind.i64.wrap (BitVec.ofInt 64 (256*x) ||| BitVec.ofInt 64 b).toNat=256*x+b:=by
 obtain⟨a,rfl⟩ : ∃ a:Nat,x=(a:Int):=⟨x.toNat,by omega⟩;obtain⟨c,rfl⟩ : ∃ c:Nat,b=(c:Int):=⟨b.toNat,by omega⟩;have e1:BitVec.ofInt 64 (256*(a:Int))=BitVec.ofNat 64 (a <<< 8):=by
  rw[Nat.shiftLeft_eq];have:(256*(a:Int))=((a*2 ^ 8:Nat):Int):=by omega
  rw[this,BitVec.ofInt_natCast]
 have e2:BitVec.ofInt 64 (c:Int)=BitVec.ofNat 64 c:=BitVec.ofInt_natCast 64 c;have h3:a <<< 8<2 ^ 64:=by rw[Nat.shiftLeft_eq];omega
 have h4:a <<< 8 ||| c=a <<< 8+c:=(Nat.shiftLeft_add_eq_or_of_lt om a).symm;rw[e1,e2,BitVec.toNat_or,BitVec.toNat_ofNat,BitVec.toNat_ofNat,Nat.mod_eq_of_lt h3,Nat.mod_eq_of_lt om,h4,Nat.shiftLeft_eq];rw[w64 om om];omega
def v_shl8 {y:Operand}{n:Int}{kd:IntKind}(hx:Ae T x=iv n) (hy:Ae T y=.v (.int kd 8)) (h0:0<=n) (h1:n<1099511627776):aval h (Ae T) (.bin .shl x y)=some (iv (256*n)):=Hl hx hy (by
 simp only[vBin];rw[if_neg om];have:(2:Int) ^ (min (8:Int).toNat IntKind.i64.bits)=256:=by decide
 rw[this,w64 om om,Int.mul_comm])
def v_or8 {y:Operand}{n b:Int}(hx:Ae T x=iv (256*n)) (hy:Ae T y=iv b) (h0:0<=n) (h1:n<1099511627776) (hb0:0<=b) (hb1:b<256):aval h (Ae T) (.bin .or x y)=some (iv (256*n+b)):=Hl hx hy (by
 simp only[vBin,if_true,iBin];have:=or8 h0 h1 hb0 hb1;rw[show IntKind.i64.bits=64 from rfl,this])
def Jd {id:Nat}(h1:h[id]?=some (.mk v0 ty 3 [sb S,bv sh,KS])) (hK:KS.lt h.length=true) (hn5:n<=5) :
  ACalls Tryz.prog 51 [.ptr id v0 0,iv (n:Int)] h λr h'=>r=.ret (iv (nm (tkR n S)))/\h'=h.set id (.mk v0 ty 3 [sb (tkS n S),bv (tkB n S sh),KS]):=by
 have hid:id<h.length:=(List.getElem?_eq_some_iff.1 h1).1;have hl:=Vr n S;refine tJ' k51 λN hn hlt _ hbd=>?_;simp only[tb'] at hbd ⊢;rw[hn] at hK;refine Gg (h1:=h.set id (.mk v0 ty 3 [sb S,bv sh,KS])++[]) (by rw[Hi h1]) ?_;refine wk'<|wm<|mw<|?_;refine H2 mp (take_a (I7 hid) (by simp[(I6 hn)];exact hK)) (Oq hid) pt ?_;refine ms<|wk'<|Ab<|wm<|Vw (E6 lk)<|?_;refine V' (Ch lk lki (by have:=hl;rw[Ng];omega) (by have:=hl;rw[Ng];omega)) pt ?_;refine ms<|Ah<|?_;refine It (ι:=Nat) (λ(k:Nat)=>[(6,iv (nm ((tkR n S).drop k))),(7,iv ((k:Int)-1))]++rn' 14 11) (λ(k:Nat)=>[]) (λ(k:Nat)=>k<=(tkR n S).length) (λ(k:Nat)=>k) ((tkR n S).length) (by exact Nat.le_refl _) (by try simp only[sm',Nat.reduceAdd];exact ALe.same (by repeat (first | exact wk0 | refine wka ?_ | refine wk1 rfl ?_ | refine wk1 (by first | rfl | exact ivx om | (simp[nm];done)) ?_)) rfl) ?_;rintro k hi1;try simp only[sm',Nat.reduceAdd]
 refine Ab<|wm<|Vw (Gz lk lki)<|sn'<|?_;refine cd' lk (λhc1=>?_) (λhc1=>?_)
 .have hk:0<k:=by omega
  have hb:=gO ((tkR n S).drop k);have hb2:nm ((tkR n S).drop k)<1099511627776:=by
   refine Int.lt_of_lt_of_le hb.2 ?_;have hq:((tkR n S).drop k).length<=5:=by rw[List.length_drop];omega
   have:(256:Int) ^ ((tkR n S).drop k).length<=256 ^ 5:=by exact_mod_cast Nat.pow_le_pow_right om hq
   omega
  have hby:=Wb ⟨(tkR n S).toArray⟩ ((k:Int)-1).toNat;refine za<|Ab<|Ah<|Aq<|mw<|Vw (v_shl8 lk lki hb.1 hb2)<|mw<|mw<|?_;refine V' (v_ix lk lk (by (try simp only[Ng]);omega) (by (try simp only[Ng]);omega)) pt ?_;refine V' (Vp lk om om) pt ?_;refine V' (v_or8 lk lk hb.1 hb2 hby.1 om) pt ?_;refine mw<|Am<|Aw<|An<|Aq<|mw<|?_;refine V' (Ch lk lki om om) pt ?_;refine mw<|Am<|Az<|?_;refine lU' (k-1) (by (try dsimp only);omega) (by refine zz ?_;exact ALe.same (by repeat (first | exact wk0 | refine wka ?_ | refine wk1 rfl ?_ | refine wk1 (by first | rfl | exact ivx om | (refine ivx ?_;rw[List.drop_eq_getElem_cons (show k-1<(tkR n S).length by omega),nm,sb_at,show ((k:Int)-1).toNat=k-1 by omega,show k-1+1=k by omega,List.getD_eq_getElem?_getD,List.getElem?_eq_getElem om];simp;omega)) ?_)) rfl)
 refine Bd<|As<|As<|Bp<|An<|wm<|mr<|Ad rz<|?_;have hk0:k=0:=by omega
 refine⟨_,_,rfl,I6 hn,Sp hlt (by simp[Ent.lt,AV.lt,AV.ltL, *]),rfl,?_,rfl⟩;rw[hk0,List.drop_zero]
def zl:Loc:=(0,0,⟨#[]⟩)
def lcR (K:List Loc) (S:List UInt8):Loc:=K.getD (nm (tkR 2 S)).toNat zl
def lcB (K:List Loc) (S:List UInt8) (sh:Bool):Bool:=if nm (tkR 2 S)<(K.length:Int) then tkB 2 S sh else true
def fP {K:List Loc}{id:Nat}(h1:h[id]?=some (.mk v0 ty 3 [sb S,bv sh,.sl K.length 3 false (rows Ih K)])) :
  ACalls Tryz.prog 54 [.ptr id v0 0] h λr h'=>r=.ret (.agg (Ih (lcR K S)))/\h'=h.set id (.mk v0 ty 3 [sb (tkS 2 S),bv (lcB K S sh),.sl K.length 3 false (rows Ih K)]):=by
 have hid:id<h.length:=(List.getElem?_eq_some_iff.1 h1).1;have hb:=gO (tkR 2 S);refine tJ' k54 λN hn hlt _ hbd=>?_;simp only[tb'] at hbd ⊢;refine Gg (h1:=h.set id (.mk v0 ty 3 [sb S,bv sh,.sl K.length 3 false (rows Ih K)])++[]) (by rw[Hi h1]) ?_;refine wr'<|E' (Bz (hl0 (I6 hn)) ha0) pt<|sn'<|wm<|?_;refine H2 mp (Jd (n:=2) (I7 hid) (by simp[AV.lt,Ic]) om) (Oq hid) pt ?_;refine ms<|Ab<|wm<|mw<|Vw (Cr lk)<|fq<|Vw (Aa lk (I7 hid) gt2)<|Vw (Bf lk)<|Vw (Gz lk lk)<|Am<|?_;refine An ?_;refine cd' lk (λhc1=>?_) (λhc1=>?_)
 .refine wm<|Vw (Cr lk)<|fq<|E' (Ai lk (cvl lkb rfl) (I7 hid) rfl nb rfl Gi (Oq hid)) ptn<|sn'<|wr'<|Vw (Bb Js)<|E' (Ai lk cv (hga (I6 hn) rfl) rfl nb rfl Bo (hs0 (I6 hn))) ptn<|sn'<|?_;refine C4<|Ag<|Ad (rs1 (rr_c gt (hga (I6 hn) rfl) (ld1 Ap rfl)))<|?_;have hc:¬nm (tkR 2 S)<(K.length:Int):=by omega
  refine⟨_,_,rfl,I6 hn,Sp hlt (by simp[Ent.lt,AV.lt,AV.ltL,Ic]),rfl,?_,?_⟩;have e1:lcR K S=zl:=by rw[lcR,List.getD_eq_getElem?_getD,List.getElem?_eq_none om];rfl
  rw[e1];rfl;rw[lcB,if_neg hc]
 refine za<|wm<|Vw (Cr lk)<|fq<|Vw (Aa lk (I7 hid) gt2)<|mw<|?_;refine V' (Bh (k:=(nm (tkR 2 S)).toNat) lk lk Mq nb ro om ro rfl) pt ?_;refine Vw (Ax lk Cn rfl)<|E' (Ai lk cv (hga (I6 hn) rfl) rfl nb rfl Bo (hs0 (I6 hn))) ptn<|sr<|Ad (rs1 (rr_c gt (hga (I6 hn) rfl) (ld1 Ap rfl)))<|?_;have hc:nm (tkR 2 S)<(K.length:Int):=by omega
 refine⟨_,_,rfl,I6 hn,Sp hlt (by simp[Ent.lt,AV.lt,AV.ltL,Ic]),rfl,?_,?_⟩;have e1:lcR K S=K[(nm (tkR 2 S)).toNat]'(by omega):=by rw[lcR,List.getD_eq_getElem?_getD,List.getElem?_eq_getElem om];rfl
 rw[e1];rw[lcB,if_pos hc]
def Oj (hn:n<=5) (S:List UInt8):0<=nm (tkR n S)/\nm (tkR n S)<1099511627776:=by
 have hb:=gO (tkR n S);have hl:=Vr n S;refine⟨hb.1,Int.lt_of_lt_of_le hb.2 ?_⟩;have:(256:Int) ^ (tkR n S).length<=256 ^ 5:=by exact_mod_cast Nat.pow_le_pow_right om om
 omega
def take_a' {id:Nat}{x:Int}(hx:x=(n:Int)) (h1:h[id]?=some (.mk v0 ty 3 [sb S,bv sh,KS])) (hK:KS.lt h.length=true) :
  ACalls Tryz.prog 53 [.ptr id v0 0,iv x] h λr h'=>r=.ret (sb (tkR n S))/\h'=h.set id (.mk v0 ty 3 [sb (tkS n S),bv (tkB n S sh),KS]):=by
 subst hx;exact take_a h1 hK
def Lw {σ:Type}(sh:σ->Bool) (step:σ->σ):Nat->σ->σ
 | 0,s=>s
 | m+1,s=>if sh s then s else Lw sh step m (step s)
def iB {σ:Type}{sh:σ->Bool}{step:σ->σ} : ∀ (m:Nat) {s:σ},sh s=true->Lw sh step m s=s
 | 0,_,_=>rfl
 | m+1,s,h=>by rw[Lw,if_pos h]
def iC {σ:Type}{sh:σ->Bool}{step:σ->σ}{m:Nat}{s:σ}(h:sh s=false):Lw sh step (m+1) s=Lw sh step m (step s):=by
 rw[Lw,if_neg (by rw[h];simp)]
def Zm {σ:Type}(H:σ->AH) (sh:σ->Bool) (step:σ->σ) (Inv:Nat->σ->Prop) {id:Nat}{f:FuncId}{caps:List AV}
  (hA : ∀ s,∃ a b,(H s)[id]?=some (.mk v0 ty 3 [a,bv (sh s),b])) (hI : ∀ k s,Inv (k+1) s->sh s=false->Inv k (step s))
  (hf : ∀ k s,Inv (k+1) s->sh s=false->ACalls Tryz.prog f caps (H s) λr h'=>r=.ret (.tup [])/\h'=H (step s)) {m:Nat} {x:Int} {s0:σ} (hx:x=(m:Int)) (hxb:x<=1099511627776) (h0:Inv m s0) :
  ACalls Tryz.prog 50 [.ptr id v0 0,iv x,.clo (.func f) caps] (H s0) λr h'=>r=.ret (.tup [])/\h'=H (Lw sh step m s0):=by
 subst hx;refine tN' k50 λN hn _ _ hbd=>?_;simp only[tb'] at hbd ⊢;refine Gg (h1:=H s0) (by simp) ?_;refine Ah ?_;refine Ll (ι:=Nat×σ) (λ⟨k,s⟩=>[(1,iv (k:Int))]++rn' 6 13) (λ⟨k,s⟩=>H s) (λ⟨k,s⟩=>Inv k s/\k<=m/\Lw sh step m s0=Lw sh step k s) (λ⟨k,s⟩=>k) (⟨m,s0⟩) (by exact⟨h0,Nat.le_refl _,rfl⟩) (by try simp only[sm',Nat.reduceAdd];exact ALe.same wA' rfl) ?_;rintro⟨k,s⟩ hi1;try simp only[sm',Nat.reduceAdd]
 obtain⟨hk1,hkm,hk2⟩:=hi1;obtain⟨xa,xb,hAs⟩:=hA s;refine Ab<|wm<|Vw (C7 lk lki)<|mw<|?_;refine sp' (t:=8) gt pt pt (λhg8=>?_) (λhg8=>?_)
 .refine sd<|mw<|sd<|Vw (Cr lk)<|sd<|fq<|sd<|Vw (Aa lk hAs gt)<|sd<|Vw (Bj lk)<|Vw (Ar lk lk)<|sn'<|?_;refine Bg lk (λhc1=>?_) (λhc1=>?_)
  .obtain⟨j,rfl⟩ : ∃ j,k=j+1:=⟨k-1,by omega⟩;have hs0:sh s=false:=by simpa using hc1
   refine za<|Ab<|Ah<|Aq<|mw<|s_callCh lk mp0 (hf j s hk1 hs0) pt<|Am<|Aw<|An<|Aq<|mw<|?_;refine V' (Ch lk lki om om) pt ?_;refine mw<|Am<|Az<|?_;refine lT' (⟨j,step s⟩) (by (try dsimp only);exact⟨hI j s hk1 hs0,by omega,by rw[hk2,iC hs0]⟩)
  refine Bd<|As<|As<|Bp<|Ul (rs0)<|?_;have hs1:sh s=true:=by simpa using hc1
  exact⟨rfl,by rw[hk2,iB _ hs1]⟩
 refine so<|so<|so<|so<|so<|Vw (Ao lk lkb)<|sn'<|Cf lk<|Bd<|As<|As<|Bp<|Ul (rs0)<|?_;have hk0:k=0:=by omega
 subst hk0;exact⟨rfl,by rw[hk2];rfl⟩
end
section
open Go.Ab Civ
attribute [local simp] Cp Um Ic aR I3
section
def Vm {τ:Operand->AV}{y0:Operand}{a:AV}(h0:Lf τ y0 [a]):Cm τ [(0,1,y0)] [(iv 0),(iv 0),(.v (.string ⟨#[]⟩))]=some [a,(iv 0),(.v (.string ⟨#[]⟩))]:=fl h0 rfl
end
def k52:=Kx 52 [.e [16] 7 [true,false,false,false]]
def c55:AC:=(Sr [Ld 3 0,Cl 4 51 [(t 3),(Ci 5)],Bc 5 .sub 4 274877906944,Mv 2 5] (.orPan (.drw [Fa 6 3 1,Oo 7 (.loadR false 1 (t 6)),Mv 8 2,Ld 9 0] [true,true,true,false,false,false] [Cl 10 54 [(t 9)],Oo 11 (.build [(iv 0),(iv 0),(iv 0),Ss] [(0,(1,(t 8))),(1,(3,(t 10)))]),Oo 12 (.lit 86 4 1 [(iv 0),(iv 0),(iv 0),Ss] [(0,(4,(t 11)))]),Oo 13 (.app 86 4 40 (t 7) (t 12)),Fa 14 3 1,Sc 14 13]) (t 9) 54 [Fa 6 3 1,Ld 7 6,Mv 8 2,Ld 9 0,Mv 10 9,Mb 11 false,Mb 12 false,Mb 13 false,Mb 14 false,⟨none,none,(.mv (.const (.bool false)))⟩] 10))
def k55:Em Tryz.prog 55=some ⟨c55,[],15⟩:=by kernel_rfl
def s1 (S:List UInt8):List UInt8:=tkS 3 S
def s2 (S:List UInt8):List UInt8:=tkS 2 (s1 S)
def s3 (S:List UInt8):List UInt8:=tkS 1 (s2 S)
def nl (S:List UInt8):Nat:=(nm (tkR 1 (s2 S))).toNat
def d1L (S:List UInt8):Loc:=(nm (tkR 3 S)-100000,nm (tkR 2 (s1 S)),⟨(tkR (nl S) (s3 S)).toArray⟩)
def d1S (S:List UInt8):List UInt8:=tkS (nl S) (s3 S)
def d1B (S:List UInt8) (sh:Bool):Bool:=tkB (nl S) (s3 S) (tkB 1 (s2 S) (tkB 2 (s1 S) (tkB 3 S sh)))
def d1_a {K:List Loc}{id:Nat}(h1:h[id]?=some (.mk v0 ty 3 [sb S,bv sh,.own ik v K.length])) (h2:h[ik]?=some (.mk v 27 3 (rows Ih K))) (hne:id≠ik) (hK:K.length<=1000000000) :
  ACalls Tryz.prog 52 [.rp [.ptr id v0 0]] h λr h'=>r=.ret (.tup [])/\h'=(h.set id (.mk v0 ty 3 [sb (d1S S),bv (d1B S sh),.own ik (v+1) (K++[d1L S]).length])).set ik (.mk (v+1) 27 3 (rows Ih (K++[d1L S]))):=by
 have hid:id<h.length:=(List.getElem?_eq_some_iff.1 h1).1;have hik:ik<h.length:=(List.getElem?_eq_some_iff.1 h2).1;have hb3:=Oj (n:=3) om S;have hb1:=Oj (n:=1) om (s2 S);refine tJ' k52 λN hn hlt _ hbd=>?_;simp only[tb'] at hbd ⊢;have hik':ik<N:=by omega
 refine Gg (h1:=(h.set id (.mk v0 ty 3 [sb S,bv sh,.own ik v K.length])).set ik (.mk v 27 3 (rows Ih K))++[]) (by rw[I8 h1 h2]) ?_;refine wr'<|Vw (Ba lk gt)<|?_;refine H2 mp (Jd (n:=3) (Dx hne hid) (by simp[AV.lt,(Bu hn)];omega) om) (Gp hne hid) pt ?_;refine V' (Ch lk lki om om) pt ?_;refine Vw (Bb (Vm cw))<|E' (Bz (hl0 (Bu hn)) ha0) pt<|E' (Ai lk cv (hga (Bu hn) rfl) rfl nb rfl Bo (hs0 (Bu hn))) ptn<|sn'<|wr'<|Vw (Ba lk gt)<|?_;refine H2 mp (Jd (n:=2) (Dx hne hid) (by simp[AV.lt,(Bu hn)];omega) om) (Gp hne hid) pt ?_;refine fq<|E' (Ai lk cv (hga (Bu hn) rfl) rfl nb rfl Gi (hs0 (Bu hn))) ptn<|sn'<|wr'<|Vw (Ba lk gt)<|?_;refine H2 mp (Jd (n:=1) (Dx hne hid) (by simp[AV.lt,(Bu hn)];omega) om) (Gp hne hid) pt ?_;refine ms<|wr'<|Vw (Ba lk gt)<|mw<|?_;refine H2 mp (take_a' (n:=nl S) (by have:=hb1.1;simp only[nl,s2,s1] at *;omega) (Dx hne hid) (by simp[AV.lt,(Bu hn)];omega)) (Gp hne hid) pt ?_;refine fq<|E' (Ai lk cv (hga (Bu hn) rfl) rfl nb rfl Lj (hs0 (Bu hn))) ptn<|sn'<|Bl<|d_ldR lk rfl pt<|Dw (Ba lk gt)<|Dw (Cr lk)<|dg<|Dw (Aa lk (Dx hne hid) gt2)<|Dw (Ak lk (hga (Bu hn) rfl) Ap rfl)<|D5 rfl rfl (hlk (Bu hn) rfl) (G8 (D1 cw)) pt B2<|Bi<|?_;refine Eg J4 ?_;refine E' (C6 (C0 lk (hga (Bu hn) rfl) rfl Cn nb) lk (F1 hik) (V8 _) om rfl (Hs hik)) pt ?_;refine Vw (Cr lk)<|fq<|E' (Ai lk cv (Dx hne hid) rfl nb rfl Lj (Gp hne hid)) ptn<|Am<|Ul (rs0)<|?_;refine⟨_,_,rfl,Bu hn,Gf hlt (by simp[Ent.lt,AV.lt,AV.ltL, *]) (by simp[Ent.lt,AV.lt,AV.ltL,Ic,I3]),rfl,rfl,?_⟩;rw[Bt,C3,List.length_append];rfl
def pK {a:Ent}(hij:i≠j) (hik:i≠k) (hi:i<h.length):(((h.set i a).set j b).set k c++E)[i]?=some a:=by
 rw[List.getElem?_append_left (by simpa using hi),List.getElem?_set_ne (Ne.symm hik),List.getElem?_set_ne (Ne.symm hij),List.getElem?_set_self hi]
def P7 {a:Ent}(hjk:j≠k) (hj:j<h.length):(((h.set i a).set j b).set k c++E)[j]?=some b:=by
 rw[List.getElem?_append_left (by simpa using hj),List.getElem?_set_ne (Ne.symm hjk),List.getElem?_set_self (by simpa using hj)]
def hx3_at3 {a:Ent}(hk:k<h.length):(((h.set i a).set j b).set k c++E)[k]?=some c:=by
 rw[List.getElem?_append_left (by simpa using hk),List.getElem?_set_self (by simpa using hk)]
def iN {a a':Ent}(hij:i≠j) (hik:i≠k) (hi:i<h.length):(((h.set i a).set j b).set k c++E).set i a'=((h.set i a').set j b).set k c++E:=by
 rw[List.set_append_left _ _ (by simpa using hi),List.set_comm _ _ (Ne.symm hik),List.set_comm _ _ (Ne.symm hij),List.set_set]
def hx3_set2 {a b':Ent}(hjk:j≠k) (hj:j<h.length):(((h.set i a).set j b).set k c++E).set j b'=((h.set i a).set j b').set k c++E:=by
 rw[List.set_append_left _ _ (by simpa using hj),List.set_comm _ _ (Ne.symm hjk),List.set_set]
def hx3_set3 {a c':Ent}(hk:k<h.length):(((h.set i a).set j b).set k c++E).set k c'=((h.set i a).set j b).set k c'++E:=by
 rw[List.set_append_left _ _ (by simpa using hk),List.set_set]
def dR {a:Ent}(hn:h.length=n):(((h.set i a).set j b).set k c).length=n:=by simpa using hn
def hx3_lt {a:Ent}(hlt : ∀ x∈h,x.lt n=true) (ha:a.lt n=true) (hb:b.lt n=true) (hc:c.lt n=true) : ∀ x∈((h.set i a).set j b).set k c,x.lt n=true:=Sp (Gf hlt ha hb) hc
def d2C (K:List Loc) (S:List UInt8):Chg:=(nm (tkR 5 S)-274877906944,lcR K (tkS 5 S))
def d2S (S:List UInt8):List UInt8:=tkS 2 (tkS 5 S)
def d2B (K:List Loc) (S:List UInt8) (sh:Bool):Bool:=lcB K (tkS 5 S) (tkB 5 S sh)
def d2_a {K:List Loc}{C:List Chg}{x y:Int}{z:ByteArray}{id it ic v1 ty':Nat}(h1:h[id]?=some (.mk v0 ty 3 [sb S,bv sh,.sl K.length 3 false (rows Ih K)])) (h2:h[it]?=some (.mk v1 ty' 4 [iv x,iv y,sv z,.own ic v C.length])) (h3:h[ic]?=some (.mk v 86 4 (rows chgC C)))
  (n12:id≠it) (n13:id≠ic) (n23:it≠ic) (hC:C.length<=1000000000) :
  ACalls Tryz.prog 55 [.rp [.ptr id v0 0],.ptr it v1 0] h λr h'=>r=.ret (.tup [])/\h'=((h.set id (.mk v0 ty 3 [sb (d2S S),bv (d2B K S sh),.sl K.length 3 false (rows Ih K)])).set it (.mk v1 ty' 4 [iv x,iv y,sv z,.own ic (v+1) (C++[d2C K S]).length])).set ic (.mk (v+1) 86 4 (rows chgC (C++[d2C K S]))):=by
 have i1:id<h.length:=(List.getElem?_eq_some_iff.1 h1).1;have i2:it<h.length:=(List.getElem?_eq_some_iff.1 h2).1;have i3:ic<h.length:=(List.getElem?_eq_some_iff.1 h3).1;have hb5:=Oj (n:=5) om S;refine tJ' k55 λN hn hlt _ hbd=>?_;simp only[tb'] at hbd ⊢;have i3':ic<N:=by omega
 refine Gg (h1:=((h.set id (.mk v0 ty 3 [sb S,bv sh,.sl K.length 3 false (rows Ih K)])).set it (.mk v1 ty' 4 [iv x,iv y,sv z,.own ic v C.length])).set ic (.mk v 86 4 (rows chgC C))++[]) (by rw[Hi h1,Hi h2,Hi h3]) ?_;refine wr'<|Vw (Ba lk gt)<|?_;refine H2 mp (Jd (n:=5) (pK n12 n13 i1) (by simp[AV.lt,Ic]) om) (iN n12 n13 i1) pt ?_;refine V' (Ch lk lki om om) pt ?_;refine ms<|w_orl<|Qr [it]<|dg<|?_;refine d_ldP lk (P7 n23 i2) (ld0 gt) (by simp) pt ?_;refine Dw vm<|Dw (Ba lk gt)<|Bi<|P4<|?_;refine dM mp (fP (K:=K) (pK n12 n13 i1)) (iN n12 n13 i1) (by intro i hi;simp only[cond_true,List.mem_cons,List.not_mem_nil,or_false] at hi;subst hi;exact (P7 n23 i2).trans (P7 n23 i2).symm) pt ?_;refine Uz rfl (Bb (Eo cw cw)) pt ?_;refine U5 rfl rfl (Ep (Gb cw) (hl0 (dR hn)) ha0) (by intro i hi;simp only[cond_true,List.mem_cons,List.not_mem_nil,or_false] at hi;subst hi;exact (P7 n23 i2).trans (P7 n23 i2).symm) pt ?_;refine U5 rfl rfl (C6 (C0 lk (hga (dR hn) rfl) rfl Bv nb) lk (hx3_at3 i3) (Cu _) om rfl (hx3_set3 i3)) (by intro i hi;simp at hi) pt ?_;refine Uz rfl (G0 lk) pt ?_;refine U5 rfl rfl (Ai lk cv (P7 n23 i2) rfl nb rfl If (hx3_set2 n23 i2)) (by intro i hi;simp at hi) ptn ?_;refine U4<|Ul (rs0)<|?_;refine⟨_,_,rfl,dR hn,hx3_lt hlt (by simp[Ent.lt,AV.lt,AV.ltL,Ic]) (by simp[Ent.lt,AV.lt,AV.ltL, *]) (by simp[Ent.lt,AV.lt,AV.ltL,Cp,I3]),rfl,rfl,?_⟩;rw[Bt,C3,List.length_append];rfl
end
section
open Go.Ab Civ
attribute [local simp] Cp Um Ic aR I3
def k49:=Kx 49 [.e [] 7 [false,false,false,false]]
def k19:=Kx 19 []
def encL_len (l:Loc):(encL l).length=6+l.2.2.data.toList.length:=by simp[encL,Me];omega
def encC_len (p:Chg×Nat):(encC p).length=7:=by simp[encC,Me]
def aX {α:Type}(f:α->List UInt8) {l:List α}(hk:k<l.length):(l.take (k+1)).flatMap f=(l.take k).flatMap f++f l[k]:=by
 rw[List.take_succ_eq_append_getElem hk,List.flatMap_append,List.flatMap_cons,List.flatMap_nil,List.append_nil]
def eT {l:List Chg}{I:List Nat}(hk:k<l.length) (hI:I.length=l.length):((l.zip I).take (k+1)).flatMap encC=((l.zip I).take k).flatMap encC++encC (l[k],I[k]'(by omega)):=by
 rw[aX encC (by rw[List.length_zip];omega)];congr 2;simp
def zip_len {l:List Chg}{I:List Nat}{k:Nat}(hk:k<=l.length) (hI:I.length=l.length):(((l.zip I).take k).flatMap encC).length=7*k:=by
 induction k with
 | zero=>simp
 | succ k ih=>rw[eT om hI,List.length_append,encC_len,ih om];omega
end
end Go.Proofs.YtfcecekilahfiaaGreatDoor
