/-
  Part 4 of the proof: own lemmas and contracts on plain data. No condition beyond those that each lemma states.
-/
import Derived.Test.YthdifaphoaekoaaGreatDoorZU3
import Derived.ProofKit
import Derived.Carry
import Derived.Lib.SmallJoins
import Derived.Deep.Slices
import Derived.Test.YthdifaphoaekoaaGreatDoorCards
import Derived.Test.YthdifaphoaekoaaGreatDoorTie
import Derived.Lay
import Derived.Handed
import Derived.SizedLaws
import Derived.Shelf.Vars
import Derived.SevenTiedAt
import Derived.LaidSub
import Derived.MakeChecks
set_option linter.all false
set_option maxRecDepth 1000000
set_option maxHeartbeats 4000000
section
namespace Go.Proofs.YthdifaphoaekoaaGreatDoor
open Go.Ab Go.RowKit Civ
theorem pt_format:PT Zhr (fun s=>s.size≤24):=by
 intro t ho
 have h:=Zbg ho (s:=(ZaR t).1) (u:=(ZaR t).2) rfl
 unfold Zhr
 refine ⟨h.1,?_⟩
 dsimp only;split
 ·exact h.2
 ·exact h.2
theorem pt_until:PT ZgN (fun _=>True) :=
 pt_year.bind fun y _=>pt_month.bind fun m _=>pt_day.bind fun d _=>(Zm9 2).bind fun c _=>PT.bind (P:=fun _=>True) (fun t ho=>⟨trivial,by unfold ZpA;dsimp only;split <;> exact ho⟩) fun _ _=>PT.ret trivial
theorem pt_end:PT tEnd (fun _=>True):=by
 intro t ho
 refine ⟨trivial,?_⟩
 unfold tEnd
 split
 ·exact ho
 ·exact (pt_until t ho).2
theorem pt_era:PT tEra Zp8 :=
 pt_shift.bind fun sh _=>pt_rules.bind fun r h1=>pt_format.bind fun f h2=>pt_end.bind fun u _=>PT.ret ⟨ZhL h1,ZhL h2⟩
theorem ZkO {s:Src}{x:Era}(h:ZdY s) (hx:Zp8 x):ZdY (Zcr s x).1:=by
 refine ⟨h.1,?_,h.2.2⟩
 show ∀ z∈ZnQ s.2.1 x,_
 obtain ⟨a,z,l⟩:=s
 have h2:=h.2.1
 simp only at h2 ⊢
 rcases List.eq_nil_or_concat z with rfl | ⟨i,y,rfl⟩
 ·intro z hz;cases hz
 ·rw [List.concat_eq_append,Zfx]
  intro z hz
  rcases List.mem_append.1 hz with hz | hz
  ·exact h2 z (by rw [List.concat_eq_append];exact List.mem_append_left _ hz)
  ·rw [List.mem_singleton] at hz
   subst hz
   have hy:=h2 y (by rw [List.concat_eq_append];simp)
   refine ⟨hy.1,fun e he=>?_⟩
   rcases List.mem_append.1 he with he | he
   ·exact hy.2 e he
   ·rw [List.mem_singleton] at he;subst he;exact hx
theorem pt_body {p:PS}(h:ZdY p.1):PT (Zeo p) (fun q=>ZdY q.1):=by
 unfold Zeo
 split
 ·exact pt_era.bind fun x hx=>PT.ret (ZkO h hx)
 ·refine pt_next.bind fun w _=>?_
  split
  ·refine pt_rule.bind fun r hr=>PT.ret ⟨fun y hy=>?_,h.2.1,h.2.2⟩
   rcases List.mem_append.1 hy with hy | hy
   ·exact h.1 y hy
   ·rw [List.mem_singleton] at hy;subst hy;exact hr
  ·split
   ·refine pt_name.bind fun n hn=>pt_era.bind fun x hx=>PT.ret (ZkO ⟨h.1,fun y hy=>?_,h.2.2⟩ hx)
    rcases List.mem_append.1 hy with hy | hy
    ·exact h.2.1 y hy
    ·rw [List.mem_singleton] at hy;subst hy;exact ⟨ZhL hn,fun e he=>by cases he⟩
   ·split
    ·refine pt_name.bind fun a ha=>pt_name.bind fun b hb=>PT.ret ⟨h.1,h.2.1,fun y hy=>?_⟩
     rcases List.mem_append.1 hy with hy | hy
     ·exact h.2.2 y hy
     ·rw [List.mem_singleton] at hy;subst hy;exact ⟨ZhL ha,ZhL hb⟩
    ·exact fun t ho=>⟨h,ho⟩
theorem Za4 {p q:PS}{x:Ln}{u:TS}(hB:Zeo p (x.2.2,false)=(q,u)) (h:u.2=true∨u.1≠[]∨x.2.1≠p.2):ZkW p x=none:=Zqp (by unfold badT;rw [hB];exact h)
theorem Zdc {p q:PS}{x:Ln}{u:TS}(hB:Zeo p (x.2.2,false)=(q,u)) (h1:u.2=false) (h2:u.1=[]) (h3:x.2.1=p.2):ZkW p x=some q:=by
 have:=lineR_ok (p:=p) (x:=x) (by unfold badT;rw [hB];simp [h1,h2,h3])
 rw [this,hB]
def curS (s:Src) (o:Option Zon):Src:=(s.1,s.2.1++o.toList,s.2.2)
theorem ZeJ {s:Src}:curS s none=s:=by unfold curS;simp
def zC (N v:Nat):Option Zon→List AV
 | none=>[]
 | some z=>[sv z.1,.own (N+5) v z.2.length]
def eC:Option Zon→List Era
 | none=>[]
 | some z=>z.2
theorem Zqk {n:Nat}{b:List AV}(hb:AV.ltL n b=true) : ∀ {a:List AV},AV.ltL n a=true→AV.ltL n (a++b)=true
 | [],_=>hb
 | x::a,h=>by
  simp only [List.cons_append,AV.ltL,Bool.and_eq_true] at h ⊢
  exact ⟨h.1,Zqk hb h.2⟩
theorem Zgh {N v:Nat}{l:List Zon}{o:Option Zon}:AV.ltL (N+6) (rows zonC l++zC N v o)=true:=by
 refine Zqk ?_ (Zbn l)
 cases o <;> simp [zC,AV.ltL,AV.lt]
theorem Zkh {N v:Nat}{l:List Zon}{o:Option Zon}:(rows zonC l++zC N v o).length=(l.length+o.toList.length)*2:=by
 rw [List.length_append,Zgg]
 cases o <;> simp [zC] <;> omega
theorem zc_at {l:List Zon}{a b:AV}{off:Nat}(h:off=l.length*2+1):(rows zonC l++[a,b])[off]?=some b:=by
 subst h
 rw [List.getElem?_append_right (by rw [Zgg];omega),Zgg,Nat.add_sub_cancel_left];rfl
theorem zc_set {l:List Zon}{a b c:AV}{off:Nat}(h:off=l.length*2+1):setCells (rows zonC l++[a,b]) off [c]=rows zonC l++[a,c]:=by
 subst h
 simp only [setCells]
 rw [List.set_append_right _ _ (by rw [Zgg];omega),Zgg,Nat.add_sub_cancel_left];rfl
theorem zc_put {l:List Zon}{a b c:AV}:aPut (rows zonC l++[a,b]) (some (l.length*2+1)) c=rows zonC l++[a,c]:=zc_set rfl
theorem zc_at2 {l:List Zon}{N v:Nat}{a b:AV}{off:Nat}(h:off=l.length*2+1):(rows zonC l++zC N v none++[a,b])[off]?=some b:=by
 rw [show rows zonC l++zC N v none=rows zonC l from List.append_nil _];exact zc_at h
theorem zc_put2 {l:List Zon}{N v:Nat}{a b c:AV}:aPut (rows zonC l++zC N v none++[a,b]) (some (l.length*2+1)) c=rows zonC l++[a,c]:=by
 rw [show rows zonC l++zC N v none=rows zonC l from List.append_nil _];exact zc_put
theorem Zkw {s:ByteArray} : ∀ x∈(ZbU s).1,∀ f∈x.2.2,f.size≤24:=by
 intro x hx f hf
 have h:=ZlO x hx
 unfold Zod at h
 split at h
 ·cases h
 ·split at h
  ·cases h
  ·have : ∀ {fs:List ByteArray},ZiQ fs=0 → ∀ f∈fs,Zfk f=0:=by
    intro fs
    induction fs with
    | nil=>intro _ f hf;cases hf
    | cons g fs ih =>
     intro h f hf
     rw [ZiQ] at h
     split at h
     ·rename_i h1;exact absurd h h1
     ·rename_i h1
      rcases List.mem_cons.1 hf with rfl | hf
      ·exact Decidable.of_not_not h1
      ·exact ih h f hf
   exact (Zol (this h f hf)).2
theorem ZpD {s:ByteArray}:(ZbU s).1.length≤200:=by
 unfold ZbU
 split
 ·simp
 ·split
  ·rename_i h2;rw [ZiG h2];simp
  ·split
   ·simp
   ·omega
end Go.Proofs.YthdifaphoaekoaaGreatDoor
end
section
namespace Go.Proofs.YthdifaphoaekoaaGreatDoor
open Go.Ab Go.RowKit Civ
attribute [local simp] Zbl Zby Zbn Zbr ZbN Zft Zgh
section
theorem Zic {τ:Operand→AV}:Zau τ [] [(.sl 0 0 true []),(.sl 0 0 true []),(.sl 0 0 true [])]=some [(.sl 0 0 true []),(.sl 0 0 true []),(.sl 0 0 true [])]:=rfl
theorem ZaX {a0 a1 a2 c0 c1 c2:AV}{l:List AV}:setCells (a0::a1::a2::l) 0 [c0,c1,c2]=c0::c1::c2::l:=rfl
theorem ZaS {a0 a1 a2:AV}{l:List AV}:((a0::a1::a2::l).drop 0).take 3=[a0,a1,a2]:=rfl
theorem Zib {τ:Operand→AV}{y0:Operand}{x0_0:AV}(h0:Zaw (τ y0)=some [x0_0]) (l0:[x0_0].all leaf=true):Zau τ [(0,1,y0)] [(.sl 0 0 true []),(.v (.bool false))]=some [x0_0,(.v (.bool false))]:=by
 simp only [Zau,h0,l0]
 rfl
theorem Zi8 {a0 a1 c0 c1:AV}{l:List AV}:setCells (a0::a1::l) 0 [c0,c1]=c0::c1::l:=rfl
theorem Zh9 {τ:Operand→AV}{y0:Operand}{x0_0 x0_1 x0_2 x0_3 x0_4 x0_5 x0_6 x0_7 x0_8 x0_9 x0_10:AV}(h0:Zaw (τ y0)=some [x0_0,x0_1,x0_2,x0_3,x0_4,x0_5,x0_6,x0_7,x0_8,x0_9,x0_10]) (l0:[x0_0,x0_1,x0_2,x0_3,x0_4,x0_5,x0_6,x0_7,x0_8,x0_9,x0_10].all leaf=true):Zau τ [(0,11,y0)] [(.v (.string ⟨#[]⟩)),(.v (.int .i64 0)),(.v (.int .i64 0)),(.v (.int .i64 0)),(.v (.int .i64 0)),(.v (.int .i64 0)),(.v (.int .i64 0)),(.v (.int .i64 0)),(.v (.int .i64 0)),(.v (.int .i64 0)),(.v (.string ⟨#[]⟩))]=some [x0_0,x0_1,x0_2,x0_3,x0_4,x0_5,x0_6,x0_7,x0_8,x0_9,x0_10]:=by
 simp only [Zau,h0,l0]
 rfl
theorem ZoP {a0 a1 a2 a3 a4 a5 a6 a7 a8 a9 a10:AV}{l:List AV}:(a0::a1::a2::a3::a4::a5::a6::a7::a8::a9::a10::l).take 11=[a0,a1,a2,a3,a4,a5,a6,a7,a8,a9,a10]:=rfl
theorem Zi9 {a0 c0:AV}{l:List AV}:setCells (a0::l) 0 [c0]=c0::l:=rfl
theorem ZaE {τ:Operand→AV}:Zau τ [] [(.sl 0 0 true []),(.sl 0 0 true []),(.sl 0 0 true [])]=some [(.sl 0 0 true []),(.sl 0 0 true []),(.sl 0 0 true [])]:=rfl
theorem Zh8 {τ:Operand→AV}{y0:Operand}{x0_0:AV}(h0:Zaw (τ y0)=some [x0_0]) (l0:[x0_0].all leaf=true):Zau τ [(0,1,y0)] [(.v (.string ⟨#[]⟩)),(.sl 0 0 true [])]=some [x0_0,(.sl 0 0 true [])]:=by
 simp only [Zau,h0,l0]
 rfl
theorem Zh6 {a0 a1 a2 a3 a4 a5 a6 a7 a8 a9 c0 c1 c2 c3 c4 c5 c6 c7 c8 c9:AV}{l:List AV}:setCells (a0::a1::a2::a3::a4::a5::a6::a7::a8::a9::l) 0 [c0,c1,c2,c3,c4,c5,c6,c7,c8,c9]=c0::c1::c2::c3::c4::c5::c6::c7::c8::c9::l:=rfl
theorem Zh5 {a0 a1 a2 a3 a4 a5 a6 a7 a8 a9:AV}{l:List AV}:((a0::a1::a2::a3::a4::a5::a6::a7::a8::a9::l).drop 0).take 10=[a0,a1,a2,a3,a4,a5,a6,a7,a8,a9]:=rfl
theorem Zh7 {τ:Operand→AV}{y0:Operand}{x0_0 x0_1 x0_2 x0_3 x0_4 x0_5 x0_6 x0_7 x0_8 x0_9:AV}(h0:Zaw (τ y0)=some [x0_0,x0_1,x0_2,x0_3,x0_4,x0_5,x0_6,x0_7,x0_8,x0_9]) (l0:[x0_0,x0_1,x0_2,x0_3,x0_4,x0_5,x0_6,x0_7,x0_8,x0_9].all leaf=true):Zau τ [(0,10,y0)] [(.v (.int .i64 0)),(.v (.string ⟨#[]⟩)),(.v (.int .i64 0)),(.v (.string ⟨#[]⟩)),(.v (.bool false)),(.v (.int .i64 0)),(.v (.int .i64 0)),(.v (.int .i64 0)),(.v (.int .i64 0)),(.v (.int .i64 0))]=some [x0_0,x0_1,x0_2,x0_3,x0_4,x0_5,x0_6,x0_7,x0_8,x0_9]:=by
 simp only [Zau,h0,l0]
 rfl
theorem Zi6 {a0 a1 a2 a3 a4 a5 a6 a7 a8 a9:AV}{l:List AV}:(a0::a1::a2::a3::a4::a5::a6::a7::a8::a9::l).take 10=[a0,a1,a2,a3,a4,a5,a6,a7,a8,a9]:=rfl
theorem Ze9 {a0 a1 c0:AV}{l:List AV}:setCells (a0::a1::l) 1 [c0]=a0::c0::l:=rfl
theorem Zi7 {a0 a1:AV}{l:List AV}:((a0::a1::l).drop 0).take 2=[a0,a1]:=rfl
theorem Zg6 {τ:Operand→AV}{y0:Operand}{x0_0 x0_1:AV}(h0:Zaw (τ y0)=some [x0_0,x0_1]) (l0:[x0_0,x0_1].all leaf=true):Zau τ [(0,2,y0)] [(.v (.string ⟨#[]⟩)),(.sl 0 0 true [])]=some [x0_0,x0_1]:=by
 simp only [Zau,h0,l0]
 rfl
theorem Zrm {h:AH}{n:Nat}(hn:h.length=n) {e0 e1 e2 e3 e4 e5 e6 e7 e8 e9:Ent}:(h++[e0,e1,e2,e3,e4,e5,e6,e7,e8,e9]).length=n+10:=by subst hn;simp
theorem Zrn {h:AH}{e0 e1 e2 e3 e4 e5 e6 e7 e8 e9 e:Ent}:(h++[e0,e1,e2,e3,e4,e5,e6,e7,e8,e9])++[e]=h++[e0,e1,e2,e3,e4,e5,e6,e7,e8,e9,e]:=by simp
theorem Zlr {a0 a1:AV}{l:List AV}:(a0::a1::l).take 2=[a0,a1]:=rfl
theorem Zg5 {τ:Operand→AV}{y0:Operand}{x0_0 x0_1:AV}(h0:Zaw (τ y0)=some [x0_0,x0_1]) (l0:[x0_0,x0_1].all leaf=true):Zau τ [(0,2,y0)] [(.v (.string ⟨#[]⟩)),(.v (.string ⟨#[]⟩))]=some [x0_0,x0_1]:=by
 simp only [Zau,h0,l0]
 rfl
theorem ZoQ {a0 a1 a2 c0:AV}{l:List AV}:setCells (a0::a1::a2::l) 2 [c0]=a0::a1::c0::l:=rfl
theorem Zia {τ:Operand→AV}{y0:Operand}{x0_0 x0_1 x0_2 x0_3 x0_4 x0_5 x0_6 x0_7 x0_8 x0_9:AV}(h0:Zaw (τ y0)=some [x0_0,x0_1,x0_2,x0_3,x0_4,x0_5,x0_6,x0_7,x0_8,x0_9]) (l0:[x0_0,x0_1,x0_2,x0_3,x0_4,x0_5,x0_6,x0_7,x0_8,x0_9].all leaf=true):Zau τ [(0,10,y0)] [(.v (.int .i64 0)),(.v (.string ⟨#[]⟩)),(.v (.int .i64 0)),(.v (.string ⟨#[]⟩)),(.v (.bool false)),(.v (.int .i64 0)),(.v (.int .i64 0)),(.v (.int .i64 0)),(.v (.int .i64 0)),(.v (.int .i64 0))]=some [x0_0,x0_1,x0_2,x0_3,x0_4,x0_5,x0_6,x0_7,x0_8,x0_9]:=by
 simp only [Zau,h0,l0]
 rfl
theorem Zrl { e:Ent}:([]:AH)++[e]=[e]:=rfl
theorem ZoR {e0 e1 e2 e3 e4 e5 e6 e7 d0:Ent}:([e0,e1,e2,e3,e4,e5,e6,e7]:AH)++[d0]=[e0,e1,e2,e3,e4,e5,e6,e7,d0]:=rfl
theorem Zg4 {τ:Operand→AV}:Zau τ [] [(.sl 0 0 true []),(.sl 0 0 true []),(.sl 0 0 true [])]=some [(.sl 0 0 true []),(.sl 0 0 true []),(.sl 0 0 true [])]:=rfl
theorem Zg3 {τ:Operand→AV}:Zau τ [] [(.sl 0 0 true []),(.sl 0 0 true []),(.sl 0 0 true [])]=some [(.sl 0 0 true []),(.sl 0 0 true []),(.sl 0 0 true [])]:=rfl
end
def c84:AC:=(Sr [Oo 2 (.new 26 3 [(.sl 0 0 true []),(.sl 0 0 true []),(.sl 0 0 true [])]),Mc 3 0,Mc 4 0] (Sr [Mv 20 0,Cl 21 131 [(.tmp 20)],Mv 19 21,Ex 22 19 0,Ex 23 19 1,Ex 24 19 2,Mv 5 22,Mv 6 23,Mv 7 24] (.seq (Sr [Mv 25 7,Bc 26 .neq 25 0] (Cd 26 (Sr [Oo 27 (.build [(.sl 0 0 true []),(.sl 0 0 true []),(.sl 0 0 true [])] []),Mv 28 6,Mv 29 7,⟨none,none,(.store 3 (.tmp 2) (.tmp 27))⟩,Mv 3 28,Mv 4 29] .ret) .skip)) (Sr [Oo 8 (.new 26 3 [(.sl 0 0 true []),(.sl 0 0 true []),(.sl 0 0 true [])])] (Sr [Mb 9 false] (.seq (Sr [Mc 10 0] (.block 0 (.loop (.seq (Sr [Mv 30 10,Mv 31 5,Oo 32 (.len false (.tmp 31)),Bn 33 .lss 30 32] (Cd 33 .skip (.exit 0))) (.seq (.block 1 (Sr [Mv 36 5,Mv 37 10,Oo 38 (.ia 3 (.tmp 36) (.tmp 37)),Fa 39 2 38,Ld 40 39,Oo 41 (.build [(.sl 0 0 true []),(.v (.bool false))] [(0,(1,(.tmp 40)))]),Oo 11 (.new 175 2 [(.sl 0 0 true []),(.v (.bool false))]),⟨none,none,(.store 2 (.tmp 11) (.tmp 41))⟩] (Sr [Mv 42 9,Mv 12 42] (Sr [Ms 13] (.seq (Sr [Mv 43 9,Oo 44 (.un .not (.tmp 43))] (Cd 44 (.reg [Cl 45 132 [(.tmp 11)],Mv 13 45]) .skip)) (.seq (.block 2 (Sr [Mv 48 9,Mv 47 48] (Cd 47 (Sr [Fa 49 1 8,Ld 50 49,Oo 51 (.len false (.tmp 50)),Bc 52 .sub 51 1,Mv 14 52] (Sr [Cl 53 133 [(.tmp 11)],Oo 15 (.new 67 10 [(iv 0),Ss,(iv 0),Ss,(.v (.bool false)),(iv 0),(iv 0),(iv 0),(iv 0),(iv 0)]),⟨none,none,(.store 10 (.tmp 15) (.tmp 53))⟩] (.seq (.drw [Fa 54 1 8,Oo 55 (.loadR false 1 (.tmp 54)),Mv 56 14,Fa 57 1 8,Ld 58 57,Mv 59 14,Oo 60 (.ia 2 (.tmp 58) (.tmp 59)),Fa 61 1 60,Ld 62 61,Oo 63 (.load true 10 (.tmp 15)),Oo 64 (.lit 67 10 1 [(iv 0),Ss,(iv 0),Ss,(.v (.bool false)),(iv 0),(iv 0),(iv 0),(iv 0),(iv 0)] [(0,(10,(.tmp 63)))])] [true,false,false,false] [Oo 65 (.app 67 10 96 (.tmp 62) (.tmp 64)),Oo 66 (.ia 2 (.tmp 55) (.tmp 56)),Fa 67 1 66,Sc 67 65]) (.reg [Fa 68 4 15,Ld 69 68,Oo 70 (.un .not (.tmp 69)),Mv 9 70])))) (Sr [Mv 72 13,Oo 73 (.bin .eql (.tmp 72) (.const (.string ⟨#[82,117,108,101]⟩))),Mv 71 73] (Cd 71 (.orPan (.drw [Fa 74 0 8,Oo 75 (.loadR false 1 (.tmp 74))] [true,true,false,false,false] [Cl 76 134 [(.tmp 11)],Oo 77 (.lit 40 11 1 [Ss,(iv 0),(iv 0),(iv 0),(iv 0),(iv 0),(iv 0),(iv 0),(iv 0),(iv 0),Ss] [(0,(11,(.tmp 76)))]),Oo 78 (.app 40 11 104 (.tmp 75) (.tmp 77)),Fa 79 0 8,Sc 79 78]) (.tmp 11) 134 [Fa 74 0 8,Ld 75 74,Mv 76 11,Mb 77 false,Mb 78 false,Mb 79 false,⟨none,none,(.mv (.const (.bool false)))⟩] 76) (Sr [Mv 81 13,Oo 82 (.bin .eql (.tmp 81) (.const (.string ⟨#[90,111,110,101]⟩))),Mv 80 82] (Cd 80 (Sr [Cl 83 135 [(.tmp 11)],Oo 84 (.build [Ss,(.sl 0 0 true [])] [(0,(1,(.tmp 83)))]),Oo 16 (.new 44 2 [Ss,(.sl 0 0 true [])]),⟨none,none,(.store 2 (.tmp 16) (.tmp 84))⟩] (Sr [Cl 85 133 [(.tmp 11)],Oo 17 (.new 67 10 [(iv 0),Ss,(iv 0),Ss,(.v (.bool false)),(iv 0),(iv 0),(iv 0),(iv 0),(iv 0)]),⟨none,none,(.store 10 (.tmp 17) (.tmp 85))⟩] (Sr [Fa 86 1 16,Ld 87 86,Oo 88 (.load true 10 (.tmp 17)),Oo 89 (.lit 67 10 1 [(iv 0),Ss,(iv 0),Ss,(.v (.bool false)),(iv 0),(iv 0),(iv 0),(iv 0),(iv 0)] [(0,(10,(.tmp 88)))]),Oo 90 (.app 67 10 96 (.tmp 87) (.tmp 89)),Fa 91 1 16,Sc 91 90] (Sr [Fa 92 1 8,Ld 93 92,Oo 94 (.load true 2 (.tmp 16)),Oo 95 (.lit 44 2 1 [Ss,(.sl 0 0 true [])] [(0,(2,(.tmp 94)))]),Oo 96 (.app 44 2 40 (.tmp 93) (.tmp 95)),Fa 97 1 8,Sc 97 96] (.reg [Fa 98 4 17,Ld 99 98,Oo 100 (.un .not (.tmp 99)),Mv 9 100]))))) (Sr [Mv 102 13,Oo 103 (.bin .eql (.tmp 102) (.const (.string ⟨#[76,105,110,107]⟩))),Mv 101 103] (Cd 101 (Sr [Oo 18 (.new 35 2 [Ss,Ss])] (Sr [Cl 104 135 [(.tmp 11)],Fa 105 0 18,Sc 105 104] (Sr [Cl 106 135 [(.tmp 11)],Fa 107 1 18,Sc 107 106] (.reg [Fa 108 2 8,Ld 109 108,Oo 110 (.load true 2 (.tmp 18)),Oo 111 (.lit 35 2 1 [Ss,Ss] [(0,(2,(.tmp 110)))]),Oo 112 (.app 35 2 32 (.tmp 109) (.tmp 111)),Fa 113 2 8,Sc 113 112])))) (.reg [Fa 46 1 11,⟨none,none,(.store 1 (.tmp 46) (.const (.bool true)))⟩])))))))))) (Sr [Fa 114 1 11,Ld 115 114,Mv 116 115,Of 117 116 (.fa 0 (.tmp 11)),Of 118 116 (.load false 1 (.tmp 117)),Of 119 116 (.len false (.tmp 118)),Of 120 116 (.bin .gtr (.tmp 119) (Ci 0)),Oo 121 (.pick (.tmp 116) (.const (.bool true)) (.tmp 120)),Mv 122 121,Of 123 122 (mt 5),Of 124 122 (mt 10),Of 125 122 (.ia 3 (.tmp 123) (.tmp 124)),Of 126 122 (.fa 1 (.tmp 125)),Of 127 122 (.load false 1 (.tmp 126)),Of 128 122 (mt 12),Of 129 122 (.eqb true (.tmp 127) (.tmp 128)),Oo 130 (.pick (.tmp 122) (.const (.bool true)) (.tmp 129))] (Cd 130 (.seq (.drwU [[],[0],[0,1],[0],[0],[0],[1,2,3,4,5],[],[]] [Oo 131 (.build [(.sl 0 0 true []),(.sl 0 0 true []),(.sl 0 0 true [])] []),Mv 132 5,Mv 133 10,Oo 134 (.ia 3 (.tmp 132) (.tmp 133)),Fa 135 0 134,Ld 136 135,⟨none,none,(.store 3 (.tmp 2) (.tmp 131))⟩,Mv 3 136,Mc 4 1]) .ret) .skip)))))))) (.reg [Mv 34 10,Bc 35 .add 34 1,Mv 10 35])))))) (.seq (Sr [Mv 137 9] (Cd 137 (Sr [Oo 138 (.build [(.sl 0 0 true []),(.sl 0 0 true []),(.sl 0 0 true [])] []),⟨none,none,(.store 3 (.tmp 2) (.tmp 138))⟩,Mc 3 0,Mc 4 1] .ret) .skip)) (Sr [Oo 139 (.load true 3 (.tmp 8)),Cl 140 55 [(.tmp 139)],Mv 7 140] (.seq (Sr [Mv 141 7,Bc 142 .neq 141 0] (Cd 142 (Sr [Oo 143 (.build [(.sl 0 0 true []),(.sl 0 0 true []),(.sl 0 0 true [])] []),Mv 144 7,⟨none,none,(.store 3 (.tmp 2) (.tmp 143))⟩,Mc 3 0,Mv 4 144] .ret) .skip)) (Sr [Oo 145 (.load true 3 (.tmp 8)),Mv 146 7,⟨none,none,(.store 3 (.tmp 2) (.tmp 145))⟩,Mc 3 0,Mv 4 146] .ret))))))))))
theorem k84:ZaD Tryz.prog 84=some ⟨c84,[(.cell 2 true 3),(.tmp 3),(.tmp 4)],147⟩:=by kernel_rfl
theorem trule_e {t t1:TS}{r:Rul}{id:Nat}{h:AH}(ho:okT t) (he:Zjt t=(r,t1)) (h1:h[id]?=some (takE t)):ACalls Tryz.prog 134 [.ptr id 0 0] h fun x h'=>x=.ret (.agg (rulC r))∧h'=h.set id (takE t1):=by
 have:=trule_a ho h1
 rw [he] at this
 exact this
theorem tera_e {t t1:TS}{r:Era}{id:Nat}{h:AH}(ho:okT t) (he:tEra t=(r,t1)) (h1:h[id]?=some (takE t)):ACalls Tryz.prog 133 [.ptr id 0 0] h fun x h'=>x=.ret (.agg (eraC r))∧h'=h.set id (takE t1):=by
 have:=tera_a ho h1
 rw [he] at this
 exact this
theorem ZbE {n e:AV}:Wk (.tup [.agg [.sl 0 0 true [],.sl 0 0 true [],.sl 0 0 true []],n,e]) (.tup [.agg (srcC srcZ),n,e]) :=
 Wk.tup (wkw (Wk.agg (wkw Wk.nilF (wkw Wk.nilF (wkw Wk.nilF wk0)))) (wk1 rfl (wk1 rfl wk0)))
theorem okSrc_Z:ZdY (curS srcZ none):=by rw [ZeJ];exact ⟨fun _ h=>(by cases h),fun _ h=>(by cases h),fun _ h=>(by cases h)⟩
theorem lt26 {N:Nat}:decide (N+2<N+6)=true:=by simp
attribute [local simp] lt26
theorem lt36 {N:Nat}:decide (N+3<N+6)=true:=by simp
attribute [local simp] lt36
theorem lt46 {N:Nat}:decide (N+4<N+6)=true:=by simp
attribute [local simp] lt46
theorem lt56 {N:Nat}:decide (N+5<N+6)=true:=by simp
attribute [local simp] lt56
theorem rparse_a {s:ByteArray}{h:AH}:Ac 84 [sv s] h (.tup [.agg (srcC (ZbD s).1),iv (ZbD s).2.1,iv (ZbD s).2.2]):=by
 obtain ⟨L,hL⟩ : ∃ L,L=(ZbU s).1:=⟨_,rfl⟩
 have hf24:=Zkw (s:=s)
 have hL200:=ZpD (s:=s)
 rw [←hL] at hf24 hL200
 have hV0:=Zp4 s
 rw [←hL] at hV0
 refine tW' k84 fun N hn hlt hlA hbd=>?_
 simp only [tb'] at hbd ⊢
 refine wr'<|E' (Za8 (hl0 hn) ha0) pt<|mv' lki pt<|mv' lki pt<|sn'<|wr'<|mv' lk pt<|Zad mp (Zn1) pt<|?_
 rw [←hL]
 refine mv' lk pt<|V' (ZaV lk gt) pt<|V' (ZaV lk gt) pt<|V' (ZaV lk gt) pt<|mv' lk pt<|mv' lk pt<|mv' lk pt<|sn'<|Zal<|wr'<|mv' lk pt<|V' (ZaY lk lki) pt<|?_
 refine sn' ?_
 refine cd' lk (fun hc1=>?_) (fun hc1=>?_)
 ·have hV:ZbD s=(srcZ,(ZbU s).2.1,(ZbU s).2.2):=by rw [hV0];exact if_pos hc1
  refine wr'<|V' (Zay Zic) pt<|mv' lk pt<|mv' lk pt<|E' (Zam lk (cvl lk rfl) (hga hn rfl) rfl (nb' rfl) rfl ZaX (hs0 hn)) ptn<|mv' lk pt<|mv' lk pt<|sn'<|Zaa<|Zaj<|Zaf (rsn (rm1 (rr_c gt (hga hn rfl) (ld1 ZaS rfl)) (rm1 (rr_t gt) (rm1 (rr_t gt) rm0))))<|rtW'<|?_
  rw [hV];exact ZbE
 have hV:ZbD s=outP L:=by rw [hV0];exact if_neg hc1
 clear hV0
 refine Zae<|Zah<|wr'<|E' (Za8 (hl1 hn) ha1) pt<|Zar<|?_
 refine Zbc (ALe.trans (ALe.own0Cell (st':=11) (ty:=40) (hga hn rfl) gt0 (hl2 hn) pt0 (Eq.trans (congrArg (fun z=>List.set z _ _) ha2) (hs1 hn))) (ALe.trans (ALe.own0Cell (st':=2) (ty:=44) (hga hn rfl) gt1 (hl3 hn) pt1 (Eq.trans (congrArg (fun z=>List.set z _ _) ha3) (hs1 hn))) (ALe.own0Cell (st':=2) (ty:=35) (hga hn rfl) gt2 (hl4 hn) pt2 (Eq.trans (congrArg (fun z=>List.set z _ _) ha4) (hs1 hn))))) ?_
 refine wr'<|mv' lkb pt9<|Zar<|Zbc ((ALe.newEnt (ty:=67) (st:=10) ha5))<|Zal<|wr'<|mv' lki pt10<|sn'<|Zao<|?_
 refine w_lp (ι:=Nat×Src×Option Zon×Nat×Nat×Nat×Nat×Nat) (fun (x_:Nat×Src×Option Zon×Nat×Nat×Nat×Nat×Nat)=>match x_ with | ⟨k,sr,o,m,v1,v2,v3,v4⟩=>[(9,bv o.isSome),(10,iv (k:Int)),(3,.any),(4,.any)]++rn' 11 8++rn' 30 107) (fun (x_:Nat×Src×Option Zon×Nat×Nat×Nat×Nat×Nat)=>match x_ with | ⟨k,sr,o,m,v1,v2,v3,v4⟩=>[(1,.mk 0 26 3 [.own (N+2) v1 sr.1.length,.own (N+3) v2 m,.own (N+4) v3 sr.2.2.length]),(2,.mk v1 40 11 (rows rulC sr.1)),(3,.mk v2 44 2 (rows zonC sr.2.1++zC N v4 o)),(4,.mk v3 35 2 (rows lnkC sr.2.2)),(5,.mk v4 67 10 (rows eraC (eC o)))]) (fun (x_:Nat×Src×Option Zon×Nat×Nat×Nat×Nat×Nat)=>match x_ with | ⟨k,sr,o,m,v1,v2,v3,v4⟩=>k≤L.length∧m=sr.2.1.length+o.toList.length∧sr.1.length≤k∧m≤k∧sr.2.2.length≤k∧(eC o).length≤k∧ZdY (curS sr o)∧runR (srcZ,false) L=runR (curS sr o,o.isSome) (L.drop k)) (fun (x_:Nat×Src×Option Zon×Nat×Nat×Nat×Nat×Nat)=>match x_ with | ⟨k,sr,o,m,v1,v2,v3,v4⟩=>L.length-k) (⟨0,srcZ,none,0,0,0,0,0⟩) (by exact ⟨Nat.zero_le _,rfl,Nat.le_refl _,Nat.le_refl _,Nat.le_refl _,Nat.le_refl _,okSrc_Z,rfl⟩) ?_
 rintro ⟨k,sr,o,m,v1,v2,v3,v4⟩ hi1
 try simp only [sm',Nat.reduceAdd]
 obtain ⟨hk1,hm,hk2,hk3,hk4,hk5,hok,hrun⟩:=hi1
 refine Zal<|wr'<|mv' lk pt<|mv' lk pt<|V' (ZaO lk) pt<|V' (Za6 lk lk) pt<|sn'<|?_
 refine cd' lk (fun hc2=>?_) (fun hc2=>?_)
 ·have hk:k<L.length:=by omega
  have hfs:=hf24 _ (List.getElem_mem hk)
  have hokt:okT (L[k].2.2,false):=hfs
  rw [runR_at hk] at hrun
  have hPT:=pt_body (p:=(curS sr o,o.isSome)) hok (L[k].2.2,false) hokt
  refine Zae<|Zah<|Zal<|Zao<|wr'<|mv' lk pt<|mv' lk pt<|?_
  refine V' (ZaT lk lk Zbh (nb' rfl) ro (by omega) ro rfl) pt ?_
  refine V' (Zbf lk38 dp2) pt39<|V' (Zax lk39 gt0) pt40<|V' (Zay (Zib (cvl lk40 rfl) rfl)) pt41<|E' (Za8 (hl6 hn) ha6) pt11<|E' (Zam lk11 (cvl lk41 rfl) (hga hn rfl) rfl (nb' rfl) rfl Zi8 (hs6 hn)) ptn<|Zar<|Zbc ((ALe.same (WkL.refl _) rfl))<|wr'<|?_
  by_cases hs36:o=none
  ·subst hs36
   simp only [Option.isSome_none] at hrun hPT
   have hm':m=sr.2.1.length:=by simpa using hm
   subst hm'
   obtain ⟨w,t1,e1⟩ : ∃ a b,ZaR (L[k].2.2,false)=(a,b):=⟨_,_,rfl⟩
   obtain ⟨z1,o1⟩:=Zbg hokt e1
   refine mv' lk pt<|mv' lk pt<|sn'<|wr'<|mv' lks pt<|sn'<|Zal<|wr'<|mv' lk pt<|?_
   refine V' ((by first | exact v_not lk | exact Zav lk)) pt ?_
   refine sn' ?_
   refine ZdI lk (by rfl) ?_
   refine Zas<|ZaP mp (Zc2 e1 (hga hn rfl)) (hs6 hn) pt<|mv' lk pt<|sn'<|Zal<|Zao<|wr'<|mv' lk pt<|mv' lk pt<|sn'<|?_
   refine ZcF lk (by rfl) ?_
   refine wr'<|mv' lk pt<|V' (Zck lk lks) pt<|mv' lk pt<|sn'<|?_
   refine cd' lk (fun hc5=>?_) (fun hc5=>?_)
   ·have hwR:w=ruleA:=hc5
    obtain ⟨r,u,eR⟩ : ∃ a b,Zjt t1=(a,b):=⟨_,_,rfl⟩
    have hB:Zeo (curS sr none,false) (L[k].2.2,false)=((curS (sr.1++[r],sr.2.1,sr.2.2) none,false),u):=by unfold Zeo;rw [if_neg (by simp)];simp only [ZbZ,e1,if_pos hwR,ret2,eR];rfl
    have hq:True:=trivial
    refine w_orl<|Zpo [N+1]<|D' (Zac lk) pt<|?_
    refine d_ldP lk (hga hn rfl) (ld0 gt) (by simp) pt ?_
    refine ZbX<|Zqv<|?_
    refine k_calls mp (trule_e o1 eR (hga hn rfl)) (hs6 hn) (by intro i hi;simp only [cond_true,List.mem_cons,List.not_mem_nil,or_false] at hi;subst hi;first | rfl | exact (hga hn rfl).trans (hga hn rfl).symm) pt ?_
    refine Zqu rfl rfl (ZdO (Zh9 (cvl lk rfl) rfl) (hl7 hn) ha7) (by intro i hi;simp only [cond_true,List.mem_cons,List.not_mem_nil,or_false] at hi;subst hi;first | rfl | exact (hga hn rfl).trans (hga hn rfl).symm) pt ?_
    refine Zqu rfl rfl (Zdt (Zcx lk (hga hn rfl) rfl ZoP (nb' rfl)) lk (hga hn rfl) (ZlQ _) (by omega) rfl (hs2 hn)) (by intro i hi;simp at hi) pt ?_
    refine k_val rfl (Zac lk) pt ?_
    refine Zqu rfl rfl (Zam lk (cvl lk rfl) (hga hn rfl) rfl (nb' rfl) rfl Zi9 (hs1 hn)) (by intro i hi;simp at hi) ptn ?_
    refine k_nil<|ZaA<|Zah<|wr'<|V' (Zac lk) pt<|V' (Zab lk (hga hn rfl) gt1) pt<|mv' lk pt<|?_
    refine ZaG (t:=116) gt pt pt (fun hg116=>?_) (fun hg116=>?_)
    ·have hN:=Za4 hB (.inl hg116)
     refine s_no gt pt<|s_no gt pt<|s_no gt pt<|s_no gt pt<|V' (Zai lk lkb) pt<|mv' lk pt<|s_no gt pt<|s_no gt pt<|s_no gt pt<|s_no gt pt<|s_no gt pt<|s_no gt pt<|s_no gt pt<|V' (Zai lk lkb) pt<|?_
     refine sn'<|ZaH lk<|Zal<|Zb0<|u_fr rfl (Zay ZaE) pt<|u_fr rfl (v_mv lk) pt<|u_fr rfl (v_mv lk) pt<|?_
     refine u_fr rfl (ZaT lk lk Zbh (nb' rfl) ro (by omega) ro rfl) pt ?_
     refine u_fr rfl (Zbf lk dp0) pt<|u_fr rfl (Zax lk gt) pt<|?_
     refine u_st (Zam lk (cvl lk rfl) (hga hn rfl) rfl (nb' rfl) rfl ZaX (hs0 hn)) lk nh ptn ?_
     refine u_fr rfl (v_mv lk) pt<|u_fr rfl (v_mv lki) pt<|ZcU<|Zah<|Zaa<|Zaq<|Zaj<|Zaj<|Zaq<|Zaj<|Zaf (rsn (rm1 (rr_c gt (hga hn rfl) (ld1 ZaS rfl)) (rm1 (rr_t gt) (rm1 (rr_t gt) rm0))))<|rtW'<|?_
     have hP:ZbD s=(srcZ,L[k].1,1):=by rw [hV,outP,hrun,hN]
     rw [hP];exact ZbE
    refine s_do gt<|V' (Zac lk) pt<|s_do gt<|V' (Zab lk (hga hn rfl) gt0) pt<|s_do gt<|V' (ZaO lk) pt<|s_do gt<|V' (ZbT lk lki) pt<|V' (Zag lk lk) pt<|mv' lk pt<|?_
    refine sp' (t:=122) gt pt pt (fun hg122=>?_) (fun hg122=>?_)
    ·have hN:=Za4 hB (.inr (.inl (by intro e;rw [e] at hg122;exact absurd hg122 (by decide))))
     refine s_no gt pt<|s_no gt pt<|s_no gt pt<|s_no gt pt<|s_no gt pt<|s_no gt pt<|s_no gt pt<|V' (Zai lk lkb) pt<|sn'<|ZaH lk<|Zal<|Zb0<|u_fr rfl (Zay ZaE) pt<|?_
     refine u_fr rfl (v_mv lk) pt<|u_fr rfl (v_mv lk) pt<|?_
     refine u_fr rfl (ZaT lk lk Zbh (nb' rfl) ro (by omega) ro rfl) pt ?_
     refine u_fr rfl (Zbf lk dp0) pt<|u_fr rfl (Zax lk gt) pt<|?_
     refine u_st (Zam lk (cvl lk rfl) (hga hn rfl) rfl (nb' rfl) rfl ZaX (hs0 hn)) lk nh ptn ?_
     refine u_fr rfl (v_mv lk) pt<|u_fr rfl (v_mv lki) pt<|ZcU<|Zah<|Zaa<|Zaq<|Zaj<|Zaj<|Zaq<|Zaj<|Zaf (rsn (rm1 (rr_c gt (hga hn rfl) (ld1 ZaS rfl)) (rm1 (rr_t gt) (rm1 (rr_t gt) rm0))))<|rtW'<|?_
     have hP:ZbD s=(srcZ,L[k].1,1):=by rw [hV,outP,hrun,hN]
     rw [hP];exact ZbE
    refine s_do gt<|mv' lk pt<|s_do gt<|mv' lk pt<|s_do gt<|?_
    refine V' (ZaT lk lk Zbh (nb' rfl) ro (by omega) ro rfl) pt ?_
    refine s_do gt<|V' (Zbf lk dp1) pt<|s_do gt<|V' (Zax lk gt) pt<|s_do gt<|mv' lk pt<|s_do gt<|V' (Zdy lk lk) pt<|V' (Zag lk lk) pt<|sn'<|?_
    refine cd' lk (fun hc8=>?_) (fun hc8=>?_)
    ·have hN:=Za4 hB (.inr (.inr (by simpa using hc8)))
     refine Zal<|Zb0<|u_fr rfl (Zay ZaE) pt<|u_fr rfl (v_mv lk) pt<|u_fr rfl (v_mv lk) pt<|?_
     refine u_fr rfl (ZaT lk lk Zbh (nb' rfl) ro (by omega) ro rfl) pt ?_
     refine u_fr rfl (Zbf lk dp0) pt<|u_fr rfl (Zax lk gt) pt<|?_
     refine u_st (Zam lk (cvl lk rfl) (hga hn rfl) rfl (nb' rfl) rfl ZaX (hs0 hn)) lk nh ptn ?_
     refine u_fr rfl (v_mv lk) pt<|u_fr rfl (v_mv lki) pt<|ZcU<|Zah<|Zaa<|Zaq<|Zaj<|Zaj<|Zaq<|Zaj<|Zaf (rsn (rm1 (rr_c gt (hga hn rfl) (ld1 ZaS rfl)) (rm1 (rr_t gt) (rm1 (rr_t gt) rm0))))<|rtW'<|?_
     have hP:ZbD s=(srcZ,L[k].1,1):=by rw [hV,outP,hrun,hN]
     rw [hP];exact ZbE
    have hu1:u.2=false:=by simpa using hg116
    have hu2:u.1=[]:=List.eq_nil_of_length_eq_zero (by omega)
    have hS:=Zdc hB hu1 hu2 (by simpa using hc8)
    rw [hS] at hrun
    have hokq:=hPT.1
    rw [hB] at hokq
    refine Zae<|ZaA<|Zah<|Zas<|mv' lk pt<|?_
    refine V' (Zaz lk lki (by omega) (by omega)) pt ?_
    refine mv' lk pt<|Zar<|ZaC<|?_
    refine lU' (⟨k+1,(sr.1++[r],sr.2.1,sr.2.2),none,sr.2.1.length,v1+1,v2,v3,v4⟩) (by (try dsimp only);exact ⟨by omega,by simp,by simp;omega,by omega,by omega,by simp [eC],hokq,hrun⟩) (by (try dsimp only);(try simp only [sm',Nat.reduceAdd]);exact bkE' 6 hn hlt (by repeat (first | exact wk0 | refine wka ?_ | refine wk1 rfl ?_ | refine wk1 (by first | rfl | exact ivx (by omega) | (simp;done) | exact bvx (by have h9:=hs68;unfold Zct at h9;rw [h9];rfl) | exact bvx (by have h9:=hs106;unfold Zct at h9;rw [h9];rfl) | exact bvx (by have h9:=hs68;unfold Zct at h9;rw [Bool.not_eq_true] at h9;rw [h9];rfl) | exact bvx (by have h9:=hs106;unfold Zct at h9;rw [Bool.not_eq_true] at h9;rw [h9];rfl)) ?_)) (by simp only [zonC,Za5,ZbB,zC,eC,List.append_nil,List.length_append,List.length_singleton];rfl) (hT:=by first | rfl | (simp only [AV.lt,AV.ltL,Ent.lt,List.all_cons,List.all_nil,Bool.and_true,Bool.and_self,decide_true,Zbl,Zby,Zbn,Zbr,ZbN,Zft,Zgh,lt26,lt36,lt46,lt56];done) | exact lt') (hE:=by first | rfl | (simp only [AV.lt,AV.ltL,Ent.lt,List.all_cons,List.all_nil,Bool.and_true,Bool.and_self,decide_true,Zbl,Zby,Zbn,Zbr,ZbN,Zft,Zgh,lt26,lt36,lt46,lt56];done) | exact lt'))
   have hwR:¬w=ruleA:=hc5
   refine wr'<|mv' lk pt<|V' (Zck lk lks) pt<|mv' lk pt<|sn'<|?_
   refine cd' lk (fun hc6=>?_) (fun hc6=>?_)
   ·have hwZ:w=zoneA:=hc6
    obtain ⟨nm,t2,e2⟩ : ∃ a b,ZeB t1=(a,b):=⟨_,_,rfl⟩
    have o2:=Zhb o1 e2
    obtain ⟨x,u,eE⟩ : ∃ a b,tEra t2=(a,b):=⟨_,_,rfl⟩
    have hB:Zeo (curS sr none,false) (L[k].2.2,false)=(Zcr (sr.1,sr.2.1++[(nm,[])],sr.2.2) x,u):=by unfold Zeo;rw [if_neg (by simp)];simp only [ZbZ,e1,if_neg hwR,if_pos hwZ,ret2,e2,eE,ZeJ]
    have hw:Zcr (sr.1,sr.2.1++[(nm,[])],sr.2.2) x=((sr.1,sr.2.1++[(nm,[x])],sr.2.2),!Zct x):=by unfold Zcr;rw [Zfx];rfl
    refine wr'<|ZaP mp (Zjp o1 e2 (hga hn rfl)) (hs6 hn) pt<|V' (Zay (Zh8 (cvl lk rfl) rfl)) pt<|E' (Za8 (hl7 hn) ha7) pt<|E' (Zam lk (cvl lk rfl) (hga hn rfl) rfl (nb' rfl) rfl Zi8 (hs7 hn)) ptn<|sn'<|wr'<|ZaP mp (tera_e o2 eE (hga hn rfl)) (hs6 hn) pt<|E' (Za8 (hl8 hn) ha8) pt<|E' (Zam lk (cvl lk rfl) (hga hn rfl) rfl (nb' rfl) rfl Zh6 (hs8 hn)) ptn<|Zar<|?_
    refine Zbc ((ALe.own0CellRe (ty2:=67) (st2:=10) (hga hn rfl) (hga hn rfl) (by omega) gt1 pt1 (Eq.trans (congrArg (fun z=>List.set z _ _) (hs5 hn)) (hs7 hn)))) ?_
    refine wr'<|V' (Zac lk) pt<|V' (Zab lk (hga hn rfl) gt1) pt<|V' (Zap lk (hga hn rfl) Zh5 rfl) pt<|E' (ZdO (Zh7 (cvl lk rfl) rfl) (hl9 hn) ha9) pt<|?_
    refine E' (Zdt (Zcx lk (hga hn rfl) rfl Zi6 (nb' rfl)) lk (hga hn rfl) rfl (by omega) rfl (hs5 hn)) pt ?_
    refine V' (Zac lk) pt<|E' (Zam lk (cvl lk rfl) (hga hn rfl) rfl (nb' rfl) rfl Ze9 (hs7 hn)) ptn<|sn'<|wr'<|V' (Zac lk) pt<|V' (Zab lk (hga hn rfl) gt1) pt<|V' (Zap lk (hga hn rfl) Zi7 rfl) pt<|E' (ZdO (Zg6 (cvl lk rfl) rfl) (Zrm hn) Zrn) pt<|?_
    refine E' (Zdt (Zcx lk (hga hn rfl) rfl Zlr (nb' rfl)) lk (hga hn rfl) Zkh (by omega) rfl (hs3 hn)) pt ?_
    refine V' (Zac lk) pt<|E' (Zam lk (cvl lk rfl) (hga hn rfl) rfl (nb' rfl) rfl Ze9 (hs1 hn)) ptn<|sn'<|Zas<|?_
    by_cases hs106:Zct x=true
    ·have hq:Zcr (sr.1,sr.2.1++[(nm,[])],sr.2.2) x=(curS (sr.1,sr.2.1++[(nm,[x])],sr.2.2) none,false):=by rw [hw,hs106,ZeJ];rfl
     refine V' (Zac lk) pt<|V' (Zab lk (hga hn rfl) gt4) pt<|V' (Zav lk) pt<|mv' lk pt<|Zar<|ZaA<|Zah<|wr'<|V' (Zac lk) pt<|V' (Zab lk (hga hn rfl) gt1) pt<|mv' lk pt<|?_
     refine ZaG (t:=116) gt pt pt (fun hg116=>?_) (fun hg116=>?_)
     ·have hN:=Za4 hB (.inl hg116)
      refine s_no gt pt<|s_no gt pt<|s_no gt pt<|s_no gt pt<|V' (Zai lk lkb) pt<|mv' lk pt<|s_no gt pt<|s_no gt pt<|s_no gt pt<|s_no gt pt<|s_no gt pt<|s_no gt pt<|s_no gt pt<|V' (Zai lk lkb) pt<|?_
      refine sn'<|ZaH lk<|Zal<|Zb0<|u_fr rfl (Zay ZaE) pt<|u_fr rfl (v_mv lk) pt<|u_fr rfl (v_mv lk) pt<|?_
      refine u_fr rfl (ZaT lk lk Zbh (nb' rfl) ro (by omega) ro rfl) pt ?_
      refine u_fr rfl (Zbf lk dp0) pt<|u_fr rfl (Zax lk gt) pt<|?_
      refine u_st (Zam lk (cvl lk rfl) (hga hn rfl) rfl (nb' rfl) rfl ZaX (hs0 hn)) lk nh ptn ?_
      refine u_fr rfl (v_mv lk) pt<|u_fr rfl (v_mv lki) pt<|ZcU<|Zah<|Zaa<|Zaq<|Zaj<|Zaj<|Zaq<|Zaj<|Zaf (rsn (rm1 (rr_c gt (hga hn rfl) (ld1 ZaS rfl)) (rm1 (rr_t gt) (rm1 (rr_t gt) rm0))))<|rtW'<|?_
      have hP:ZbD s=(srcZ,L[k].1,1):=by rw [hV,outP,hrun,hN]
      rw [hP];exact ZbE
     refine s_do gt<|V' (Zac lk) pt<|s_do gt<|V' (Zab lk (hga hn rfl) gt0) pt<|s_do gt<|V' (ZaO lk) pt<|s_do gt<|V' (ZbT lk lki) pt<|V' (Zag lk lk) pt<|mv' lk pt<|?_
     refine sp' (t:=122) gt pt pt (fun hg122=>?_) (fun hg122=>?_)
     ·have hN:=Za4 hB (.inr (.inl (by intro e;rw [e] at hg122;exact absurd hg122 (by decide))))
      refine s_no gt pt<|s_no gt pt<|s_no gt pt<|s_no gt pt<|s_no gt pt<|s_no gt pt<|s_no gt pt<|V' (Zai lk lkb) pt<|sn'<|ZaH lk<|Zal<|Zb0<|u_fr rfl (Zay ZaE) pt<|?_
      refine u_fr rfl (v_mv lk) pt<|u_fr rfl (v_mv lk) pt<|?_
      refine u_fr rfl (ZaT lk lk Zbh (nb' rfl) ro (by omega) ro rfl) pt ?_
      refine u_fr rfl (Zbf lk dp0) pt<|u_fr rfl (Zax lk gt) pt<|?_
      refine u_st (Zam lk (cvl lk rfl) (hga hn rfl) rfl (nb' rfl) rfl ZaX (hs0 hn)) lk nh ptn ?_
      refine u_fr rfl (v_mv lk) pt<|u_fr rfl (v_mv lki) pt<|ZcU<|Zah<|Zaa<|Zaq<|Zaj<|Zaj<|Zaq<|Zaj<|Zaf (rsn (rm1 (rr_c gt (hga hn rfl) (ld1 ZaS rfl)) (rm1 (rr_t gt) (rm1 (rr_t gt) rm0))))<|rtW'<|?_
      have hP:ZbD s=(srcZ,L[k].1,1):=by rw [hV,outP,hrun,hN]
      rw [hP];exact ZbE
     refine s_do gt<|mv' lk pt<|s_do gt<|mv' lk pt<|s_do gt<|?_
     refine V' (ZaT lk lk Zbh (nb' rfl) ro (by omega) ro rfl) pt ?_
     refine s_do gt<|V' (Zbf lk dp1) pt<|s_do gt<|V' (Zax lk gt) pt<|s_do gt<|mv' lk pt<|s_do gt<|V' (Zdy lk lk) pt<|V' (Zag lk lk) pt<|sn'<|?_
     refine cd' lk (fun hc8=>?_) (fun hc8=>?_)
     ·have hN:=Za4 hB (.inr (.inr (by simpa using hc8)))
      refine Zal<|Zb0<|u_fr rfl (Zay ZaE) pt<|u_fr rfl (v_mv lk) pt<|u_fr rfl (v_mv lk) pt<|?_
      refine u_fr rfl (ZaT lk lk Zbh (nb' rfl) ro (by omega) ro rfl) pt ?_
      refine u_fr rfl (Zbf lk dp0) pt<|u_fr rfl (Zax lk gt) pt<|?_
      refine u_st (Zam lk (cvl lk rfl) (hga hn rfl) rfl (nb' rfl) rfl ZaX (hs0 hn)) lk nh ptn ?_
      refine u_fr rfl (v_mv lk) pt<|u_fr rfl (v_mv lki) pt<|ZcU<|Zah<|Zaa<|Zaq<|Zaj<|Zaj<|Zaq<|Zaj<|Zaf (rsn (rm1 (rr_c gt (hga hn rfl) (ld1 ZaS rfl)) (rm1 (rr_t gt) (rm1 (rr_t gt) rm0))))<|rtW'<|?_
      have hP:ZbD s=(srcZ,L[k].1,1):=by rw [hV,outP,hrun,hN]
      rw [hP];exact ZbE
     have hu1:u.2=false:=by simpa using hg116
     have hu2:u.1=[]:=List.eq_nil_of_length_eq_zero (by omega)
     have hS:=Zdc hB hu1 hu2 (by simpa using hc8)
     rw [hS] at hrun
     have hokq:=hPT.1
     rw [hB] at hokq
     refine Zae<|ZaA<|?_
     refine Zbc ((ALe.iceCellNew (ds:=rows eraC [x]) (k:=sr.2.1.length*2+1) (ty2:=67) (st2:=10) (hga hn rfl) (hga hn rfl) (by omega) (zc_at2 rfl) rfl (Nat.le_refl _) zc_put2 (hs5 hn) (hs3 hn))) ?_
     refine Zas<|mv' lk pt<|?_
     refine V' (Zaz lk lki (by omega) (by omega)) pt ?_
     refine mv' lk pt<|Zar<|ZaC<|?_
     refine lU' (⟨k+1,(sr.1,sr.2.1++[(nm,[x])],sr.2.2),none,sr.2.1.length+1,v1,v2+1,v3,v4+3⟩) (by (try dsimp only);rw [hq] at hrun hokq;exact ⟨by omega,by simp,by omega,by omega,by omega,by simp [eC],hokq,hrun⟩) (by (try dsimp only);(try simp only [sm',Nat.reduceAdd]);exact bkE' 6 hn hlt (by repeat (first | exact wk0 | refine wka ?_ | refine wk1 rfl ?_ | refine wk1 (by first | rfl | exact ivx (by omega) | (simp;done) | exact bvx (by have h9:=hs68;unfold Zct at h9;rw [h9];rfl) | exact bvx (by have h9:=hs106;unfold Zct at h9;rw [h9];rfl) | exact bvx (by have h9:=hs68;unfold Zct at h9;rw [Bool.not_eq_true] at h9;rw [h9];rfl) | exact bvx (by have h9:=hs106;unfold Zct at h9;rw [Bool.not_eq_true] at h9;rw [h9];rfl)) ?_)) (by simp only [zonC,Za5,ZbB,zC,eC,List.append_nil,List.length_append,List.length_singleton];rfl) (hT:=by first | rfl | (simp only [AV.lt,AV.ltL,Ent.lt,List.all_cons,List.all_nil,Bool.and_true,Bool.and_self,decide_true,Zbl,Zby,Zbn,Zbr,ZbN,Zft,Zgh,lt26,lt36,lt46,lt56];done) | exact lt') (hE:=by first | rfl | (simp only [AV.lt,AV.ltL,Ent.lt,List.all_cons,List.all_nil,Bool.and_true,Bool.and_self,decide_true,Zbl,Zby,Zbn,Zbr,ZbN,Zft,Zgh,lt26,lt36,lt46,lt56];done) | exact lt'))
    have hq:Zcr (sr.1,sr.2.1++[(nm,[])],sr.2.2) x=(curS sr (some (nm,[x])),true):=by rw [hw,show Zct x=false by simpa using hs106];rfl
    refine V' (Zac lk) pt<|V' (Zab lk (hga hn rfl) gt4) pt<|V' (Zav lk) pt<|mv' lk pt<|Zar<|ZaA<|Zah<|wr'<|V' (Zac lk) pt<|V' (Zab lk (hga hn rfl) gt1) pt<|mv' lk pt<|?_
    refine ZaG (t:=116) gt pt pt (fun hg116=>?_) (fun hg116=>?_)
    ·have hN:=Za4 hB (.inl hg116)
     refine s_no gt pt<|s_no gt pt<|s_no gt pt<|s_no gt pt<|V' (Zai lk lkb) pt<|mv' lk pt<|s_no gt pt<|s_no gt pt<|s_no gt pt<|s_no gt pt<|s_no gt pt<|s_no gt pt<|s_no gt pt<|V' (Zai lk lkb) pt<|?_
     refine sn'<|ZaH lk<|Zal<|Zb0<|u_fr rfl (Zay ZaE) pt<|u_fr rfl (v_mv lk) pt<|u_fr rfl (v_mv lk) pt<|?_
     refine u_fr rfl (ZaT lk lk Zbh (nb' rfl) ro (by omega) ro rfl) pt ?_
     refine u_fr rfl (Zbf lk dp0) pt<|u_fr rfl (Zax lk gt) pt<|?_
     refine u_st (Zam lk (cvl lk rfl) (hga hn rfl) rfl (nb' rfl) rfl ZaX (hs0 hn)) lk nh ptn ?_
     refine u_fr rfl (v_mv lk) pt<|u_fr rfl (v_mv lki) pt<|ZcU<|Zah<|Zaa<|Zaq<|Zaj<|Zaj<|Zaq<|Zaj<|Zaf (rsn (rm1 (rr_c gt (hga hn rfl) (ld1 ZaS rfl)) (rm1 (rr_t gt) (rm1 (rr_t gt) rm0))))<|rtW'<|?_
     have hP:ZbD s=(srcZ,L[k].1,1):=by rw [hV,outP,hrun,hN]
     rw [hP];exact ZbE
    refine s_do gt<|V' (Zac lk) pt<|s_do gt<|V' (Zab lk (hga hn rfl) gt0) pt<|s_do gt<|V' (ZaO lk) pt<|s_do gt<|V' (ZbT lk lki) pt<|V' (Zag lk lk) pt<|mv' lk pt<|?_
    refine sp' (t:=122) gt pt pt (fun hg122=>?_) (fun hg122=>?_)
    ·have hN:=Za4 hB (.inr (.inl (by intro e;rw [e] at hg122;exact absurd hg122 (by decide))))
     refine s_no gt pt<|s_no gt pt<|s_no gt pt<|s_no gt pt<|s_no gt pt<|s_no gt pt<|s_no gt pt<|V' (Zai lk lkb) pt<|sn'<|ZaH lk<|Zal<|Zb0<|u_fr rfl (Zay ZaE) pt<|?_
     refine u_fr rfl (v_mv lk) pt<|u_fr rfl (v_mv lk) pt<|?_
     refine u_fr rfl (ZaT lk lk Zbh (nb' rfl) ro (by omega) ro rfl) pt ?_
     refine u_fr rfl (Zbf lk dp0) pt<|u_fr rfl (Zax lk gt) pt<|?_
     refine u_st (Zam lk (cvl lk rfl) (hga hn rfl) rfl (nb' rfl) rfl ZaX (hs0 hn)) lk nh ptn ?_
     refine u_fr rfl (v_mv lk) pt<|u_fr rfl (v_mv lki) pt<|ZcU<|Zah<|Zaa<|Zaq<|Zaj<|Zaj<|Zaq<|Zaj<|Zaf (rsn (rm1 (rr_c gt (hga hn rfl) (ld1 ZaS rfl)) (rm1 (rr_t gt) (rm1 (rr_t gt) rm0))))<|rtW'<|?_
     have hP:ZbD s=(srcZ,L[k].1,1):=by rw [hV,outP,hrun,hN]
     rw [hP];exact ZbE
    refine s_do gt<|mv' lk pt<|s_do gt<|mv' lk pt<|s_do gt<|?_
    refine V' (ZaT lk lk Zbh (nb' rfl) ro (by omega) ro rfl) pt ?_
    refine s_do gt<|V' (Zbf lk dp1) pt<|s_do gt<|V' (Zax lk gt) pt<|s_do gt<|mv' lk pt<|s_do gt<|V' (Zdy lk lk) pt<|V' (Zag lk lk) pt<|sn'<|?_
    refine cd' lk (fun hc8=>?_) (fun hc8=>?_)
    ·have hN:=Za4 hB (.inr (.inr (by simpa using hc8)))
     refine Zal<|Zb0<|u_fr rfl (Zay ZaE) pt<|u_fr rfl (v_mv lk) pt<|u_fr rfl (v_mv lk) pt<|?_
     refine u_fr rfl (ZaT lk lk Zbh (nb' rfl) ro (by omega) ro rfl) pt ?_
     refine u_fr rfl (Zbf lk dp0) pt<|u_fr rfl (Zax lk gt) pt<|?_
     refine u_st (Zam lk (cvl lk rfl) (hga hn rfl) rfl (nb' rfl) rfl ZaX (hs0 hn)) lk nh ptn ?_
     refine u_fr rfl (v_mv lk) pt<|u_fr rfl (v_mv lki) pt<|ZcU<|Zah<|Zaa<|Zaq<|Zaj<|Zaj<|Zaq<|Zaj<|Zaf (rsn (rm1 (rr_c gt (hga hn rfl) (ld1 ZaS rfl)) (rm1 (rr_t gt) (rm1 (rr_t gt) rm0))))<|rtW'<|?_
     have hP:ZbD s=(srcZ,L[k].1,1):=by rw [hV,outP,hrun,hN]
     rw [hP];exact ZbE
    have hu1:u.2=false:=by simpa using hg116
    have hu2:u.1=[]:=List.eq_nil_of_length_eq_zero (by omega)
    have hS:=Zdc hB hu1 hu2 (by simpa using hc8)
    rw [hS] at hrun
    have hokq:=hPT.1
    rw [hB] at hokq
    refine Zae<|ZaA<|Zah<|Zas<|mv' lk pt<|?_
    refine V' (Zaz lk lki (by omega) (by omega)) pt ?_
    refine mv' lk pt<|Zar<|ZaC<|?_
    refine lU' (⟨k+1,sr,some (nm,[x]),sr.2.1.length+1,v1,v2+1,v3,v4+2⟩) (by (try dsimp only);rw [hq] at hrun hokq;exact ⟨by omega,by simp,by omega,by omega,by omega,by simp [eC],hokq,hrun⟩) (by (try dsimp only);(try simp only [sm',Nat.reduceAdd]);exact bkE' 6 hn hlt (by repeat (first | exact wk0 | refine wka ?_ | refine wk1 rfl ?_ | refine wk1 (by first | rfl | exact ivx (by omega) | (simp;done) | exact bvx (by have h9:=hs68;unfold Zct at h9;rw [h9];rfl) | exact bvx (by have h9:=hs106;unfold Zct at h9;rw [h9];rfl) | exact bvx (by have h9:=hs68;unfold Zct at h9;rw [Bool.not_eq_true] at h9;rw [h9];rfl) | exact bvx (by have h9:=hs106;unfold Zct at h9;rw [Bool.not_eq_true] at h9;rw [h9];rfl)) ?_)) (by simp only [zonC,Za5,ZbB,zC,eC,List.append_nil,List.length_append,List.length_singleton];rfl) (hT:=by first | rfl | (simp only [AV.lt,AV.ltL,Ent.lt,List.all_cons,List.all_nil,Bool.and_true,Bool.and_self,decide_true,Zbl,Zby,Zbn,Zbr,ZbN,Zft,Zgh,lt26,lt36,lt46,lt56];done) | exact lt') (hE:=by first | rfl | (simp only [AV.lt,AV.ltL,Ent.lt,List.all_cons,List.all_nil,Bool.and_true,Bool.and_self,decide_true,Zbl,Zby,Zbn,Zbr,ZbN,Zft,Zgh,lt26,lt36,lt46,lt56];done) | exact lt'))
   have hwZ:¬w=zoneA:=hc6
   refine wr'<|mv' lk pt<|V' (Zck lk lks) pt<|mv' lk pt<|sn'<|?_
   refine cd' lk (fun hc7=>?_) (fun hc7=>?_)
   ·have hwL:w=linkA:=hc7
    obtain ⟨n1,t2,e2⟩ : ∃ a b,ZeB t1=(a,b):=⟨_,_,rfl⟩
    have o2:=Zhb o1 e2
    obtain ⟨n2,u,e3⟩ : ∃ a b,ZeB t2=(a,b):=⟨_,_,rfl⟩
    have hB:Zeo (curS sr none,false) (L[k].2.2,false)=((curS (sr.1,sr.2.1,sr.2.2++[(n1,n2)]) none,false),u):=by unfold Zeo;rw [if_neg (by simp)];simp only [ZbZ,e1,if_neg hwR,if_neg hwZ,if_pos hwL,ret2,e2,e3];rfl
    refine wr'<|E' (Za8 (hl7 hn) ha7) pt<|sn'<|wr'<|ZaP mp (Zjp o1 e2 (hga hn rfl)) (hs6 hn) pt<|V' (Zac lk) pt<|E' (Zam lk (cvl lk rfl) (hga hn rfl) rfl (nb' rfl) rfl Zi9 (hs7 hn)) ptn<|sn'<|wr'<|?_
    refine ZaP mp (Zjp o2 e3 (hga hn rfl)) (hs6 hn) pt<|V' (Zac lk) pt<|E' (Zam lk (cvl lk rfl) (hga hn rfl) rfl (nb' rfl) rfl Ze9 (hs7 hn)) ptn<|sn'<|Zas<|V' (Zac lk) pt<|V' (Zab lk (hga hn rfl) gt2) pt<|V' (Zap lk (hga hn rfl) Zi7 rfl) pt<|E' (ZdO (Zg5 (cvl lk rfl) rfl) (hl8 hn) ha8) pt<|?_
    refine E' (Zdt (Zcx lk (hga hn rfl) rfl Zlr (nb' rfl)) lk (hga hn rfl) (Zl4 _) (by omega) rfl (hs4 hn)) pt ?_
    refine V' (Zac lk) pt<|E' (Zam lk (cvl lk rfl) (hga hn rfl) rfl (nb' rfl) rfl ZoQ (hs1 hn)) ptn<|Zar<|ZaA<|Zah<|wr'<|V' (Zac lk) pt<|V' (Zab lk (hga hn rfl) gt1) pt<|mv' lk pt<|?_
    refine ZaG (t:=116) gt pt pt (fun hg116=>?_) (fun hg116=>?_)
    ·have hN:=Za4 hB (.inl hg116)
     refine s_no gt pt<|s_no gt pt<|s_no gt pt<|s_no gt pt<|V' (Zai lk lkb) pt<|mv' lk pt<|s_no gt pt<|s_no gt pt<|s_no gt pt<|s_no gt pt<|s_no gt pt<|s_no gt pt<|s_no gt pt<|V' (Zai lk lkb) pt<|?_
     refine sn'<|ZaH lk<|Zal<|Zb0<|u_fr rfl (Zay ZaE) pt<|u_fr rfl (v_mv lk) pt<|u_fr rfl (v_mv lk) pt<|?_
     refine u_fr rfl (ZaT lk lk Zbh (nb' rfl) ro (by omega) ro rfl) pt ?_
     refine u_fr rfl (Zbf lk dp0) pt<|u_fr rfl (Zax lk gt) pt<|?_
     refine u_st (Zam lk (cvl lk rfl) (hga hn rfl) rfl (nb' rfl) rfl ZaX (hs0 hn)) lk nh ptn ?_
     refine u_fr rfl (v_mv lk) pt<|u_fr rfl (v_mv lki) pt<|ZcU<|Zah<|Zaa<|Zaq<|Zaj<|Zaj<|Zaq<|Zaj<|Zaf (rsn (rm1 (rr_c gt (hga hn rfl) (ld1 ZaS rfl)) (rm1 (rr_t gt) (rm1 (rr_t gt) rm0))))<|rtW'<|?_
     have hP:ZbD s=(srcZ,L[k].1,1):=by rw [hV,outP,hrun,hN]
     rw [hP];exact ZbE
    refine s_do gt<|V' (Zac lk) pt<|s_do gt<|V' (Zab lk (hga hn rfl) gt0) pt<|s_do gt<|V' (ZaO lk) pt<|s_do gt<|V' (ZbT lk lki) pt<|V' (Zag lk lk) pt<|mv' lk pt<|?_
    refine sp' (t:=122) gt pt pt (fun hg122=>?_) (fun hg122=>?_)
    ·have hN:=Za4 hB (.inr (.inl (by intro e;rw [e] at hg122;exact absurd hg122 (by decide))))
     refine s_no gt pt<|s_no gt pt<|s_no gt pt<|s_no gt pt<|s_no gt pt<|s_no gt pt<|s_no gt pt<|V' (Zai lk lkb) pt<|sn'<|ZaH lk<|Zal<|Zb0<|u_fr rfl (Zay ZaE) pt<|?_
     refine u_fr rfl (v_mv lk) pt<|u_fr rfl (v_mv lk) pt<|?_
     refine u_fr rfl (ZaT lk lk Zbh (nb' rfl) ro (by omega) ro rfl) pt ?_
     refine u_fr rfl (Zbf lk dp0) pt<|u_fr rfl (Zax lk gt) pt<|?_
     refine u_st (Zam lk (cvl lk rfl) (hga hn rfl) rfl (nb' rfl) rfl ZaX (hs0 hn)) lk nh ptn ?_
     refine u_fr rfl (v_mv lk) pt<|u_fr rfl (v_mv lki) pt<|ZcU<|Zah<|Zaa<|Zaq<|Zaj<|Zaj<|Zaq<|Zaj<|Zaf (rsn (rm1 (rr_c gt (hga hn rfl) (ld1 ZaS rfl)) (rm1 (rr_t gt) (rm1 (rr_t gt) rm0))))<|rtW'<|?_
     have hP:ZbD s=(srcZ,L[k].1,1):=by rw [hV,outP,hrun,hN]
     rw [hP];exact ZbE
    refine s_do gt<|mv' lk pt<|s_do gt<|mv' lk pt<|s_do gt<|?_
    refine V' (ZaT lk lk Zbh (nb' rfl) ro (by omega) ro rfl) pt ?_
    refine s_do gt<|V' (Zbf lk dp1) pt<|s_do gt<|V' (Zax lk gt) pt<|s_do gt<|mv' lk pt<|s_do gt<|V' (Zdy lk lk) pt<|V' (Zag lk lk) pt<|sn'<|?_
    refine cd' lk (fun hc8=>?_) (fun hc8=>?_)
    ·have hN:=Za4 hB (.inr (.inr (by simpa using hc8)))
     refine Zal<|Zb0<|u_fr rfl (Zay ZaE) pt<|u_fr rfl (v_mv lk) pt<|u_fr rfl (v_mv lk) pt<|?_
     refine u_fr rfl (ZaT lk lk Zbh (nb' rfl) ro (by omega) ro rfl) pt ?_
     refine u_fr rfl (Zbf lk dp0) pt<|u_fr rfl (Zax lk gt) pt<|?_
     refine u_st (Zam lk (cvl lk rfl) (hga hn rfl) rfl (nb' rfl) rfl ZaX (hs0 hn)) lk nh ptn ?_
     refine u_fr rfl (v_mv lk) pt<|u_fr rfl (v_mv lki) pt<|ZcU<|Zah<|Zaa<|Zaq<|Zaj<|Zaj<|Zaq<|Zaj<|Zaf (rsn (rm1 (rr_c gt (hga hn rfl) (ld1 ZaS rfl)) (rm1 (rr_t gt) (rm1 (rr_t gt) rm0))))<|rtW'<|?_
     have hP:ZbD s=(srcZ,L[k].1,1):=by rw [hV,outP,hrun,hN]
     rw [hP];exact ZbE
    have hu1:u.2=false:=by simpa using hg116
    have hu2:u.1=[]:=List.eq_nil_of_length_eq_zero (by omega)
    have hS:=Zdc hB hu1 hu2 (by simpa using hc8)
    rw [hS] at hrun
    have hokq:=hPT.1
    rw [hB] at hokq
    refine Zae<|ZaA<|Zah<|Zas<|mv' lk pt<|?_
    refine V' (Zaz lk lki (by omega) (by omega)) pt ?_
    refine mv' lk pt<|Zar<|ZaC<|?_
    refine lU' (⟨k+1,(sr.1,sr.2.1,sr.2.2++[(n1,n2)]),none,sr.2.1.length,v1,v2,v3+1,v4⟩) (by (try dsimp only);exact ⟨by omega,by simp,by omega,by omega,by simp;omega,by simp [eC],hokq,hrun⟩) (by (try dsimp only);(try simp only [sm',Nat.reduceAdd]);exact bkE' 6 hn hlt (by repeat (first | exact wk0 | refine wka ?_ | refine wk1 rfl ?_ | refine wk1 (by first | rfl | exact ivx (by omega) | (simp;done) | exact bvx (by have h9:=hs68;unfold Zct at h9;rw [h9];rfl) | exact bvx (by have h9:=hs106;unfold Zct at h9;rw [h9];rfl) | exact bvx (by have h9:=hs68;unfold Zct at h9;rw [Bool.not_eq_true] at h9;rw [h9];rfl) | exact bvx (by have h9:=hs106;unfold Zct at h9;rw [Bool.not_eq_true] at h9;rw [h9];rfl)) ?_)) (by simp only [zonC,Za5,ZbB,zC,eC,List.append_nil,List.length_append,List.length_singleton];rfl) (hT:=by first | rfl | (simp only [AV.lt,AV.ltL,Ent.lt,List.all_cons,List.all_nil,Bool.and_true,Bool.and_self,decide_true,Zbl,Zby,Zbn,Zbr,ZbN,Zft,Zgh,lt26,lt36,lt46,lt56];done) | exact lt') (hE:=by first | rfl | (simp only [AV.lt,AV.ltL,Ent.lt,List.all_cons,List.all_nil,Bool.and_true,Bool.and_self,decide_true,Zbl,Zby,Zbn,Zbr,ZbN,Zft,Zgh,lt26,lt36,lt46,lt56];done) | exact lt'))
   have hwL:¬w=linkA:=hc7
   have hB:Zeo (curS sr none,false) (L[k].2.2,false)=((curS sr none,false),bad t1):=by unfold Zeo;rw [if_neg (by simp)];simp only [ZbZ,e1,if_neg hwR,if_neg hwZ,if_neg hwL]
   have hN:=Za4 hB (.inl rfl)
   refine Zas<|V' (Zac lk) pt<|E' (Zam lk (cvl lkb rfl) (hga hn rfl) rfl (nb' rfl) rfl Ze9 (hs6 hn)) ptn<|Zar<|ZaA<|Zah<|wr'<|V' (Zac lk) pt<|V' (Zab lk (hga hn rfl) gt1) pt<|mv' lk pt<|s_no gt pt<|s_no gt pt<|s_no gt pt<|?_
   refine s_no gt pt<|V' (Zai lk lkb) pt<|mv' lk pt<|s_no gt pt<|s_no gt pt<|s_no gt pt<|s_no gt pt<|s_no gt pt<|s_no gt pt<|s_no gt pt<|V' (Zai lk lkb) pt<|sn'<|ZaH lk<|?_
   refine Zal<|Zb0<|u_fr rfl (Zay ZaE) pt<|u_fr rfl (v_mv lk) pt<|u_fr rfl (v_mv lk) pt<|?_
   refine u_fr rfl (ZaT lk lk Zbh (nb' rfl) ro (by omega) ro rfl) pt ?_
   refine u_fr rfl (Zbf lk dp0) pt<|u_fr rfl (Zax lk gt) pt<|?_
   refine u_st (Zam lk (cvl lk rfl) (hga hn rfl) rfl (nb' rfl) rfl ZaX (hs0 hn)) lk nh ptn ?_
   refine u_fr rfl (v_mv lk) pt<|u_fr rfl (v_mv lki) pt<|ZcU<|Zah<|Zaa<|Zaq<|Zaj<|Zaj<|Zaq<|Zaj<|Zaf (rsn (rm1 (rr_c gt (hga hn rfl) (ld1 ZaS rfl)) (rm1 (rr_t gt) (rm1 (rr_t gt) rm0))))<|rtW'<|?_
   have hP:ZbD s=(srcZ,L[k].1,1):=by rw [hV,outP,hrun,hN]
   rw [hP];exact ZbE
  obtain ⟨z,rfl⟩:=Option.ne_none_iff_exists'.1 hs36
  simp only [Option.isSome_some] at hrun hPT
  have hm':m=sr.2.1.length+1:=by simpa using hm
  have hk5':z.2.length≤k:=hk5
  obtain ⟨x,u,eE⟩ : ∃ a b,tEra (L[k].2.2,false)=(a,b):=⟨_,_,rfl⟩
  have hB:Zeo (curS sr (some z),true) (L[k].2.2,false)=(Zcr (curS sr (some z)) x,u):=by unfold Zeo;rw [if_pos rfl];simp only [ZbZ,ret2,eE]
  have hw:Zcr (curS sr (some z)) x=((sr.1,sr.2.1++[(z.1,z.2++[x])],sr.2.2),!Zct x):=by unfold Zcr curS;rw [show sr.2.1++(some z).toList=sr.2.1++[z] from rfl,Zfx]
  refine mv' lk pt<|mv' lk pt<|sn'<|wr'<|mv' lks pt<|sn'<|Zal<|wr'<|mv' lk pt<|?_
  refine V' ((by first | exact v_not lk | exact Zav lk)) pt ?_
  refine sn' ?_
  refine ZcF lk (by rfl) ?_
  refine Zae<|Zah<|Zal<|Zao<|wr'<|mv' lk pt<|mv' lk pt<|sn'<|?_
  refine ZdI lk (by rfl) ?_
  refine wr'<|V' (Zac lk) pt<|V' (Zab lk (hga hn rfl) gt1) pt<|V' (Zdx lk) pt<|?_
  refine V' (ZbH lk lki (by omega) (by omega)) pt ?_
  refine mv' lk pt<|sn'<|wr'<|ZaP mp (tera_e hokt eE (hga hn rfl)) (hs6 hn) pt<|E' (Za8 (hl7 hn) ha7) pt<|E' (Zam lk (cvl lk rfl) (hga hn rfl) rfl (nb' rfl) rfl Zh6 (hs7 hn)) ptn<|sn'<|Zal<|Zpo [N+1]<|D' (Zac lk) pt<|?_
  refine d_ldP lk (hga hn rfl) (ld0 gt) (by simp) pt ?_
  refine D' (v_mv lk) pt<|D' (Zac lk) pt<|D' (Zab lk (hga hn rfl) gt1) pt<|D' (v_mv lk) pt<|?_
  refine D' (v_iaO lk lk (hga hn rfl) (nb' rfl) (by omega) (by omega) (by rw [Zkh];simp;omega)) pt ?_
  refine D' (ZbI lk) pt ?_
  refine D' (Zab lk (hga hn rfl) (zc_at (by omega))) pt ?_
  refine D' (Zap lk (hga hn rfl) Zh5 rfl) pt<|Zoq rfl rfl (hlk hn rfl) (l_lit (Zia (cvl lk rfl) rfl)) pt Zrl<|ZbX<|k_e_ent ZoR<|?_
  refine Zqu rfl rfl (Zdt (Zcx lk (hga hn rfl) rfl Zi6 (nb' rfl)) lk (hga hn rfl) (ZjV _) (by omega) rfl (hs5 hn)) (by intro i hi;simp only [cond_true,List.mem_cons,List.not_mem_nil,or_false] at hi;subst hi;first | rfl | exact (hga hn rfl).trans (hga hn rfl).symm) pt ?_
  refine k_val rfl (v_iaO lk lk (hga hn rfl) (nb' rfl) (by omega) (by omega) (by rw [Zkh];simp;omega)) pt ?_
  refine k_val rfl (ZbI lk) pt ?_
  refine Zqu rfl rfl (Zam lk (cvl lk rfl) (hga hn rfl) rfl (by rw [Zkh];simp;omega) rfl (zc_set (by omega)) (hs3 hn)) (by intro i hi;simp at hi) ptn ?_
  refine k_nil<|Zah<|Zas<|?_
  by_cases hs68:Zct x=true
  ·have hq:Zcr (curS sr (some z)) x=(curS (sr.1,sr.2.1++[(z.1,z.2++[x])],sr.2.2) none,false):=by rw [hw,hs68,ZeJ];rfl
   refine V' (Zac lk) pt<|V' (Zab lk (hga hn rfl) gt4) pt<|V' (Zav lk) pt<|mv' lk pt<|Zar<|ZaA<|Zah<|wr'<|V' (Zac lk) pt<|V' (Zab lk (hga hn rfl) gt1) pt<|mv' lk pt<|?_
   refine ZaG (t:=116) gt pt pt (fun hg116=>?_) (fun hg116=>?_)
   ·have hN:=Za4 hB (.inl hg116)
    refine s_no gt pt<|s_no gt pt<|s_no gt pt<|s_no gt pt<|V' (Zai lk lkb) pt<|mv' lk pt<|s_no gt pt<|s_no gt pt<|s_no gt pt<|s_no gt pt<|s_no gt pt<|s_no gt pt<|s_no gt pt<|V' (Zai lk lkb) pt<|?_
    refine sn'<|ZaH lk<|Zal<|Zb0<|u_fr rfl (Zay ZaE) pt<|u_fr rfl (v_mv lk) pt<|u_fr rfl (v_mv lk) pt<|?_
    refine u_fr rfl (ZaT lk lk Zbh (nb' rfl) ro (by omega) ro rfl) pt ?_
    refine u_fr rfl (Zbf lk dp0) pt<|u_fr rfl (Zax lk gt) pt<|?_
    refine u_st (Zam lk (cvl lk rfl) (hga hn rfl) rfl (nb' rfl) rfl ZaX (hs0 hn)) lk nh ptn ?_
    refine u_fr rfl (v_mv lk) pt<|u_fr rfl (v_mv lki) pt<|ZcU<|Zah<|Zaa<|Zaq<|Zaj<|Zaj<|Zaq<|Zaj<|Zaf (rsn (rm1 (rr_c gt (hga hn rfl) (ld1 ZaS rfl)) (rm1 (rr_t gt) (rm1 (rr_t gt) rm0))))<|rtW'<|?_
    have hP:ZbD s=(srcZ,L[k].1,1):=by rw [hV,outP,hrun,hN]
    rw [hP];exact ZbE
   refine s_do gt<|V' (Zac lk) pt<|s_do gt<|V' (Zab lk (hga hn rfl) gt0) pt<|s_do gt<|V' (ZaO lk) pt<|s_do gt<|V' (ZbT lk lki) pt<|V' (Zag lk lk) pt<|mv' lk pt<|?_
   refine sp' (t:=122) gt pt pt (fun hg122=>?_) (fun hg122=>?_)
   ·have hN:=Za4 hB (.inr (.inl (by intro e;rw [e] at hg122;exact absurd hg122 (by decide))))
    refine s_no gt pt<|s_no gt pt<|s_no gt pt<|s_no gt pt<|s_no gt pt<|s_no gt pt<|s_no gt pt<|V' (Zai lk lkb) pt<|sn'<|ZaH lk<|Zal<|Zb0<|u_fr rfl (Zay ZaE) pt<|?_
    refine u_fr rfl (v_mv lk) pt<|u_fr rfl (v_mv lk) pt<|?_
    refine u_fr rfl (ZaT lk lk Zbh (nb' rfl) ro (by omega) ro rfl) pt ?_
    refine u_fr rfl (Zbf lk dp0) pt<|u_fr rfl (Zax lk gt) pt<|?_
    refine u_st (Zam lk (cvl lk rfl) (hga hn rfl) rfl (nb' rfl) rfl ZaX (hs0 hn)) lk nh ptn ?_
    refine u_fr rfl (v_mv lk) pt<|u_fr rfl (v_mv lki) pt<|ZcU<|Zah<|Zaa<|Zaq<|Zaj<|Zaj<|Zaq<|Zaj<|Zaf (rsn (rm1 (rr_c gt (hga hn rfl) (ld1 ZaS rfl)) (rm1 (rr_t gt) (rm1 (rr_t gt) rm0))))<|rtW'<|?_
    have hP:ZbD s=(srcZ,L[k].1,1):=by rw [hV,outP,hrun,hN]
    rw [hP];exact ZbE
   refine s_do gt<|mv' lk pt<|s_do gt<|mv' lk pt<|s_do gt<|?_
   refine V' (ZaT lk lk Zbh (nb' rfl) ro (by omega) ro rfl) pt ?_
   refine s_do gt<|V' (Zbf lk dp1) pt<|s_do gt<|V' (Zax lk gt) pt<|s_do gt<|mv' lk pt<|s_do gt<|V' (Zdy lk lk) pt<|V' (Zag lk lk) pt<|sn'<|?_
   refine cd' lk (fun hc8=>?_) (fun hc8=>?_)
   ·have hN:=Za4 hB (.inr (.inr (by simpa using hc8)))
    refine Zal<|Zb0<|u_fr rfl (Zay ZaE) pt<|u_fr rfl (v_mv lk) pt<|u_fr rfl (v_mv lk) pt<|?_
    refine u_fr rfl (ZaT lk lk Zbh (nb' rfl) ro (by omega) ro rfl) pt ?_
    refine u_fr rfl (Zbf lk dp0) pt<|u_fr rfl (Zax lk gt) pt<|?_
    refine u_st (Zam lk (cvl lk rfl) (hga hn rfl) rfl (nb' rfl) rfl ZaX (hs0 hn)) lk nh ptn ?_
    refine u_fr rfl (v_mv lk) pt<|u_fr rfl (v_mv lki) pt<|ZcU<|Zah<|Zaa<|Zaq<|Zaj<|Zaj<|Zaq<|Zaj<|Zaf (rsn (rm1 (rr_c gt (hga hn rfl) (ld1 ZaS rfl)) (rm1 (rr_t gt) (rm1 (rr_t gt) rm0))))<|rtW'<|?_
    have hP:ZbD s=(srcZ,L[k].1,1):=by rw [hV,outP,hrun,hN]
    rw [hP];exact ZbE
   have hu1:u.2=false:=by simpa using hg116
   have hu2:u.1=[]:=List.eq_nil_of_length_eq_zero (by omega)
   have hS:=Zdc hB hu1 hu2 (by simpa using hc8)
   rw [hS] at hrun
   have hokq:=hPT.1
   rw [hB] at hokq
   refine Zae<|ZaA<|?_
   refine Zbc ((ALe.iceCellNew (ds:=rows eraC (z.2++[x])) (k:=sr.2.1.length*2+1) (ty2:=67) (st2:=10) (hga hn rfl) (hga hn rfl) (by omega) (zc_at rfl) (by rw [Za5,ZbB];exact List.take_of_length_le (by simp [ZjV,eC];omega)) (by simp [ZjV,eC];omega) zc_put (hs5 hn) (hs3 hn))) ?_
   refine Zas<|mv' lk pt<|?_
   refine V' (Zaz lk lki (by omega) (by omega)) pt ?_
   refine mv' lk pt<|Zar<|ZaC<|?_
   refine lU' (⟨k+1,(sr.1,sr.2.1++[(z.1,z.2++[x])],sr.2.2),none,m,v1,v2,v3,v4+2⟩) (by (try dsimp only);rw [hq] at hrun hokq;exact ⟨by omega,by simp;omega,by omega,by omega,by omega,by simp [eC],hokq,hrun⟩) (by (try dsimp only);(try simp only [sm',Nat.reduceAdd]);exact bkE' 6 hn hlt (by repeat (first | exact wk0 | refine wka ?_ | refine wk1 rfl ?_ | refine wk1 (by first | rfl | exact ivx (by omega) | (simp;done) | exact bvx (by have h9:=hs68;unfold Zct at h9;rw [h9];rfl) | exact bvx (by have h9:=hs106;unfold Zct at h9;rw [h9];rfl) | exact bvx (by have h9:=hs68;unfold Zct at h9;rw [Bool.not_eq_true] at h9;rw [h9];rfl) | exact bvx (by have h9:=hs106;unfold Zct at h9;rw [Bool.not_eq_true] at h9;rw [h9];rfl)) ?_)) (by simp only [zonC,Za5,ZbB,zC,eC,List.append_nil,List.length_append,List.length_singleton];rfl) (hT:=by first | rfl | (simp only [AV.lt,AV.ltL,Ent.lt,List.all_cons,List.all_nil,Bool.and_true,Bool.and_self,decide_true,Zbl,Zby,Zbn,Zbr,ZbN,Zft,Zgh,lt26,lt36,lt46,lt56];done) | exact lt') (hE:=by first | rfl | (simp only [AV.lt,AV.ltL,Ent.lt,List.all_cons,List.all_nil,Bool.and_true,Bool.and_self,decide_true,Zbl,Zby,Zbn,Zbr,ZbN,Zft,Zgh,lt26,lt36,lt46,lt56];done) | exact lt'))
  have hq:Zcr (curS sr (some z)) x=(curS sr (some (z.1,z.2++[x])),true):=by rw [hw,show Zct x=false by simpa using hs68];rfl
  refine V' (Zac lk) pt<|V' (Zab lk (hga hn rfl) gt4) pt<|V' (Zav lk) pt<|mv' lk pt<|Zar<|ZaA<|Zah<|wr'<|V' (Zac lk) pt<|V' (Zab lk (hga hn rfl) gt1) pt<|mv' lk pt<|?_
  refine ZaG (t:=116) gt pt pt (fun hg116=>?_) (fun hg116=>?_)
  ·have hN:=Za4 hB (.inl hg116)
   refine s_no gt pt<|s_no gt pt<|s_no gt pt<|s_no gt pt<|V' (Zai lk lkb) pt<|mv' lk pt<|s_no gt pt<|s_no gt pt<|s_no gt pt<|s_no gt pt<|s_no gt pt<|s_no gt pt<|s_no gt pt<|V' (Zai lk lkb) pt<|?_
   refine sn'<|ZaH lk<|Zal<|Zb0<|u_fr rfl (Zay ZaE) pt<|u_fr rfl (v_mv lk) pt<|u_fr rfl (v_mv lk) pt<|?_
   refine u_fr rfl (ZaT lk lk Zbh (nb' rfl) ro (by omega) ro rfl) pt ?_
   refine u_fr rfl (Zbf lk dp0) pt<|u_fr rfl (Zax lk gt) pt<|?_
   refine u_st (Zam lk (cvl lk rfl) (hga hn rfl) rfl (nb' rfl) rfl ZaX (hs0 hn)) lk nh ptn ?_
   refine u_fr rfl (v_mv lk) pt<|u_fr rfl (v_mv lki) pt<|ZcU<|Zah<|Zaa<|Zaq<|Zaj<|Zaj<|Zaq<|Zaj<|Zaf (rsn (rm1 (rr_c gt (hga hn rfl) (ld1 ZaS rfl)) (rm1 (rr_t gt) (rm1 (rr_t gt) rm0))))<|rtW'<|?_
   have hP:ZbD s=(srcZ,L[k].1,1):=by rw [hV,outP,hrun,hN]
   rw [hP];exact ZbE
  refine s_do gt<|V' (Zac lk) pt<|s_do gt<|V' (Zab lk (hga hn rfl) gt0) pt<|s_do gt<|V' (ZaO lk) pt<|s_do gt<|V' (ZbT lk lki) pt<|V' (Zag lk lk) pt<|mv' lk pt<|?_
  refine sp' (t:=122) gt pt pt (fun hg122=>?_) (fun hg122=>?_)
  ·have hN:=Za4 hB (.inr (.inl (by intro e;rw [e] at hg122;exact absurd hg122 (by decide))))
   refine s_no gt pt<|s_no gt pt<|s_no gt pt<|s_no gt pt<|s_no gt pt<|s_no gt pt<|s_no gt pt<|V' (Zai lk lkb) pt<|sn'<|ZaH lk<|Zal<|Zb0<|u_fr rfl (Zay ZaE) pt<|?_
   refine u_fr rfl (v_mv lk) pt<|u_fr rfl (v_mv lk) pt<|?_
   refine u_fr rfl (ZaT lk lk Zbh (nb' rfl) ro (by omega) ro rfl) pt ?_
   refine u_fr rfl (Zbf lk dp0) pt<|u_fr rfl (Zax lk gt) pt<|?_
   refine u_st (Zam lk (cvl lk rfl) (hga hn rfl) rfl (nb' rfl) rfl ZaX (hs0 hn)) lk nh ptn ?_
   refine u_fr rfl (v_mv lk) pt<|u_fr rfl (v_mv lki) pt<|ZcU<|Zah<|Zaa<|Zaq<|Zaj<|Zaj<|Zaq<|Zaj<|Zaf (rsn (rm1 (rr_c gt (hga hn rfl) (ld1 ZaS rfl)) (rm1 (rr_t gt) (rm1 (rr_t gt) rm0))))<|rtW'<|?_
   have hP:ZbD s=(srcZ,L[k].1,1):=by rw [hV,outP,hrun,hN]
   rw [hP];exact ZbE
  refine s_do gt<|mv' lk pt<|s_do gt<|mv' lk pt<|s_do gt<|?_
  refine V' (ZaT lk lk Zbh (nb' rfl) ro (by omega) ro rfl) pt ?_
  refine s_do gt<|V' (Zbf lk dp1) pt<|s_do gt<|V' (Zax lk gt) pt<|s_do gt<|mv' lk pt<|s_do gt<|V' (Zdy lk lk) pt<|V' (Zag lk lk) pt<|sn'<|?_
  refine cd' lk (fun hc8=>?_) (fun hc8=>?_)
  ·have hN:=Za4 hB (.inr (.inr (by simpa using hc8)))
   refine Zal<|Zb0<|u_fr rfl (Zay ZaE) pt<|u_fr rfl (v_mv lk) pt<|u_fr rfl (v_mv lk) pt<|?_
   refine u_fr rfl (ZaT lk lk Zbh (nb' rfl) ro (by omega) ro rfl) pt ?_
   refine u_fr rfl (Zbf lk dp0) pt<|u_fr rfl (Zax lk gt) pt<|?_
   refine u_st (Zam lk (cvl lk rfl) (hga hn rfl) rfl (nb' rfl) rfl ZaX (hs0 hn)) lk nh ptn ?_
   refine u_fr rfl (v_mv lk) pt<|u_fr rfl (v_mv lki) pt<|ZcU<|Zah<|Zaa<|Zaq<|Zaj<|Zaj<|Zaq<|Zaj<|Zaf (rsn (rm1 (rr_c gt (hga hn rfl) (ld1 ZaS rfl)) (rm1 (rr_t gt) (rm1 (rr_t gt) rm0))))<|rtW'<|?_
   have hP:ZbD s=(srcZ,L[k].1,1):=by rw [hV,outP,hrun,hN]
   rw [hP];exact ZbE
  have hu1:u.2=false:=by simpa using hg116
  have hu2:u.1=[]:=List.eq_nil_of_length_eq_zero (by omega)
  have hS:=Zdc hB hu1 hu2 (by simpa using hc8)
  rw [hS] at hrun
  have hokq:=hPT.1
  rw [hB] at hokq
  refine Zae<|ZaA<|Zah<|Zas<|mv' lk pt<|?_
  refine V' (Zaz lk lki (by omega) (by omega)) pt ?_
  refine mv' lk pt<|Zar<|ZaC<|?_
  refine lU' (⟨k+1,sr,some (z.1,z.2++[x]),m,v1,v2,v3,v4+1⟩) (by (try dsimp only);rw [hq] at hrun hokq;exact ⟨by omega,by simp;omega,by omega,by omega,by omega,by simp [eC] at hk5 ⊢;omega,hokq,hrun⟩) (by (try dsimp only);(try simp only [sm',Nat.reduceAdd]);exact bkE' 6 hn hlt (by repeat (first | exact wk0 | refine wka ?_ | refine wk1 rfl ?_ | refine wk1 (by first | rfl | exact ivx (by omega) | (simp;done) | exact bvx (by have h9:=hs68;unfold Zct at h9;rw [h9];rfl) | exact bvx (by have h9:=hs106;unfold Zct at h9;rw [h9];rfl) | exact bvx (by have h9:=hs68;unfold Zct at h9;rw [Bool.not_eq_true] at h9;rw [h9];rfl) | exact bvx (by have h9:=hs106;unfold Zct at h9;rw [Bool.not_eq_true] at h9;rw [h9];rfl)) ?_)) (by simp only [zonC,Za5,ZbB,zC,eC,List.append_nil,List.length_append,List.length_singleton];rfl) (hT:=by first | rfl | (simp only [AV.lt,AV.ltL,Ent.lt,List.all_cons,List.all_nil,Bool.and_true,Bool.and_self,decide_true,Zbl,Zby,Zbn,Zbr,ZbN,Zft,Zgh,lt26,lt36,lt46,lt56];done) | exact lt') (hE:=by first | rfl | (simp only [AV.lt,AV.ltL,Ent.lt,List.all_cons,List.all_nil,Bool.and_true,Bool.and_self,decide_true,Zbl,Zby,Zbn,Zbr,ZbN,Zft,Zgh,lt26,lt36,lt46,lt56];done) | exact lt'))
 have hke:k=L.length:=by omega
 rw [List.drop_of_length_le (by omega),runR] at hrun
 have hV2:ZbD s=endP (curS sr o,o.isSome):=by rw [hV,outP,hrun]
 refine ZaQ<|ZaF<|ZaF<|Za7<|Zah<|Zal<|wr'<|mv' lk pt<|sn'<|?_
 refine cd' lk (fun hc9=>?_) (fun hc9=>?_)
 ·have hP:ZbD s=(srcZ,0,1):=by rw [hV2];exact if_pos hc9
  refine wr'<|V' (Zay Zg4) pt<|E' (Zam lk (cvl lk rfl) (hga hn rfl) rfl (nb' rfl) rfl ZaX (hs0 hn)) ptn<|mv' lki pt<|mv' lki pt<|sn'<|Zaa<|Zaj<|Zaf (rsn (rm1 (rr_c gt (hga hn rfl) (ld1 ZaS rfl)) (rm1 (rr_t gt) (rm1 (rr_t gt) rm0))))<|rtW'<|?_
  rw [hP];exact ZbE
 obtain rfl:o=none:=by cases o;rfl;cases hc9
 have hm':m=sr.2.1.length:=by simpa using hm
 subst hm'
 rw [ZeJ] at hok hV2
 refine Zae ?_
 refine Zbc ((ALe.trans (ALe.iceCellR (ds:=rows rulC sr.1) (hga hn rfl) (hga hn rfl) (by omega) gt0 (List.take_of_length_le (by rw [ZlQ];exact Nat.le_refl _)) (by rw [ZlQ];exact Nat.le_refl _) pt0 (hs2 hn) (hs1 hn)) (ALe.trans (ALe.iceCellR (ds:=rows zonC sr.2.1) (hga hn rfl) (hga hn rfl) (by omega) gt1 (by rw [show rows zonC sr.2.1++zC N v4 none=rows zonC sr.2.1 from List.append_nil _];exact List.take_of_length_le (by rw [Zgg];exact Nat.le_refl _)) (by rw [Zkh];simp) pt1 (hs3 hn) (hs1 hn)) (ALe.iceCellR (ds:=rows lnkC sr.2.2) (hga hn rfl) (hga hn rfl) (by omega) gt2 (List.take_of_length_le (by rw [Zl4];exact Nat.le_refl _)) (by rw [Zl4];exact Nat.le_refl _) pt2 (hs4 hn) (hs1 hn))))) ?_
 refine wr'<|V' (Zap lk (hga hn rfl) ZaS rfl) pt<|Zad mp (ZpX (a:=sr.1) (z:=sr.2.1) (l:=sr.2.2) hok) pt<|mv' lk pt<|sn'<|Zal<|wr'<|mv' lk pt<|V' (ZaY lk lki) pt<|sn'<|?_
 refine cd' lk (fun hc10=>?_) (fun hc10=>?_)
 ·have hP:ZbD s=(srcZ,0,ZbK sr):=by rw [hV2,endP,if_neg (by simp)];exact if_pos hc10
  refine wr'<|V' (Zay Zg3) pt<|mv' lk pt<|E' (Zam lk (cvl lk rfl) (hga hn rfl) rfl (nb' rfl) rfl ZaX (hs0 hn)) ptn<|mv' lki pt<|mv' lk pt<|sn'<|Zaa<|Zaj<|Zaf (rsn (rm1 (rr_c gt (hga hn rfl) (ld1 ZaS rfl)) (rm1 (rr_t gt) (rm1 (rr_t gt) rm0))))<|rtW'<|?_
  rw [hP];exact ZbE
 have h0:ZbK sr=0:=Decidable.of_not_not hc10
 have hP:ZbD s=(sr,0,0):=by rw [hV2,endP,if_neg (by simp)];exact if_neg hc10
 refine Zae<|Zah<|wr'<|V' (Zap lk (hga hn rfl) ZaS rfl) pt<|mv' lk pt<|E' (Zam lk (cvl lk rfl) (hga hn rfl) rfl (nb' rfl) rfl ZaX (hs0 hn)) ptn<|mv' lki pt<|mv' lk pt<|sn'<|Zaa<|Zaf (rsn (rm1 (rr_c gt (hga hn rfl) (ld1 ZaS rfl)) (rm1 (rr_t gt) (rm1 (rr_t gt) rm0))))<|rtW'<|?_
 rw [hP];exact Wk.tup (wk1 rfl (wk1 rfl (wk1 (ivx h0.symm) wk0)))
end Go.Proofs.YthdifaphoaekoaaGreatDoor
end
section
namespace Go.Proofs.YthdifaphoaekoaaGreatDoor
open Go.ChangeShapes Go.WideShapes Go.ChangeAt Go.RowKit
theorem own:ownKnob Tryz.prog.godebug=none:=by kernel_rfl
theorem Zqt:laidOutB Tryz.prog=true:=by kernel_rfl
theorem ZfE {H:Type}{enc:TypeId×Value→H}{P:Program}(hl:laidOutB P=true) {W W':World}(hb:Below W.heap.size W W') :
  ∀ (ts:List TypeId) (vs:List Value) (ds:List (DataW H)) (ps:List MemPlace),(ts.all fun t=>P.readableRec t&&decide (t<P.types.size))=true→(∀ x∈ps,x.block<W.heap.size) →
   DataW.TrodAll enc P W 0 (fun _=>true) true ts vs ds ps→DataW.TrodAll enc P W' 0 (fun b=>decide (b<W.heap.size)) true ts vs ds ps
 | [],[],[],ps,_,_,h=>h
 | t::ts,v::vs,d::ds,ps,hr,hlt,h=>by
  obtain ⟨p,q,h1,h2,rfl⟩:=h
  simp only [List.all_cons,Bool.and_eq_true,decide_eq_true_eq] at hr
  exact ⟨p,q,Below.trod hl hr.1.1 hr.1.2 h1 hb (fun x hx=>hlt x (List.mem_append.2 (.inl hx))),
   ZfE hl hb ts vs ds q hr.2 (fun x hx=>hlt x (List.mem_append.2 (.inr hx))) h2,rfl⟩
 | [],_::_,_,_,_,_,h=>by simp [DataW.TrodAll] at h
 | [],[],_::_,_,_,_,h=>by simp [DataW.TrodAll] at h
 | _::_,[],_,_,_,_,h=>by simp [DataW.TrodAll] at h
 | _::_,_::_,[],_,_,_,h=>by simp [DataW.TrodAll] at h
theorem Znn {H:Type}{enc:TypeId×Value→H}{P:Program}{f:Func}{s:ChangeSpec}{handsOn fresh:Bool}{W W':World}{args:Array Value}{ds gs:List (DataW H)}{before:List MemPlace}{tb:TypeId}
  (hl:laidOutB P=true) (hts:(f.params.toList.all fun t=>P.readableRec t&&decide (t<P.types.size))=true)
  (hrt:f.resultTypes = #[tb]) (htb:P.underlying tb=some .bool) (hvars:s.vars=[])
  (hs:s.fn H ds={ results:=[.lit (.bool true)],args:=ds })
  (hW:DataW.Whole enc P f.params.toList s.vars false W args.toList ds gs before) (hb:Below W.heap.size W W') :
  s.post enc P f false fresh handsOn false W args (.bool true) W':=by
 have hW':=hW
 obtain ⟨p,q,hA,hV,rfl,_,_⟩:=hW
 rw [hvars] at hV
 obtain ⟨rfl,rfl⟩:=trodVars_none hV
 have hlt : ∀ x∈p,x.block<W.heap.size:=fun x hx=>by simpa using hW'.lt x (List.mem_append.2 (.inl hx))
 have e1:s.fn H (ds++[])={ results:=[.lit (.bool true)],args:=ds }:=by simpa using hs
 refine ⟨ds,[],p++[],[],p,[],hW',?_,?_,?_,hb.frame _,fun h=>by cases h⟩
 ·rw [e1,hrt];exact trodAll_mk1 (shut_bool htb _)
 ·rw [e1];exact ZfE hl hb _ _ _ _ hts hlt hA
 ·rw [e1,hvars];exact rfl
end Go.Proofs.YthdifaphoaekoaaGreatDoor
end
section
namespace Go.Proofs.YthdifaphoaekoaaGreatDoor
open Go.ChangeShapes Go.WideShapes Go.ChangeAt Go.RowKit Go.Deep Go.Ab
inductive Ds where
 | int | str | bool
 | pair (a b:Ds)
 | slice (a:Ds)
@[reducible] def El:Ds→Type
 | .int=>Int
 | .str=>ByteArray
 | .bool=>Bool
 | .pair a b=>El a×El b
 | .slice a=>List (El a)
def Ds.size:Ds→Nat
 | .pair a b=>a.size+b.size
 | _=>1
theorem Ds.size_pos (d:Ds):0<d.size:=by
 induction d with
 | pair a b iha ihb=>simp only [Ds.size];omega
 | _=>simp [Ds.size]
def Rd (w:World) (B:Nat):(d:Ds)→List Value→El d→Prop
  | .int,cs,n=>cs=[.int .i64 n] ∧ -9223372036854775808≤n∧n≤9223372036854775807
  | .str,cs,s=>cs=[.string s]∧s.size≤maxLen
  | .bool,cs,b=>cs=[.bool b]
  | .pair a b,cs,p => ∃ c1 c2,cs=c1++c2∧Rd w B a c1 p.1∧Rd w B b c2 p.2
  | .slice a, cs, l => ∃ A c, cs = [.slice A l.length c] ∧ l.length ≤ c ∧ c ≤ maxLen ∧ (A = none → c = 0) ∧
      (0<l.length → ∃ b off,A=some ⟨b,off,none⟩∧b<B ∧ ∀ k (h:k<l.length),∃ r,(∀ j v,r[j]?=some v→w.cell? ⟨b,off+k*a.size+j,none⟩=some v)∧Rd w B a r l[k])
theorem Rd.length {w:World}{B:Nat} : ∀ {d:Ds}{cs:List Value}{x:El d},Rd w B d cs x→cs.length=d.size
 | .int,cs,x,h=>by rw [h.1];rfl
 | .str,cs,x,h=>by rw [h.1];rfl
 | .bool,cs,x,h=>by rw [show cs=_ from h];rfl
 | .pair a b,cs,x,⟨c1,c2,e,h1,h2⟩=>by rw [e,List.length_append,Rd.length h1,Rd.length h2];rfl
 | .slice a,cs,x,⟨A,c,e,_⟩=>by rw [e];rfl
theorem Rd.keep {w w':World}{B B':Nat}(hk : ∀ p:Addr,p.block<B→w'.cell? p=w.cell? p) (hB:B≤B') : ∀ {d:Ds}{cs:List Value}{x:El d},Rd w B d cs x→Rd w' B' d cs x
  | .int,cs,x,h=>h
  | .str,cs,x,h=>h
  | .bool,cs,x,h=>h
  | .pair a b,cs,x,⟨c1,c2,e,h1,h2⟩=>⟨c1,c2,e,Rd.keep hk hB h1,Rd.keep hk hB h2⟩
  | .slice a, cs, x, ⟨A, c, e, hl, hm, hA0, h⟩ => ⟨A, c, e, hl, hm, hA0, fun h0 => by
      obtain ⟨b,off,hA,hb,hi⟩:=h h0
      refine ⟨b,off,hA,by omega,fun k hk'=>?_⟩
      obtain ⟨r,hc,hr⟩:=hi k hk'
      exact ⟨r,fun j v hv=>(hk _ hb).trans (hc j v hv),Rd.keep hk hB hr⟩⟩
theorem Rd.below {w w':World}{B:Nat}{d:Ds}{cs:List Value}{x:El d}(h:Rd w B d cs x) (hb:Below B w w'):Rd w' B d cs x:=h.keep (fun p hp=>hb.cell hp) (Nat.le_refl _)
theorem Rd.more {w:World}{B B':Nat}{d:Ds}{cs:List Value}{x:El d}(h:Rd w B d cs x) (hB:B≤B'):Rd w B' d cs x:=h.keep (fun p hp=>rfl) hB
def Zmd (P:Program) (f:TypeId→Ds→Bool):List Field→Nat→Ds→Bool
 | [],_,_=>false
 | fd::fs,off,d=>match fs with
  | []=>fd.offset==off&&P.cellsOf fd.type==d.size&&f fd.type d
  | _::_=>match d with
   | .pair a b=>fd.offset==off&&P.cellsOf fd.type==a.size&&f fd.type a&&Zmd P f fs (off+a.size) b
   | _=>false
def fits (P:Program):Nat→TypeId→Ds→Bool
 | 0,_,_=>false
 | n+1,t,d =>
  match P.underlying t with
  | some (.int .i64)=>match d with
   | .int=>true
   | _=>false
  | some .string=>match d with
   | .str=>true
   | _=>false
  | some .bool=>match d with
   | .bool=>true
   | _=>false
  | some (.slice e)=>match d with
   | .slice a=>P.cellsOf e==a.size&&fits P n e a
   | _=>false
  | some (.struct fs)=>P.cellsOf t==d.size&&Zmd P (fits P n) fs.toList 0 d
  | _=>false
section
variable {H : Type} {enc : TypeId × Value → H} {P : Program} {w : World} {base : Nat} {spare : Nat → Bool} {held : Bool}
theorem Zkv {w:World}{a:Addr}{v:Value}(h:w.cell? a=some v):a.spot=none:=by
 unfold World.cell? at h
 split at h
 ·split at h
  ·cases h
  ·rename_i hs;simpa using hs
 ·cases h
theorem Zqn {α β:Type}{Q:Nat→β→α→Prop} : ∀ (n:Nat),(∀ i,i<n → ∃ r y,Q i r y) → ∃ l:List α,l.length=n ∧ ∀ i (h:i<l.length),∃ r,Q i r l[i]
 | 0,_=>⟨[],rfl,fun i h=>absurd h (by simp)⟩
 | n+1,h=>by
  obtain ⟨l,hl,hq⟩:=Zqn n (fun i hi=>h i (by omega))
  obtain ⟨r,y,hy⟩:=h n (by omega)
  refine ⟨l++[y],by simp [hl],fun i hi=>?_⟩
  by_cases hin:i<l.length
  ·obtain ⟨r',h'⟩:=hq i hin
   exact ⟨r',by rw [List.getElem_append_left hin];exact h'⟩
  ·obtain rfl:i=n:=by simp at hi;omega
   exact ⟨r,by rw [List.getElem_append_right (by omega)];simpa [hl] using hy⟩
theorem ZeW : ∀ (n:Nat) (t:TypeId) (d:Ds) (fuel:Nat) (cs:List Value) (x:DataW H×List MemPlace),fits P n t d=true→DataW.trod enc P w base spare held fuel t cs=some x → ∃ e:El d,Rd w w.heap.size d cs e
  | 0,t,d,fuel,cs,x,hf,h=>by simp [fits] at hf
  | n+1,t,d,fuel,cs,x,hf,h=>by
    unfold fits at hf
    split at hf
    · rename_i hu
      split at hf <;> try (cases hf;done)
      obtain ⟨m,rfl,_,hw⟩:=DataW.trod_int hu h
      exact ⟨m,rfl,by simpa [Lit.wf,IntKind.min,IntKind.max,IntKind.signed,IntKind.bits] using hw⟩
    · rename_i hu
      split at hf <;> try (cases hf;done)
      obtain ⟨s,rfl,_,hw⟩:=DataW.trod_string hu h
      exact ⟨s,rfl,hw⟩
    · rename_i hu
      split at hf <;> try (cases hf;done)
      obtain ⟨b,rfl,_⟩:=DataW.trod_bool hu h
      exact ⟨b,rfl⟩
    · rename_i e hu
      split at hf <;> try (cases hf;done)
      rename_i a
      simp only [Bool.and_eq_true,beq_iff_eq] at hf
      rcases open_slice hu h with ⟨rfl,_⟩ | ⟨ad,len,cap,m,k,D,Pl,rfl,hb,hl,hm,hmm,_,hi⟩
      · exact ⟨([]:List (El a)),none,0,rfl,Nat.le_refl _,by unfold maxLen;omega,fun _=>rfl,fun h0=>absurd h0 (by simp)⟩
      · have hlm:len≤m:=by rw [hmm];split <;> omega
        have hex : ∀ i,i<len → ∃ (r:List Value) (y:El a),(∀ j v,r[j]?=some v→w.cell? ((ad.add (i*a.size)).add j)=some v)∧r.length=a.size∧Rd w w.heap.size a r y:=by
          intro i hil
          obtain ⟨cs',hc,ht⟩:=hi i (by omega)
          rw [hf.1] at hc
          obtain ⟨_,hcl,hat⟩:=World.cells?_some hc
          obtain ⟨y,hy⟩:=ZeW n e a k cs' _ hf.2 ht
          exact ⟨cs',y,fun j v hv=>by rw [hat j (by have:=(List.getElem?_eq_some_iff.1 hv).1;omega)];exact hv,hcl,hy⟩
        obtain ⟨l,hll,hl2⟩:=Zqn len hex
        refine ⟨l,some ad,cap,by rw [hll],by omega,hm,fun h=>(by cases h),fun h0=>?_⟩
        obtain ⟨r0,hr0,hl0,_⟩:=hl2 0 h0
        have hp:=a.size_pos
        have hc0:=hr0 0 r0[0] (List.getElem?_eq_getElem (by omega))
        have hsp:ad.spot=none:=by
          have:=Zkv hc0
          simpa [Addr.add] using this
        obtain ⟨b,off,sp⟩:=ad
        simp only at hsp
        subst hsp
        refine ⟨b,off,rfl,?_,fun k' hk'=>?_⟩
        · have:=block_lt_of_cell hc0
          simpa [Addr.add] using this
        · obtain ⟨r,hr1,_,hr2⟩:=hl2 k' hk'
          exact ⟨r,fun j v hv=>by have:=hr1 j v hv;simpa [Addr.add_lit] using this,hr2⟩
    · rename_i fs hu
      simp only [Bool.and_eq_true,beq_iff_eq] at hf
      obtain ⟨xs,m,_,_,hcl,hxl,hat⟩:=DataW.trod_struct hu h
      have key : ∀ (l : List Field) (off i : Nat) (d : Ds) (cs' : List Value), Zmd P (fits P n) l off d = true → cs'.length = d.size → cs.drop off = cs' → (∀ (j : Nat) (f : Field), l[j]? = some f → fs.toList[i + j]? = some f) →
          ∃ e:El d,Rd w w.heap.size d cs' e:=by
        intro l
        induction l with
        | nil=>intro off i d cs' hg;simp [Zmd] at hg
        | cons f l ih =>
          intro off i d cs' hg hcl' hd hj
          have hfi:fs[i]?=some f:=by have:=hj 0 f rfl;simpa using this
          have hlt:i<xs.length:=by rw [hxl];exact (Array.getElem?_eq_some_iff.1 hfi).1
          have ht:=hat i f hfi
          rw [List.getElem?_eq_getElem hlt] at ht
          cases l with
          | nil =>
            simp only [Zmd,Bool.and_eq_true,beq_iff_eq] at hg
            rw [hg.1.1,hg.1.2,hd,List.take_of_length_le (by omega)] at ht
            exact ZeW n f.type d m cs' _ hg.2 ht
          | cons g l =>
            cases d with
            | pair a b =>
              simp only [Zmd,Bool.and_eq_true,beq_iff_eq] at hg
              obtain ⟨⟨⟨g1,g2⟩,g3⟩,g4⟩:=hg
              rw [g1,g2,hd] at ht
              obtain ⟨e1,he1⟩:=ZeW n f.type a m _ _ g3 ht
              obtain ⟨e2,he2⟩:=ih (off+a.size) (i+1) b (cs'.drop a.size) g4 (by rw [List.length_drop,hcl'];simp [Ds.size]) (by rw [←hd,List.drop_drop]) (fun j f' hf'=>by have:=hj (j+1) f' (by simpa using hf');rw [←this];congr 1;omega)
              exact ⟨(e1,e2),cs'.take a.size,cs'.drop a.size,(List.take_append_drop _ _).symm,he1,he2⟩
            | _=>simp [Zmd] at hg
      exact key fs.toList 0 0 _ cs hf.2 (by rw [hcl,hf.1]) (by simp) (fun j f' hf'=>by simpa using hf')
    · cases hf
theorem rd_arg {d:Ds}{t:TypeId}{v:Value}{x:DataW H}{p:List MemPlace}(hf:fits P 20 t d=true) (h:DataW.Trod enc P w base spare held t v x p) : ∃ e:El d,Rd w w.heap.size d v.cells.toList e:=by
 obtain ⟨fuel,hf'⟩:=h
 exact ZeW 20 t d fuel _ _ hf hf'
end
def avs:(d:Ds)→El d→List AV
 | .int,n=>[iv n]
 | .str,s=>[sv s]
 | .bool,b=>[bv b]
 | .pair a b,p=>avs a p.1++avs b p.2
 | .slice a,l=>[.sl (List.length l) a.size false (rows (avs a) l)]
theorem Zj7 : ∀ (d:Ds) (x:El d),(avs d x).length=d.size
 | .int,_=>rfl
 | .str,_=>rfl
 | .bool,_=>rfl
 | .pair a b,p=>by simp only [avs,List.length_append,Zj7 a,Zj7 b,Ds.size]
 | .slice a,l=>rfl
def okD:(d:Ds)→El d→Prop
 | .int,n => -9223372036854775808≤n∧n≤9223372036854775807
 | .str,s=>ByteArray.size s≤maxLen
 | .bool,_=>True
 | .pair a b,p=>okD a p.1∧okD b p.2
 | .slice a,l => ∀ (k:Nat) (h:k<List.length l),okD a (l[k])
theorem Rd.ok {w:World}{B:Nat} : ∀ {d:Ds}{cs:List Value}{x:El d},Rd w B d cs x→okD d x
 | .int,cs,x,h=>h.2
 | .str,cs,x,h=>h.2
 | .bool,cs,x,h=>trivial
 | .pair a b,cs,x,⟨c1,c2,e,h1,h2⟩=>⟨Rd.ok h1,Rd.ok h2⟩
 | .slice a,cs,x,⟨A,c,e,hl,hm,h0,h⟩=>fun k hk=>by
  obtain ⟨b,off,_,_,hi⟩:=h (by omega)
  obtain ⟨r,_,hr⟩:=hi k hk
  exact Rd.ok hr
theorem RepC.append {w:World}{g:Gh} : ∀ {cs ds:List AV}{b off:Nat},RepC w g cs b off→RepC w g ds b (off+cs.length)→RepC w g (cs++ds) b off
 | [],ds,b,off,_,h=>by simpa using h
 | c::cs,ds,b,off,h,k=>by
  simp only [RepC,List.cons_append] at h ⊢
  refine ⟨h.1,RepC.append h.2 ?_⟩
  rw [show off+1+cs.length=off+(c::cs).length by simp;omega]
  exact k
theorem RepC.of_list {w:World}{g:Gh}{b:Nat} : ∀ {cs:List AV}{us:List Value}{off:Nat},RepL w g cs us→(∀ j v,us[j]?=some v→w.cell? ⟨b,off+j,none⟩=some v)→RepC w g cs b off
 | [],us,off,_,_=>by simp only [RepC]
 | c::cs,us,off,h,k=>by
  simp only [RepL] at h
  obtain ⟨u,us',rfl,h1,h2⟩:=h
  simp only [RepC]
  refine ⟨⟨u,k 0 u rfl,h1⟩,RepC.of_list h2 fun j v hv=>?_⟩
  have:=k (j+1) v (by simpa using hv)
  rw [show off+1+j=off+(j+1) by omega]
  exact this
theorem ZkG {w:World}{B:Nat}{g:Gh}(hg : ∀ k,k<B→g.D k) : ∀ (d:Ds) (cs:List Value) (x:El d),Rd w B d cs x→RepL w g (avs d x) cs
 | .int,cs,x,h=>by rw [h.1];simp only [avs,RepL];exact ⟨_,[],rfl,by simp only [Rep],rfl⟩
 | .str,cs,x,h=>by rw [h.1];simp only [avs,RepL];exact ⟨_,[],rfl,by simp only [Rep],rfl⟩
 | .bool,cs,x,h=>by rw [show cs=_ from h];simp only [avs,RepL];exact ⟨_,[],rfl,by simp only [Rep],rfl⟩
 | .pair a b,cs,x,⟨c1,c2,e,h1,h2⟩=>by rw [e];simp only [avs];exact (ZkG hg a c1 x.1 h1).append (ZkG hg b c2 x.2 h2)
 | .slice a,cs,l,⟨A,c,e,hl,hm,h0,h⟩=>by
  rw [e]
  simp only [avs,RepL]
  refine ⟨_,[],rfl,?_,rfl⟩
  simp only [Rep]
  refine ⟨Za3 (Zj7 a) l,A,c,rfl,hl,hm,fun h=>(by cases h),h0,fun hne=>?_⟩
  have hpos:0<List.length l:=by
   rcases Nat.eq_zero_or_pos (List.length l) with h' | h'
   ·have:l=[]:=List.eq_nil_of_length_eq_zero h'
    subst this;exact absurd rfl hne
   ·exact h'
  obtain ⟨b,off,eA,hb,hi⟩:=h hpos
  refine ⟨b,off,eA,hg b hb,?_⟩
  have key : ∀ (m:List (El a)) (o:Nat),(∀ k (hk:k<m.length),∃ r,(∀ j v,r[j]?=some v→w.cell? ⟨b,o+k*a.size+j,none⟩=some v)∧RepL w g (avs a m[k]) r)→RepC w g (rows (avs a) m) b o:=by
   intro m
   induction m with
   | nil=>intro o _;simp only [rows,List.flatMap_nil,RepC]
   | cons x m ih =>
    intro o hm'
    simp only [rows,List.flatMap_cons]
    obtain ⟨r,hr1,hr2⟩:=hm' 0 (by simp)
    refine RepC.append (RepC.of_list hr2 fun j v hv=>by have:=hr1 j v hv;simpa using this) ?_
    rw [Zj7]
    refine ih (o+a.size) fun k hk=>?_
    obtain ⟨r,hr1,hr2⟩:=hm' (k+1) (by simpa using hk)
    refine ⟨r,fun j v hv=>?_,by simpa using hr2⟩
    have:=hr1 j v hv
    rw [show o+a.size+k*a.size+j=o+(k+1)*a.size+j by rw [Nat.add_mul];omega]
    exact this
  exact key l off fun k hk=>by
   obtain ⟨r,hr1,hr2⟩:=hi k hk
   exact ⟨r,hr1,ZkG hg a r _ hr2⟩
def g0 (w:World):Gh:=⟨fun k=>k<w.heap.size,fun _ _=>none,[]⟩
theorem sim0 (w:World) (hG:GlobW w):SimH w (g0 w) [] :=
 ⟨fun id ver ty s c h=>(by simp at h),fun i j k hi _=>by obtain ⟨_,_,_,_,_,_,h,_⟩:=hi;simp at h,fun k hk=>hk,fun id ver l h=>(by simp [g0] at h),fun id ver l h=>(by simp [g0] at h),⟨hG,hG.lt⟩,fun i k o T vs h=>(by simp at h),fun i j k hi _=>by obtain ⟨_,_,_,h⟩:=hi;simp at h⟩
theorem ZkZ {P:Program}{f:FuncId}{args:List AV}(hc:ACalls P f args [] fun x h'=>h'=[]∧x=.ret (bv true)) {w:World}(hG:GlobW w) {vs:Array Value}(hr:RepL w (g0 w) args vs.toList) :
  Calls P f vs w fun e w'=>e=.returned (.bool true)∧Below w.heap.size w w':=by
 refine (hc.2 w (g0 w) vs (sim0 w hG) hr).mono ?_
 rintro e w' ⟨x,h',g',h1,h2,h3,h4,h5,rfl,rfl⟩
 cases e <;> simp only [EndR] at h1
 simp only [Rep] at h1
 refine ⟨by rw [h1],h4.os,h4.tape,h4.output,h4.size,fun k hk=>h4.block k hk ?_⟩
 rintro (⟨i,_,_,_,_,_,_,h,_⟩ | ⟨i,_,_,_,h⟩) <;> simp at h
section
variable {H : Type} {enc : TypeId × Value → H} {P : Program} {w : World} {base : Nat} {spare : Nat → Bool} {held : Bool}
theorem ZiX (d:Ds) {t:TypeId}{v:Value}{x:DataW H}{p:List MemPlace}{fs:Array Field}{r:Reach}{b:Nat}(ht:P.underlying t=some (.struct fs)) (hf:fits P 20 t d=true) (hv:Value.okWide P w r b t v) (h:DataW.Trod enc P w base spare held t v x p) :
  ∃ e:El d,okD d e∧Rep w (g0 w) (.agg (avs d e)) v:=by
 obtain ⟨e,he⟩:=rd_arg hf h
 obtain ⟨cs,rfl,_⟩:=okWide_struct ht hv
 refine ⟨e,he.ok,?_⟩
 simp only [Rep]
 exact ⟨cs,rfl,ZkG (fun k hk=>hk) d _ e he⟩
theorem ZnN (d:Ds) {t:TypeId}{v:Value}{x:DataW H}{p:List MemPlace}(hf:fits P 20 t d=true) (hv:v.cells = #[v]) (h:DataW.Trod enc P w base spare held t v x p) :
  ∃ e:El d,okD d e∧RepL w (g0 w) (avs d e) [v]:=by
 obtain ⟨e,he⟩:=rd_arg hf h
 refine ⟨e,he.ok,?_⟩
 have:=ZkG (g:=g0 w) (fun k hk=>hk) d _ e he
 rwa [hv] at this
theorem Zmu {t:TypeId}{v:Value}{x:DataW H}{p:List MemPlace}{r:Reach}{b:Nat}(ht:P.underlying t=some (.int .i64)) (hv:Value.okWide P w r b t v) (h:DataW.Trod enc P w base spare held t v x p) :
  ∃ e:Int,(-9223372036854775808≤e∧e≤9223372036854775807)∧Rep w (g0 w) (iv e) v:=by
 obtain ⟨n,rfl⟩:=okWide_int ht hv
 obtain ⟨e,he,hr⟩:=ZnN .int (by simp [fits,ht]) rfl h
 simp only [avs,RepL] at hr
 obtain ⟨u,us,h1,h2,rfl⟩:=hr
 cases h1
 exact ⟨e,he,h2⟩
theorem arg_str {t:TypeId}{v:Value}{x:DataW H}{p:List MemPlace}{r:Reach}{b:Nat}(ht:P.underlying t=some .string) (hv:Value.okWide P w r b t v) (h:DataW.Trod enc P w base spare held t v x p) :
  ∃ e:ByteArray,e.size≤maxLen∧Rep w (g0 w) (sv e) v:=by
 obtain ⟨n,rfl⟩:=okWide_string ht hv
 obtain ⟨e,he,hr⟩:=ZnN .str (by simp [fits,ht]) rfl h
 simp only [avs,RepL] at hr
 obtain ⟨u,us,h1,h2,rfl⟩:=hr
 cases h1
 exact ⟨e,he,h2⟩
end
theorem Zn4 {w:World}{g:Gh}{c:AV}{v:Value}{cs:List AV}{vs:List Value}(h:Rep w g c v) (hs:RepL w g cs vs):RepL w g (c::cs) (v::vs):=by simp only [RepL];exact ⟨v,vs,rfl,h,hs⟩
theorem repL0 {w:World}{g:Gh}:RepL w g [] []:=by simp only [RepL]
end Go.Proofs.YthdifaphoaekoaaGreatDoor
end
section
namespace Go.Proofs.YthdifaphoaekoaaGreatDoor
open Go.Ab Go.RowKit Civ
attribute [local simp] Zbl Zby Zbn Zbr ZdG ZdF ZdQ ZbN
section
theorem Zi3 {a0 a1 a2 c0 c1 c2:AV}{l:List AV}:setCells (a0::a1::a2::l) 0 [c0,c1,c2]=c0::c1::c2::l:=rfl
theorem Zi2 {a0 a1 a2:AV}{l:List AV}:((a0::a1::a2::l).drop 0).take 3=[a0,a1,a2]:=rfl
end
def c41:AC:=(Sr [Oo 0 (.new 26 3 [(.sl 0 0 true []),(.sl 0 0 true []),(.sl 0 0 true [])])] (Sr [Oo 5 (.call (.func 84) [(.const (.string ⟨#[82,117,108,101,32,101,117,32,49,57,56,49,32,109,97,120,32,77,97,114,32,108,97,115,116,83,117,110,32,49,58,48,48,117,32,49,58,48,48,32,83,10,82,117,108,101,32,101,117,32,49,57,57,54,32,109,97,120,32,79,99,116,32,108,97,115,116,83,117,110,32,49,58,48,48,117,32,48,32,45,10,90,111,110,101,32,72,101,114,101,47,84,111,119,110,32,48,58,49,48,32,45,32,76,77,84,32,49,56,56,48,32,74,97,110,32,49,32,48,10,32,32,49,58,48,48,32,101,117,32,67,69,37,115,84,10,76,105,110,107,32,72,101,114,101,47,84,111,119,110,32,79,108,100,10]⟩))]),Mv 4 5,Ex 6 4 0,Ex 7 4 1,Ex 8 4 2,Oo 1 (.new 26 3 [(.sl 0 0 true []),(.sl 0 0 true []),(.sl 0 0 true [])]),⟨none,none,(.store 3 (.tmp 1) (.tmp 6))⟩,Mv 2 7,Mv 3 8] (Sr [Oo 9 (.load true 3 (.tmp 1)),⟨none,none,(.store 3 (.tmp 0) (.tmp 9))⟩] .ret)))
theorem k41:ZaD Tryz.prog 41=some ⟨c41,[(.cell 0 true 3)],10⟩:=by kernel_rfl
def txtS:Bs:=[82,117,108,101,32,101,117,32,49,57,56,49,32,109,97,120,32,77,97,114,32,108,97,115,116,83,117,110,32,49,58,48,48,117,32,49,58,48,48,32,83,10,82,117,108,101,32,101,117,32,49,57,57,54,32,109,97,120,32,79,99,116,32,108,97,115,116,83,117,110,32,49,58,48,48,117,32,48,32,45,10,90,111,110,101,32,72,101,114,101,47,84,111,119,110,32,48,58,49,48,32,45,32,76,77,84,32,49,56,56,48,32,74,97,110,32,49,32,48,10,32,32,49,58,48,48,32,101,117,32,67,69,37,115,84,10,76,105,110,107,32,72,101,114,101,47,84,111,119,110,32,79,108,100,10]
def nEu:ByteArray:=bA [101,117]
def nHt:ByteArray:=bA [72,101,114,101,47,84,111,119,110]
def nOld:ByteArray:=bA [79,108,100]
def rul0:List Rul:=[(nEu,1981,2100,3,(2,0,0),3600,3,3600,bA [83]),(nEu,1996,2100,10,(2,0,0),3600,3,0,bA [])]
def era0:Era:=(600,bA [],0,bA [76,77,84],false,((1880,1,1),0,2))
def era1:Era:=(3600,nEu,0,bA [67,69,37,115,84],true,((0,0,0),0,0))
def src0:Src:=(rul0,[(nHt,[era0,era1])],[(nHt,nOld)])
theorem prs0:ZbD (bA txtS)=(src0,0,0):=by kernel_rfl
theorem ZeC:ZdY src0:=by
 refine ⟨fun r hr=>?_,fun z hz=>?_,fun l hl=>?_⟩
 ·simp only [src0,rul0,List.mem_cons,List.not_mem_nil,or_false] at hr
  rcases hr with rfl | rfl <;> exact ⟨by decide,by decide⟩
 ·simp only [src0,List.mem_cons,List.not_mem_nil,or_false] at hz
  subst hz
  refine ⟨by decide,fun x hx=>?_⟩
  simp only [List.mem_cons,List.not_mem_nil,or_false] at hx
  rcases hx with rfl | rfl <;> exact ⟨by decide,by decide⟩
 simp only [src0,List.mem_cons,List.not_mem_nil,or_false] at hl
 subst hl;exact ⟨by decide,by decide⟩
theorem rp_txt {h:AH}:Ac 84 [sv (bA txtS)] h (.tup [.agg (srcC src0),iv 0,iv 0]):=by
 have:=rparse_a (s:=bA txtS) (h:=h)
 rw [prs0] at this
 exact this
theorem ZdE {h:AH}:Ac 41 [] h (.agg (srcC src0)):=by
 refine tI' k41 fun N hn hlt hlA hbd=>?_
 simp only [tb'] at hbd ⊢
 refine wr'<|E' (Za8 (hl0 hn) ha0) pt<|sn'<|wr'<|Zad mp (rp_txt) pt<|mv' lk pt<|V' (ZaV lk gt) pt<|V' (ZaV lk gt) pt<|V' (ZaV lk gt) pt<|E' (Za8 (hl1 hn) ha1) pt<|E' (Zam lk (cvl lk rfl) (hga hn rfl) rfl (nb' rfl) rfl Zi3 (hs1 hn)) ptn<|?_
 exact mv' lk pt<|mv' lk pt<|sn'<|wr'<|V' (Zap lk (hga hn rfl) Zi2 rfl) pt<|E' (Zam lk (cvl lk rfl) (hga hn rfl) rfl (nb' rfl) rfl Zi3 (hs0 hn)) ptn<|sn'<|Zaa<|Zaf (rs1 (rr_c gt (hga hn rfl) (ld1 Zi2 rfl)))<|rT' rfl
def insT (t:Trn):List Trn→List Trn
 | []=>[t]
 | u::l=>if t.1≤u.1 then t::u::l else u::insT t l
def insS:List Trn→List Trn
 | []=>[]
 | t::l=>insT t (insS l)
theorem ZhM (t:Trn) : ∀ l:List Trn,(insT t l).Perm (t::l)
 | []=>.refl _
 | u::l=>by
  rw [insT]
  split
  ·exact .refl _
  exact ((ZhM t l).cons u).trans (List.Perm.swap t u l)
theorem Zk2 : ∀ l:List Trn,(insS l).Perm l
 | []=>.refl _
 | t::l=>(ZhM t _).trans ((Zk2 l).cons t)
theorem Zns {t:Trn} : ∀ {l:List Trn},l.Pairwise (fun a b=>a.1≤b.1)→(insT t l).Pairwise fun a b=>a.1≤b.1
 | [],_=>by simp [insT]
 | u::l,h=>by
  rw [insT]
  rw [List.pairwise_cons] at h
  split
  ·rename_i hle
   refine List.pairwise_cons.2 ⟨fun x hx=>?_,List.pairwise_cons.2 h⟩
   rcases List.mem_cons.1 hx with rfl | hx
   ·exact hle
   have:=h.1 x hx;omega
  rename_i hle
  refine List.pairwise_cons.2 ⟨fun x hx=>?_,Zns h.2⟩
  rcases List.mem_cons.1 ((ZhM t l).mem_iff.1 hx) with rfl | hx
  ·omega
  exact h.1 x hx
theorem Znt : ∀ l:List Trn,(insS l).Pairwise fun a b=>a.1≤b.1
 | []=>.nil
 | t::l=>Zns (Znt l)
def Zdi (l:List Rul) (nm:ByteArray) (sh:Int):List Tim×Int :=
 if Zdp l nm sh≠0 then ([],Zdp l nm sh) else if gapB (insS (Zbb l nm))=true then ([],4) else if 1000<(insS (Zbb l nm)).length then ([],2) else (outV sh 0 (insS (Zbb l nm)),0)
theorem Zjq (l:List Rul) (nm:ByteArray) (sh:Int):ZaU l nm sh=Zdi l nm sh:=by
 unfold Zdi
 by_cases h:Zdp l nm sh=0
 ·rw [if_neg (by simp [h]),Zm0 h (Zk2 _) (Znt _)]
 rw [if_pos h,Zkr h]
theorem Zm2:(Zdi rul0 nEu 3600).2=0:=by kernel_rfl
theorem Zm1:(Zdi rul0 nEu 3600).1.length=225:=by kernel_rfl
theorem tim0_15:(Zdi rul0 nEu 3600).1[15]?=some (828234000,3600,bA [83]):=by kernel_rfl
theorem tim0_us:(Zdi rul0 (bA [117,115]) 3600)=([],5):=by kernel_rfl
theorem chk0:ZbY src0=0:=by
 have h1:ZbK src0=0:=by kernel_rfl
 have h2:(ZcZ src0.2.1 src0.2.2).Nodup:=by decide
 have h3:ZhI src0=false:=by kernel_rfl
 have h4:Za2 (errX src0.1) (Zc5 src0.2.1)=0:=by
  refine Zme fun y hy=>?_
  simp only [src0,Zc5,List.flatMap_cons,List.flatMap_nil,List.append_nil,List.mem_cons,List.not_mem_nil,or_false] at hy
  rcases hy with rfl | rfl
  ·rfl
  show (if nEu=⟨#[]⟩ then 0 else (ZaU rul0 nEu 3600).2)=0
  rw [Zjq,Zm2];split <;> rfl
 have h5:(src0.2.1.any fun z=>!risL (ZaJ z.2))=false:=by kernel_rfl
 unfold ZbY
 rw [if_neg (by simp [h1]),if_neg (by simpa using h2),if_neg (by simp [h3]),if_neg (by simp [h4]),if_neg (by simp [h5])]
end Go.Proofs.YthdifaphoaekoaaGreatDoor
end
section
namespace Go.Proofs.YthdifaphoaekoaaGreatDoor
open Go.Ab Go.RowKit Civ
attribute [local simp] Zbl Zby Zbn Zbr ZdG ZdF ZdQ ZbN
section
theorem Zrd {a0 a1 a2:AV}{l:List AV}:(a0::a1::a2::l).take 3=[a0,a1,a2]:=rfl
theorem ZgD {τ:Operand→AV}{y0 y1 y2:Operand}{x0_0 x1_0 x2_0:AV}(h0:Zaw (τ y0)=some [x0_0]) (l0:[x0_0].all leaf=true) (h1:Zaw (τ y1)=some [x1_0]) (l1:[x1_0].all leaf=true) (h2:Zaw (τ y2)=some [x2_0]) (l2:[x2_0].all leaf=true):Zau τ [(0,1,y0),(1,1,y1),(2,1,y2)] [(.v (.int .i64 0)),(.v (.int .i64 0)),(.v (.string ⟨#[]⟩))]=some [x0_0,x1_0,x2_0]:=by
 simp only [Zau,h0,l0,h1,l1,h2,l2]
 rfl
theorem Zfy {a0 b0:Int}{a1 b1:Int}{a2 b2:ByteArray}:Zbz [.int,.int,.str] [iv a0,iv a1,sv a2] [iv b0,iv b1,sv b2]=some (decide (a0=b0∧a1=b1∧a2=b2)):=by
 simp only [Zbz,Zeu,if_true,Zdu,Option.some.injEq]
 simp only [Bool.decide_and,Bool.and_true]
 try (congr 1 <;> simp)
 try rfl
theorem ZoA {a0 a1 c0 c1:AV}{l:List AV}:setCells (a0::a1::l) 0 [c0,c1]=c0::c1::l:=rfl
theorem ZgC {a0 a1 a2 c0 c1 c2:AV}{l:List AV}:setCells (a0::a1::a2::l) 0 [c0,c1,c2]=c0::c1::c2::l:=rfl
theorem Zi1 {a0 a1 a2:AV}{l:List AV}:((a0::a1::a2::l).drop 0).take 3=[a0,a1,a2]:=rfl
theorem ZgB {τ:Operand→AV}{y0 y1 y2:Operand}{x0_0 x1_0 x2_0:AV}(h0:Zaw (τ y0)=some [x0_0]) (l0:[x0_0].all leaf=true) (h1:Zaw (τ y1)=some [x1_0]) (l1:[x1_0].all leaf=true) (h2:Zaw (τ y2)=some [x2_0]) (l2:[x2_0].all leaf=true):Zau τ [(0,1,y0),(1,1,y1),(2,1,y2)] [(.v (.int .i64 0)),(.v (.int .i64 0)),(.v (.string ⟨#[]⟩))]=some [x0_0,x1_0,x2_0]:=by
 simp only [Zau,h0,l0,h1,l1,h2,l2]
 rfl
theorem ZgA {τ:Operand→AV}{y0 y1:Operand}{x0_0 x1_0:AV}(h0:Zaw (τ y0)=some [x0_0]) (l0:[x0_0].all leaf=true) (h1:Zaw (τ y1)=some [x1_0]) (l1:[x1_0].all leaf=true):Zau τ [(0,1,y0),(2,1,y1)] [(.v (.int .i64 0)),(.v (.int .i64 0)),(.v (.string ⟨#[]⟩))]=some [x0_0,(.v (.int .i64 0)),x1_0]:=by
 simp only [Zau,h0,l0,h1,l1]
 rfl
end
def c27:AC:=(Sr [Mb 0 false] (Sr [Cl 6 41 [],Oo 7 (.fld false 0 1 (.tmp 6)),Oo 8 (.call (.func 28) [(.tmp 7),(.const (.string ⟨#[101,117]⟩)),(Ci 3600)]),Mv 5 8,Ex 9 5 0,Ex 10 5 1,Mv 1 9,Mv 2 10] (Sr [Cl 12 41 [],Oo 13 (.fld false 0 1 (.tmp 12)),Oo 14 (.call (.func 28) [(.tmp 13),(.const (.string ⟨#[117,115]⟩)),(Ci 3600)]),Mv 11 14,Ex 15 11 0,Ex 16 11 1,Mv 3 15,Mv 4 16] (Sr [Mv 17 2,Bc 18 .eql 17 0,Mv 19 18,Ot 20 19 (mt 4),Ot 21 19 (.bin .eql (.tmp 20) (Ci 5)),Oo 22 (.pick (.tmp 19) (.tmp 21) (.const (.bool false))),Mv 23 22,Ot 24 23 (mt 1),Ot 25 23 (.len false (.tmp 24)),Ot 26 23 (.bin .eql (.tmp 25) (Ci 225)),Oo 27 (.pick (.tmp 23) (.tmp 26) (.const (.bool false))),Mv 28 27,Ot 29 28 (mt 1),Ot 30 28 (.ia 3 (.tmp 29) (Ci 15)),Ot 31 28 (.load true 3 (.tmp 30)),Ot 32 28 (.build [(iv 0),(iv 0),Ss] [(0,(1,(Ci 828234000))),(1,(1,(Ci 3600))),(2,(1,(.const (.string ⟨#[83]⟩))))]),Ot 33 28 (.eqs false [.int,.int,.str] (.tmp 31) (.tmp 32)),Oo 34 (.pick (.tmp 28) (.tmp 33) (.const (.bool false))),Mv 0 34] .ret))))
theorem k27:ZaD Tryz.prog 27=some ⟨c27,[(.tmp 0)],35⟩:=by kernel_rfl
def c13:AC:=(Sr [Mb 0 false] (Sr [Cl 12 41 [],Oo 13 (.call (.func 16) [(.tmp 12),(.const (.string ⟨#[79,108,100]⟩))]),Mv 11 13,Ex 14 11 0,Ex 15 11 1,Oo 1 (.new 44 2 [Ss,(.sl 0 0 true [])]),⟨none,none,(.store 2 (.tmp 1) (.tmp 14))⟩,Mv 2 15] (Sr [Cl 17 41 [],Oo 18 (.call (.func 17) [(.tmp 17),(.const (.string ⟨#[72,101,114,101,47,84,111,119,110]⟩))]),Mv 16 18,Ex 19 16 0,Ex 20 16 1,Mv 3 19,Mv 4 20] (Sr [Cl 22 41 [],Oo 23 (.call (.func 15) [(.tmp 22),(.const (.string ⟨#[79,108,100]⟩)),(Ci 1585443600)]),Mv 21 23,Ex 24 21 0,Ex 25 21 1,Oo 5 (.new 31 3 [(iv 0),(iv 0),Ss]),⟨none,none,(.store 3 (.tmp 5) (.tmp 24))⟩,Mv 6 25] (Sr [Cl 27 41 [],Oo 28 (.call (.func 15) [(.tmp 27),(.const (.string ⟨#[79,108,100]⟩)),(Ci 1585443599)]),Mv 26 28,Ex 29 26 0,Ex 30 26 1,Oo 7 (.new 31 3 [(iv 0),(iv 0),Ss]),⟨none,none,(.store 3 (.tmp 7) (.tmp 29))⟩,Mv 8 30] (Sr [Cl 32 41 [],Oo 33 (.call (.func 15) [(.tmp 32),(.const (.string ⟨#[78,101,119]⟩)),(Ci 0)]),Mv 31 33,Ex 34 31 0,Ex 35 31 1,Oo 9 (.new 31 3 [(iv 0),(iv 0),Ss]),⟨none,none,(.store 3 (.tmp 9) (.tmp 34))⟩,Mv 10 35] (Sr [Cl 36 41 [],Cl 37 14 [(.tmp 36)],Bc 38 .eql 37 0,Mv 39 38,Ot 40 39 (mt 2),Ot 41 39 (.bin .eql (.tmp 40) (Ci 0)),Oo 42 (.pick (.tmp 39) (.tmp 41) (.const (.bool false))),Mv 43 42,Ot 44 43 (mt 4),Ot 45 43 (.bin .eql (.tmp 44) (Ci 0)),Oo 46 (.pick (.tmp 43) (.tmp 45) (.const (.bool false))),Mv 47 46,Ot 48 47 (mt 6),Ot 49 47 (.bin .eql (.tmp 48) (Ci 0)),Oo 50 (.pick (.tmp 47) (.tmp 49) (.const (.bool false))),Mv 51 50,Ot 52 51 (mt 8),Ot 53 51 (.bin .eql (.tmp 52) (Ci 0)),Oo 54 (.pick (.tmp 51) (.tmp 53) (.const (.bool false))),Mv 55 54,Ot 56 55 (mt 10),Ot 57 55 (.bin .eql (.tmp 56) (Ci 5)),Oo 58 (.pick (.tmp 55) (.tmp 57) (.const (.bool false))),Mv 59 58,Ot 60 59 (.fa 0 (.tmp 1)),Ot 61 59 (.load false 1 (.tmp 60)),Ot 62 59 (.bin .eql (.tmp 61) (.const (.string ⟨#[72,101,114,101,47,84,111,119,110]⟩))),Oo 63 (.pick (.tmp 59) (.tmp 62) (.const (.bool false))),Mv 64 63,Ot 65 64 (mt 3),Ot 66 64 (.len false (.tmp 65)),Ot 67 64 (.bin .eql (.tmp 66) (Ci 1)),Oo 68 (.pick (.tmp 64) (.tmp 67) (.const (.bool false))),Mv 69 68,Ot 70 69 (mt 3),Ot 71 69 (.ia 1 (.tmp 70) (Ci 0)),Ot 72 69 (.load false 1 (.tmp 71)),Ot 73 69 (.bin .eql (.tmp 72) (.const (.int .i64 (-2840141400)))),Oo 74 (.pick (.tmp 69) (.tmp 73) (.const (.bool false))),Mv 75 74,Ot 76 75 (.load true 3 (.tmp 5)),Ot 77 75 (.build [(iv 0),(iv 0),Ss] [(0,(1,(Ci 7200))),(1,(1,(Ci 3600))),(2,(1,(.const (.string ⟨#[67,69,83,84]⟩))))]),Ot 78 75 (.eqs false [.int,.int,.str] (.tmp 76) (.tmp 77)),Oo 79 (.pick (.tmp 75) (.tmp 78) (.const (.bool false))),Mv 80 79,Ot 81 80 (.load true 3 (.tmp 7)),Ot 82 80 (.build [(iv 0),(iv 0),Ss] [(0,(1,(Ci 3600))),(2,(1,(.const (.string ⟨#[67,69,84]⟩))))]),Ot 83 80 (.eqs false [.int,.int,.str] (.tmp 81) (.tmp 82)),Oo 84 (.pick (.tmp 80) (.tmp 83) (.const (.bool false))),Mv 0 84] .ret)))))))
theorem k13:ZaD Tryz.prog 13=some ⟨c13,[(.tmp 0)],85⟩:=by kernel_rfl
theorem rtimes0 {h:AH}:Ac 28 [.sl 2 11 false (rows rulC rul0),sv nEu,iv 3600] h (.tup [.sl (Zdi rul0 nEu 3600).1.length 3 false (rows timC (Zdi rul0 nEu 3600).1),iv (Zdi rul0 nEu 3600).2]):=by
 have:=Zgl (l:=rul0) (nm:=nEu) (sh:=3600) (h:=h) (Zgr ZeC) (by decide)
 rwa [Zjq] at this
theorem rtimes1 {h:AH}:Ac 28 [.sl 2 11 false (rows rulC rul0),sv (bA [117,115]),iv 3600] h (.tup [.sl ([]:List Tim).length 3 false (rows timC []),iv 5]):=by
 have:=Zgl (l:=rul0) (nm:=bA [117,115]) (sh:=3600) (h:=h) (Zgr ZeC) (by decide)
 rwa [Zjq,tim0_us] at this
theorem tim0_l15 : ∃ h:15<(Zdi rul0 nEu 3600).1.length,(Zdi rul0 nEu 3600).1[15]=(828234000,3600,bA [83]):=by
 have h:15<(Zdi rul0 nEu 3600).1.length:=by rw [Zm1];decide
 exact ⟨h,by have:=tim0_15;rw [List.getElem?_eq_getElem h] at this;exact Option.some.inj this⟩
theorem rbegun_a {h:AH}:Ac 27 [] h (bv true):=by
 obtain ⟨hl15,h15⟩:=tim0_l15
 refine tI' k27 fun N hn hlt hlA hbd=>?_
 simp only [tb'] at hbd ⊢
 refine wr'<|mv' lkb pt<|sn'<|wr'<|Zad mp0 (ZdE) pt<|V' (v_fld lk gt) pt<|Zad mp (rtimes0) pt<|mv' lk pt<|V' (ZaV lk gt) pt<|V' (ZaV lk gt) pt<|mv' lk pt<|?_
 refine mv' lk pt<|sn'<|wr'<|Zad mp0 (ZdE) pt<|V' (v_fld lk gt) pt<|Zad mp (rtimes1) pt<|mv' lk pt<|V' (ZaV lk gt) pt<|V' (ZaV lk gt) pt<|mv' lk pt<|mv' lk pt<|Zar<|?_
 refine Zah<|wr'<|mv' lk pt<|V' (ZaW lk lki) pt<|mv' lk pt<|?_
 refine Zbx (t:=19) gt (b:=true) (by exact decide_eq_true Zm2) pt ?_
 refine s_do gt<|mv' lk pt<|s_do gt<|V' (ZaW lk lki) pt<|V' (Zai lk lk) pt<|mv' lk pt<|?_
 refine Zbx (t:=23) gt (b:=true) (by rfl) pt ?_
 refine s_do gt<|mv' lk pt<|s_do gt<|V' (ZaO lk) pt<|s_do gt<|V' (ZaW lk lki) pt<|V' (Zai lk lk) pt<|mv' lk pt<|?_
 refine Zbx (t:=28) gt (b:=true) (by exact decide_eq_true (by rw [Zm1];rfl)) pt ?_
 refine s_do gt<|mv' lk pt<|s_do gt<|?_
 refine V' (ZaT (k:=15) lk lki Zd7 (nb' rfl) ro (by omega) ro rfl) pt ?_
 refine s_do gt<|V' (ZaN lk Zrd rfl) pt<|s_do gt<|V' (Zay (ZgD (cvl lki rfl) rfl (cvl lki rfl) rfl (cvl lks rfl) rfl)) pt<|s_do gt<|V' (ZgM lk lk Zfy) pt<|V' (Zai lk lk) pt<|mv' lk pt<|sn'<|Zaa<|Zaf rz<|rT'<|?_
 exact bvx (by rw [h15];rfl)
theorem find0:ZaB src0 nOld=((nHt,[era0,era1]),0):=by
 unfold ZaB;rw [if_neg (by simp [chk0])];kernel_rfl
theorem find1:ZaB src0 nHt=((nHt,[era0,era1]),0):=by
 unfold ZaB;rw [if_neg (by simp [chk0])];kernel_rfl
theorem find2:ZaB src0 (bA [78,101,119])=(zonO,5):=by
 unfold ZaB;rw [if_neg (by simp [chk0])];kernel_rfl
theorem told0 {n:Int}(h:endV era0≤n):ZcB rul0 [era0,era1] n=locV era1 (ZdX 0 ⟨#[]⟩ (Zdi rul0 nEu 3600).1 n).1 (ZdX 0 ⟨#[]⟩ (Zdi rul0 nEu 3600).1 n).2:=by
 rw [ZcB,if_pos h,ZcB]
 unfold Zc9
 have:Zbv rul0 era1=(Zdi rul0 nEu 3600).1:=by
  unfold Zbv
  rw [if_neg (by decide),Zjq];rfl
 rw [this];rfl
theorem at0:atV src0 nOld 1585443600=((7200,3600,bA [67,69,83,84]),0):=by
 unfold atV
 rw [find0]
 simp only [ne_eq,not_true_eq_false,if_false]
 rw [if_neg (by decide)]
 show (ZcB rul0 [era0,era1] 1585443600,(0:Int))=_
 rw [told0 (by decide)]
 kernel_rfl
theorem at1:atV src0 nOld 1585443599=((3600,0,bA [67,69,84]),0):=by
 unfold atV
 rw [find0]
 simp only [ne_eq,not_true_eq_false,if_false]
 rw [if_neg (by decide)]
 show (ZcB rul0 [era0,era1] 1585443599,(0:Int))=_
 rw [told0 (by decide)]
 kernel_rfl
theorem at2:atV src0 (bA [78,101,119]) 0=(locZ,5):=by
 unfold atV
 rw [find2];rfl
theorem zf0 {h:AH}:Ac 16 [.agg (srcC src0),sv nOld] h (.tup [.agg (zonC (nHt,[era0,era1])),iv 0]):=by
 have:=Zpg (a:=src0.1) (z:=src0.2.1) (k:=src0.2.2) (nm:=nOld) (h:=h) ZeC
 rw [show (src0.1,src0.2.1,src0.2.2)=src0 from rfl,find0] at this
 exact this
theorem ze0 {h:AH}:Ac 17 [.agg (srcC src0),sv nHt] h (.tup [.sl 1 1 false (rows intC [-2840141400]),iv 0]):=by
 have:=Zph (a:=src0.1) (z:=src0.2.1) (k:=src0.2.2) (nm:=nHt) (h:=h) ZeC
 rw [show (src0.1,src0.2.1,src0.2.2)=src0 from rfl,find1,show ZaJ ((nHt,[era0,era1]),(0:Int)).1.2=[-2840141400] from by kernel_rfl] at this
 exact this
theorem za0 {h:AH}:Ac 15 [.agg (srcC src0),sv nOld,iv 1585443600] h (.tup [.agg (locC3 (7200,3600,bA [67,69,83,84])),iv 0]):=by
 have:=at_a (a:=src0.1) (z:=src0.2.1) (k:=src0.2.2) (nm:=nOld) (n:=1585443600) (h:=h) ZeC
 rw [show (src0.1,src0.2.1,src0.2.2)=src0 from rfl,at0] at this
 exact this
theorem za1 {h:AH}:Ac 15 [.agg (srcC src0),sv nOld,iv 1585443599] h (.tup [.agg (locC3 (3600,0,bA [67,69,84])),iv 0]):=by
 have:=at_a (a:=src0.1) (z:=src0.2.1) (k:=src0.2.2) (nm:=nOld) (n:=1585443599) (h:=h) ZeC
 rw [show (src0.1,src0.2.1,src0.2.2)=src0 from rfl,at1] at this
 exact this
theorem za2 {h:AH}:Ac 15 [.agg (srcC src0),sv (bA [78,101,119]),iv 0] h (.tup [.agg (locC3 locZ),iv 5]):=by
 have:=at_a (a:=src0.1) (z:=src0.2.1) (k:=src0.2.2) (nm:=bA [78,101,119]) (n:=0) (h:=h) ZeC
 rw [show (src0.1,src0.2.1,src0.2.2)=src0 from rfl,at2] at this
 exact this
theorem zc0 {h:AH}:Ac 14 [.agg (srcC src0)] h (iv 0):=by
 have:=Zjk (a:=src0.1) (z:=src0.2.1) (k:=src0.2.2) (h:=h) ZeC
 rw [show (src0.1,src0.2.1,src0.2.2)=src0 from rfl,chk0] at this
 exact this
theorem ZmQ {h:AH}:Ac 13 [] h (bv true):=by
 refine tI' k13 fun N hn hlt hlA hbd=>?_
 simp only [tb'] at hbd ⊢
 refine wr'<|mv' lkb pt<|sn'<|wr'<|Zad mp0 (ZdE) pt<|Zad mp (zf0) pt<|mv' lk pt<|V' (ZaV lk gt) pt<|V' (ZaV lk gt) pt<|E' (Za8 (hl0 hn) ha0) pt<|E' (Zam lk (cvl lk rfl) (hga hn rfl) rfl (nb' rfl) rfl ZoA (hs0 hn)) ptn<|?_
 refine mv' lk pt<|sn'<|wr'<|Zad mp0 (ZdE) pt<|Zad mp (ze0) pt<|mv' lk pt<|V' (ZaV lk gt) pt<|V' (ZaV lk gt) pt<|mv' lk pt<|mv' lk pt<|sn'<|?_
 refine wr'<|Zad mp0 (ZdE) pt<|Zad mp (za0) pt<|mv' lk pt<|V' (ZaV lk gt) pt<|V' (ZaV lk gt) pt<|E' (Za8 (hl1 hn) ha1) pt<|E' (Zam lk (cvl lk rfl) (hga hn rfl) rfl (nb' rfl) rfl ZgC (hs1 hn)) ptn<|mv' lk pt<|sn'<|wr'<|?_
 refine Zad mp0 (ZdE) pt<|Zad mp (za1) pt<|mv' lk pt<|V' (ZaV lk gt) pt<|V' (ZaV lk gt) pt<|E' (Za8 (hl2 hn) ha2) pt<|E' (Zam lk (cvl lk rfl) (hga hn rfl) rfl (nb' rfl) rfl ZgC (hs2 hn)) ptn<|mv' lk pt<|sn'<|wr'<|Zad mp0 (ZdE) pt<|Zad mp (za2) pt<|?_
 refine mv' lk pt<|V' (ZaV lk gt) pt<|V' (ZaV lk gt) pt<|E' (Za8 (hl3 hn) ha3) pt<|E' (Zam lk (cvl lk rfl) (hga hn rfl) rfl (nb' rfl) rfl ZgC (hs3 hn)) ptn<|mv' lk pt<|sn'<|wr'<|Zad mp0 (ZdE) pt<|Zad mp (zc0) pt<|V' (ZaW lk lki) pt<|mv' lk pt<|?_
 refine Zbx (t:=39) gt (b:=true) (by rfl) pt ?_
 refine s_do gt<|mv' lk pt<|s_do gt<|V' (ZaW lk lki) pt<|V' (Zai lk lk) pt<|mv' lk pt<|?_
 refine Zbx (t:=43) gt (b:=true) (by rfl) pt ?_
 refine s_do gt<|mv' lk pt<|s_do gt<|V' (ZaW lk lki) pt<|V' (Zai lk lk) pt<|mv' lk pt<|?_
 refine Zbx (t:=47) gt (b:=true) (by rfl) pt ?_
 refine s_do gt<|mv' lk pt<|s_do gt<|V' (ZaW lk lki) pt<|V' (Zai lk lk) pt<|mv' lk pt<|?_
 refine Zbx (t:=51) gt (b:=true) (by rfl) pt ?_
 refine s_do gt<|mv' lk pt<|s_do gt<|V' (ZaW lk lki) pt<|V' (Zai lk lk) pt<|mv' lk pt<|?_
 refine Zbx (t:=55) gt (b:=true) (by rfl) pt ?_
 refine s_do gt<|mv' lk pt<|s_do gt<|V' (ZaW lk lki) pt<|V' (Zai lk lk) pt<|mv' lk pt<|?_
 refine Zbx (t:=59) gt (b:=true) (by rfl) pt ?_
 refine s_do gt<|V' (Zac lk) pt<|s_do gt<|V' (Zab lk (hga hn rfl) gt0) pt<|s_do gt<|V' (Zck lk lks) pt<|V' (Zai lk lk) pt<|mv' lk pt<|?_
 refine Zbx (t:=64) gt (b:=true) (by rfl) pt ?_
 refine s_do gt<|mv' lk pt<|s_do gt<|V' (ZaO lk) pt<|s_do gt<|V' (ZaW lk lki) pt<|V' (Zai lk lk) pt<|mv' lk pt<|?_
 refine Zbx (t:=69) gt (b:=true) (by rfl) pt ?_
 refine s_do gt<|mv' lk pt<|s_do gt<|?_
 refine V' (ZaT (k:=0) lk lki ZcS (nb' rfl) (by first | rfl | first | omega | decide) (by first | omega | decide) ro rfl) pt ?_
 refine s_do gt<|V' (Zax lk gt) pt<|s_do gt<|V' (ZaW lk lki) pt<|V' (Zai lk lk) pt<|mv' lk pt<|?_
 refine Zbx (t:=75) gt (b:=true) (by rfl) pt ?_
 refine s_do gt<|V' (Zap lk (hga hn rfl) Zi1 rfl) pt<|s_do gt<|V' (Zay (ZgB (cvl lki rfl) rfl (cvl lki rfl) rfl (cvl lks rfl) rfl)) pt<|s_do gt<|V' (ZgM lk lk Zfy) pt<|V' (Zai lk lk) pt<|mv' lk pt<|?_
 refine Zbx (t:=80) gt (b:=true) (by rfl) pt ?_
 exact s_do gt<|V' (Zap lk (hga hn rfl) Zi1 rfl) pt<|s_do gt<|V' (Zay (ZgA (cvl lki rfl) rfl (cvl lks rfl) rfl)) pt<|s_do gt<|V' (ZgM lk lk Zfy) pt<|V' (Zai lk lk) pt<|mv' lk pt<|sn'<|Zaa<|Zaf rz<|rT' rfl
end Go.Proofs.YthdifaphoaekoaaGreatDoor
end
section
namespace Go.Proofs.YthdifaphoaekoaaGreatDoor
open Go.Ab Go.RowKit Civ
abbrev RulD:Ds:=.pair .str (.pair .int (.pair .int (.pair .int (.pair (.pair .int (.pair .int .int)) (.pair .int (.pair .int (.pair .int .str)))))))
abbrev EraD:Ds:=.pair .int (.pair .str (.pair .int (.pair .str (.pair .bool (.pair (.pair .int (.pair .int .int)) (.pair .int .int))))))
abbrev ZonD:Ds:=.pair .str (.slice EraD)
abbrev LnkD:Ds:=.pair .str .str
abbrev SrcDs:Ds:=.pair (.slice RulD) (.pair (.slice ZonD) (.slice LnkD))
theorem Zne {s:Src}(h:okD SrcDs s):ZdY s:=by
 obtain ⟨h1,h2,h3⟩:=h
 refine ⟨fun r hr=>?_,fun z hz=>?_,fun l hl=>?_⟩
 ·obtain ⟨i,hi,rfl⟩:=List.getElem_of_mem hr
  have:=h1 i hi
  exact ⟨this.1,this.2.2.2.2.2.2.2.2⟩
 ·obtain ⟨i,hi,rfl⟩:=List.getElem_of_mem hz
  have:=h2 i hi
  refine ⟨this.1,fun x hx=>?_⟩
  obtain ⟨j,hj,rfl⟩:=List.getElem_of_mem hx
  have:=this.2 j hj
  exact ⟨this.2.1,this.2.2.2.1⟩
 ·obtain ⟨i,hi,rfl⟩:=List.getElem_of_mem hl
  exact h3 i hi
end Go.Proofs.YthdifaphoaekoaaGreatDoor
end
section
namespace Go
variable {H : Type} {enc : TypeId × Value → H}
theorem ZhN {a:Assume}{C:Checked}{os:Os}{f:FuncId}{fn:Func}{s:ChangeSpec}{apart fresh handsOn again:Bool}{laid:List (String×DataW Unit)}
  (own:ownKnob C.prog.godebug=none) (started:os.Started) (noInit:C.prog.inits.idxOf? f=none) (hfn:C.prog.funcs[f]?=some fn)
  (witness : ∃ (w:World) (tape:Tape) (i:Input),w.os=os∧(w.forCall tape i).Shaped C.prog∧i.vars=[]∧Input.okWide C.prog (w.forCall tape i) .any w.heap.size f i ∧
   ((s.pre enc C.prog fn [] apart (w.forCall tape i).memory i.args∧laidMetH C.prog laid (w.forCall tape i).memory)∧sizedMet enc C.prog fn (OpenSpec.ofChange s) apart (w.forCall tape i).memory i.args)∧a.holds C.prog (lone (Frame.enter C.prog f i.args .normal) [] (w.forCall tape i)))
  (contract : ∀ (W:World) (base:Nat) (args:Array Value) (ds gs:List (DataW H)) (before:List MemPlace),
   (∀ (j:Nat) t v,fn.params[j]?=some t→args[j]?=some v→Value.okWide C.prog W .any base t v) →
   DataW.Whole enc C.prog fn.params.toList s.vars apart W args.toList ds gs before →
   (DataW.weightsEach C.prog (fn.params.toList++s.plain.varTypes C.prog) (ds++gs)).all (· ≤ reachBytes)=true →
   laidMetH C.prog laid W→W.ShapedOpen C.prog →
   Calls C.prog f args W fun e W' => ∃ v,e=.returned v∧s.post enc C.prog fn apart fresh handsOn again W args v W') :
  ReturnsInHanded a C os f .any (fun w args=>(s.pre enc C.prog fn [] apart w args∧laidMetH C.prog laid w)∧sizedMet enc C.prog fn (OpenSpec.ofChange s) apart w args) (s.post enc C.prog fn apart fresh handsOn again):=by
 refine returnsInHanded_of_calls own started noInit witness ?_
 intro w tape i _ hsh _ hok hpre hholds
 obtain ⟨_,_,_,fn',hfn',_,_,_,_,hval⟩:=hok
 have e:fn'=fn:=Option.some.inj (hfn'.symm.trans hfn)
 subst e
 obtain ⟨⟨⟨ds,gs,before,hw,hc⟩,hx⟩,hz⟩:=hpre
 have hw':=DataW.Whole.of_heap (w':=w.forCall tape i) (by rfl) hw
 refine (contract (w.forCall tape i) w.heap.size i.args ds gs before hval hw' (hz.weights hw) (hx.of_heap (by rfl)) hsh).mono fun e W' ⟨v,he,hp⟩=>?_
 subst he
 exact ChangeSpec.post_blind hp
end Go
namespace Go.Proofs.YthdifaphoaekoaaGreatDoor
open Go.ChangeShapes Go.WideShapes Go.ChangeAt Go.RowKit Go.Ab
def Zro (l:List (String×DataW Unit)):Prop:=l.length=l.length
theorem globW {W:World}{l:List (String×DataW Unit)}(hsh:W.ShapedOpen Tryz.prog) (hL:laidMetH Tryz.prog l W) (hl:Zro l):GlobW W where
 tt:=trivial
 maxLen:=cell_of_shapedOpen_int (t:=3) (zero := #[.int .i64 0]) hsh (of_decide_eq_true (by kernel_rfl)) (by kernel_rfl) rfl (by kernel_rfl) (by kernel_rfl) Tryz.underlying3
end Go.Proofs.YthdifaphoaekoaaGreatDoor
end
section
namespace Go.Proofs.YthdifaphoaekoaaGreatDoor.zoneSteps
open Go.ChangeShapes Go.WideShapes Go.ChangeAt Go.RowKit Go.Ab Civ
attribute [local simp] Zbl Zby Zbn Zbr ZbN ZdF ZdQ
section
theorem ZbF {a0 a1 a2:AV}{l:List AV}:((a0::a1::a2::l).drop 0).take 3=[a0,a1,a2]:=rfl
theorem Zi0 {a0 a1 a2 c0 c1 c2:AV}{l:List AV}:setCells (a0::a1::a2::l) 0 [c0,c1,c2]=c0::c1::c2::l:=rfl
theorem Zoz {a0 a1 c0 c1:AV}{l:List AV}:setCells (a0::a1::l) 0 [c0,c1]=c0::c1::l:=rfl
theorem Zeq {a0 b0:Int}{a1 b1:Int}{a2 b2:ByteArray}:Zbz [.int,.int,.str] [iv a0,iv a1,sv a2] [iv b0,iv b1,sv b2]=some (decide (a0=b0∧a1=b1∧a2=b2)):=by
 simp only [Zbz,Zeu,if_true,Zdu,Option.some.injEq]
 simp only [Bool.decide_and,Bool.and_true]
 try (congr 1 <;> simp)
 try rfl
end
def c7:AC:=(Sr [Oo 4 (.box 26 3 (.tmp 0)),Mb 8 false] (.seq (Sr [Cl 20 13 [],Oo 21 (.un .not (.tmp 20)),Mv 22 21,Of 23 22 (.call (.func 27) []),Of 24 22 (.un .not (.tmp 23)),Oo 25 (.pick (.tmp 22) (.const (.bool true)) (.tmp 24))] (Cd 25 (Sr [Mb 8 false] .ret) .skip)) (Sr [Oo 27 (.load true 3 (.tmp 4)),Mv 28 1,Mv 29 2,Cl 30 15 [(.tmp 27),(.tmp 28),(.tmp 29)],Mv 26 30,Ex 31 26 0,Ex 32 26 1,Oo 9 (.new 31 3 [(iv 0),(iv 0),Ss]),⟨none,none,(.store 3 (.tmp 9) (.tmp 31))⟩,Mv 10 32] (Sr [Oo 34 (.load true 3 (.tmp 4)),Mv 35 1,Mv 36 3,Cl 37 15 [(.tmp 34),(.tmp 35),(.tmp 36)],Mv 33 37,Ex 38 33 0,Ex 39 33 1,Oo 11 (.new 31 3 [(iv 0),(iv 0),Ss]),⟨none,none,(.store 3 (.tmp 11) (.tmp 38))⟩,Mv 12 39] (Sr [Oo 41 (.load true 3 (.tmp 4)),Mv 42 1,Cl 43 16 [(.tmp 41),(.tmp 42)],Mv 40 43,Ex 44 40 0,Ex 45 40 1,Oo 13 (.new 44 2 [Ss,(.sl 0 0 true [])]),⟨none,none,(.store 2 (.tmp 13) (.tmp 44))⟩,Mv 14 45] (Sr [Oo 47 (.load true 3 (.tmp 4)),Mv 48 1,Cl 49 17 [(.tmp 47),(.tmp 48)],Mv 46 49,Ex 50 46 0,Ex 51 46 1,Mv 15 50,Mv 16 51] (.seq (Sr [Mv 52 10,Bc 53 .neq 52 0,Mv 54 53,Of 55 54 (mt 12),Of 56 54 (.bin .neq (.tmp 55) (Ci 0)),Oo 57 (.pick (.tmp 54) (.const (.bool true)) (.tmp 56)),Mv 58 57,Of 59 58 (mt 14),Of 60 58 (.bin .neq (.tmp 59) (Ci 0)),Oo 61 (.pick (.tmp 58) (.const (.bool true)) (.tmp 60)),Mv 62 61,Of 63 62 (mt 16),Of 64 62 (.bin .neq (.tmp 63) (Ci 0)),Oo 65 (.pick (.tmp 62) (.const (.bool true)) (.tmp 64)),Mv 66 65,Of 67 66 (mt 3),Of 68 66 (mt 2),Of 69 66 (.bin .lss (.tmp 67) (.tmp 68)),Oo 70 (.pick (.tmp 66) (.const (.bool true)) (.tmp 69)),Mv 71 70,Of 72 71 (.fa 1 (.tmp 13)),Of 73 71 (.load false 1 (.tmp 72)),Of 74 71 (.len false (.tmp 73)),Of 75 71 (mt 15),Of 76 71 (.len false (.tmp 75)),Of 77 71 (.bin .add (.tmp 76) (Ci 1)),Of 78 71 (.bin .neq (.tmp 74) (.tmp 77)),Oo 79 (.pick (.tmp 71) (.const (.bool true)) (.tmp 78))] (Cd 79 (Sr [Mv 80 10,Bc 81 .neq 80 0,Mv 82 81,Of 83 82 (mt 12),Of 84 82 (.bin .neq (.tmp 83) (Ci 0)),Oo 85 (.pick (.tmp 82) (.const (.bool true)) (.tmp 84)),Mv 86 85,Of 87 86 (mt 3),Of 88 86 (mt 2),Of 89 86 (.bin .lss (.tmp 87) (.tmp 88)),Oo 90 (.pick (.tmp 86) (.const (.bool true)) (.tmp 89)),Mv 8 90] .ret) .skip)) (Sr [Mc 17 0] (.seq (.block 0 (.loop (.seq (Sr [Mv 91 17,Mv 92 15,Oo 93 (.len false (.tmp 92)),Bn 94 .lss 91 93,Mv 95 94,Ot 96 95 (mt 15),Ot 97 95 (mt 17),Ot 98 95 (.ia 1 (.tmp 96) (.tmp 97)),Ot 99 95 (.load false 1 (.tmp 98)),Ot 100 95 (mt 2),Ot 101 95 (.bin .leq (.tmp 99) (.tmp 100)),Oo 102 (.pick (.tmp 95) (.tmp 101) (.const (.bool false)))] (Cd 102 .skip (.exit 0))) (.block 1 (.reg [Mv 103 17,Bc 104 .add 103 1,Mv 17 104]))))) (.seq (Sr [Mv 105 17,Mv 106 15,Oo 107 (.len false (.tmp 106)),Bn 108 .lss 105 107,Mv 109 108,Ot 110 109 (mt 15),Ot 111 109 (mt 17),Ot 112 109 (.ia 1 (.tmp 110) (.tmp 111)),Ot 113 109 (.load false 1 (.tmp 112)),Ot 114 109 (mt 3),Ot 115 109 (.bin .leq (.tmp 113) (.tmp 114)),Oo 116 (.pick (.tmp 109) (.tmp 115) (.const (.bool false)))] (Cd 116 (Sr [Mb 8 true] .ret) .skip)) (.seq (Sr [Fa 117 1 13,Ld 118 117,Mv 119 17,Oo 120 (.ia 10 (.tmp 118) (.tmp 119)),Fa 121 1 120,Ld 122 121,Oo 123 (.bin .eql (.tmp 122) (.const (.string ⟨#[]⟩)))] (Cd 123 (Sd [Oo 124 (.load true 3 (.tmp 9)),Oo 125 (.load true 3 (.tmp 11)),Oo 126 (.eqs false [.int,.int,.str] (.tmp 124) (.tmp 125)),Mv 127 126,Ot 128 127 (.fa 1 (.tmp 9)),Ot 129 127 (.load false 1 (.tmp 128)),Ot 130 127 (.fa 1 (.tmp 13)),Ot 131 127 (.load false 1 (.tmp 130)),Ot 132 127 (mt 17),Ot 133 127 (.ia 10 (.tmp 131) (.tmp 132)),Ot 134 127 (.fa 2 (.tmp 133)),Ot 135 127 (.load false 1 (.tmp 134)),Ot 136 127 (.bin .eql (.tmp 129) (.tmp 135)),Oo 137 (.pick (.tmp 127) (.tmp 136) (.const (.bool false))),Mv 8 137] .ret) .skip)) (Sd [Fa 139 0 4,Ld 140 139,Fa 141 1 13,Ld 142 141,Mv 143 17,Oo 144 (.ia 10 (.tmp 142) (.tmp 143)),Fa 145 1 144,Ld 146 145,Fa 147 1 13,Ld 148 147,Mv 149 17,Oo 150 (.ia 10 (.tmp 148) (.tmp 149)),Fa 151 0 150,Ld 152 151,Cl 153 28 [(.tmp 140),(.tmp 146),(.tmp 152)],Mv 138 153,Ex 154 138 0,Ex 155 138 1,Mv 18 154,Mv 10 155] (.seq (Sr [Mv 156 10,Bc 157 .neq 156 0] (Cd 157 (Sr [Mb 8 false] .ret) .skip)) (.seq (Sr [Mc 19 0] (.block 2 (.loop (.seq (Sr [Mv 158 19,Mv 159 18,Oo 160 (.len false (.tmp 159)),Bn 161 .lss 158 160] (Cd 161 .skip (.exit 2))) (.seq (.block 3 (Sr [Mv 164 18,Mv 165 19,Oo 166 (.ia 3 (.tmp 164) (.tmp 165)),Fa 167 0 166,Ld 168 167,Mv 169 2,Bn 170 .gtr 168 169,Mv 171 170,Ot 172 171 (mt 18),Ot 173 171 (mt 19),Ot 174 171 (.ia 3 (.tmp 172) (.tmp 173)),Ot 175 171 (.fa 0 (.tmp 174)),Ot 176 171 (.load false 1 (.tmp 175)),Ot 177 171 (mt 3),Ot 178 171 (.bin .leq (.tmp 176) (.tmp 177)),Oo 179 (.pick (.tmp 171) (.tmp 178) (.const (.bool false)))] (Cd 179 (Sr [Mb 8 true] .ret) .skip))) (.reg [Mv 162 19,Bc 163 .add 162 1,Mv 19 163])))))) (Sr [Oo 180 (.load true 3 (.tmp 9)),Oo 181 (.load true 3 (.tmp 11)),Oo 182 (.eqs false [.int,.int,.str] (.tmp 180) (.tmp 181)),Mv 8 182] .ret)))))))))))))))
theorem k7:ZaD Tryz.prog 7=some ⟨c7,[(.tmp 8)],183⟩:=by kernel_rfl
theorem Znq : ∀ (l:List Int) (u v:Int),u≤v→kAt l u≤kAt l v
 | [],_,_,_=>Nat.le_refl _
 | e::es,u,v,h=>by
  have:=Znq es u v h
  rw [kAt,kAt]
  split
  ·rw [if_pos (by omega)];omega
  exact Nat.zero_le _
theorem kAt_same {l:List Int}{u v:Int}(h:u≤v) (hk : ∀ hh:kAt l u<l.length,¬l[kAt l u]≤v):kAt l v=kAt l u:=by
 have h1:=Znq l u v h
 have h2:=Zk1 l v
 by_cases hh:kAt l u<l.length
 ·have:=mt (ZjN hh h1).2 (hk hh)
  omega
 omega
theorem Zkq {rl:List Rul}{es:List Era}{u v:Int}(hes:es≠[]) (h:u≤v) (hk : ∀ hh:kAt (ZaJ es) u<(ZaJ es).length,¬(ZaJ es)[kAt (ZaJ es) u]≤v) :
  ZcB rl es u=Zc9 rl (es[kAt (ZaJ es) u]'(Zk0 hes u)) u∧ZcB rl es v=Zc9 rl (es[kAt (ZaJ es) u]'(Zk0 hes u)) v:=by
 refine ⟨ZlJ (Zk0 hes u),?_⟩
 have e:=kAt_same h hk
 rw [ZlJ (Zk0 hes v)]
 simp only [e]
theorem Zk9 {rl:List Rul}{x:Era}{u v:Int}(h:u≤v) (ht : ∀ t∈Zbv rl x,¬(u<t.1∧t.1≤v)):Zc9 rl x u=Zc9 rl x v:=by
 unfold Zc9;rw [Zfr _ _ _ u v h ht]
theorem ZnB {rl:List Rul}{x:Era}{u v:Int}(h:xRl x=⟨#[]⟩):Zc9 rl x u=Zc9 rl x v∧(Zc9 rl x u).2.1=xSv x:=by
 unfold Zc9 Zbv;rw [if_pos h];exact ⟨rfl,rfl⟩
theorem at_ok {s:Src}{nm:ByteArray}{n:Int}(h:(atV s nm n).2=0):(ZaB s nm).2=0∧atV s nm n=(ZcB s.1 (ZaB s nm).1.2 n,0):=by
 unfold atV at h ⊢
 by_cases h1:(ZaB s nm).2≠0
 ·rw [if_pos h1] at h;exact absurd h h1
 rw [if_neg h1] at h ⊢
 refine ⟨Decidable.of_not_not h1,?_⟩
 split at h
 ·cases h
 rename_i h2;rw [if_neg h2]
theorem walk0 {a:List Rul}{z:List Zon}{k:List Lnk}{nm:ByteArray}{n m:Int}{h:AH}(hok:ZdY (a,z,k)):Ac 7 [.agg (srcB a z k),sv nm,iv n,iv m] h (bv true):=by
 refine tI' k7 fun N hn hlt hlA hbd=>?_
 simp only [tb'] at hbd ⊢
 refine wr'<|E' (Zbm (cvl lk rfl) rfl (hl0 hn) ha0) pt<|mv' lkb pt<|sn'<|Zal<|wr'<|Zad mp0 (ZmQ) pt<|V' (Zav lk) pt<|mv' lk pt<|s_do gt<|Zad mp0 (rbegun_a) pt<|?_
 refine s_do gt<|V' (Zav lk) pt<|V' (Zag lk lk) pt<|sn'<|ZaL lk<|Zae<|Zah<|wr'<|V' (Zap lk (hga hn rfl) ZbF rfl) pt<|mv' lk pt<|mv' lk pt<|Zad mp (at_a hok) pt<|?_
 refine mv' lk pt<|V' (ZaV lk gt) pt<|V' (ZaV lk gt) pt<|E' (Za8 (hl1 hn) ha1) pt<|E' (Zam lk (cvl lk rfl) (hga hn rfl) rfl (nb' rfl) rfl Zi0 (hs1 hn)) ptn<|mv' lk pt<|sn'<|wr'<|V' (Zap lk (hga hn rfl) ZbF rfl) pt<|mv' lk pt<|mv' lk pt<|Zad mp (at_a hok) pt<|?_
 refine mv' lk pt<|V' (ZaV lk gt) pt<|V' (ZaV lk gt) pt<|E' (Za8 (hl2 hn) ha2) pt<|E' (Zam lk (cvl lk rfl) (hga hn rfl) rfl (nb' rfl) rfl Zi0 (hs2 hn)) ptn<|mv' lk pt<|sn'<|wr'<|V' (Zap lk (hga hn rfl) ZbF rfl) pt<|mv' lk pt<|Zad mp (Zpg hok) pt<|mv' lk pt<|?_
 refine V' (ZaV lk gt) pt<|V' (ZaV lk gt) pt<|E' (Za8 (hl3 hn) ha3) pt<|E' (Zam lk (cvl lk rfl) (hga hn rfl) rfl (nb' rfl) rfl Zoz (hs3 hn)) ptn<|mv' lk pt<|sn'<|wr'<|V' (Zap lk (hga hn rfl) ZbF rfl) pt<|mv' lk pt<|Zad mp (Zph hok) pt<|mv' lk pt<|V' (ZaV lk gt) pt<|?_
 refine V' (ZaV lk gt) pt<|mv' lk pt<|mv' lk pt<|sn'<|Zal<|wr'<|mv' lk pt<|V' (ZaY lk lki) pt<|mv' lk pt<|?_
 refine sp' (t:=54) gt pt pt (fun hg54=>?_) (fun hg54=>?_)
 ·refine s_no gt pt<|s_no gt pt<|V' (Zai lk lkb) pt<|mv' lk pt<|s_no gt pt<|s_no gt pt<|V' (Zai lk lkb) pt<|mv' lk pt<|s_no gt pt<|s_no gt pt<|V' (Zai lk lkb) pt<|mv' lk pt<|s_no gt pt<|s_no gt pt<|?_
  refine s_no gt pt<|V' (Zai lk lkb) pt<|mv' lk pt<|s_no gt pt<|s_no gt pt<|s_no gt pt<|s_no gt pt<|s_no gt pt<|s_no gt pt<|s_no gt pt<|V' (Zai lk lkb) pt<|sn'<|ZaH lk<|?_
  refine wr'<|mv' lk pt<|V' (ZaY lk lki) pt<|mv' lk pt<|?_
  refine Zbx (t:=82) gt (b:=true) (by exact decide_eq_true hg54) pt ?_
  exact s_no gt pt<|s_no gt pt<|V' (Zai lk lkb) pt<|mv' lk pt<|s_no gt pt<|s_no gt pt<|s_no gt pt<|V' (Zai lk lkb) pt<|mv' lk pt<|sn'<|Zaa<|Zaj<|Zaf rz<|rT' rfl
 have hn0:(atV (a,z,k) nm n).2=0:=Decidable.of_not_not hg54
 obtain ⟨hf0,hA⟩:=at_ok hn0
 obtain ⟨hz0,hmm,_⟩:=ZjU hf0
 obtain ⟨hE,_,_,hX,_⟩:=Zgx hz0
 have hzo:=ZdZ hE hmm
 have hal:=(Zc0 hE).1
 simp only at hal hA hX
 have hfl:=Zk6 (s:=(a,z,k)) (nm:=nm)
 have hel:=ZeZ (ZaB (a,z,k) nm).1.2
 have hel0:=List.length_pos_iff.2 hzo.ne
 have hkl:=Zk0 hzo.ne n
 have hke:=Zk1 (ZaJ (ZaB (a,z,k) nm).1.2) n
 refine s_do gt<|mv' lk pt<|s_do gt<|V' (ZaY lk lki) pt<|V' (Zag lk lk) pt<|mv' lk pt<|?_
 refine sp' (t:=58) gt pt pt (fun hg58=>?_) (fun hg58=>?_)
 ·refine s_no gt pt<|s_no gt pt<|V' (Zai lk lkb) pt<|mv' lk pt<|s_no gt pt<|s_no gt pt<|V' (Zai lk lkb) pt<|mv' lk pt<|s_no gt pt<|s_no gt pt<|s_no gt pt<|V' (Zai lk lkb) pt<|mv' lk pt<|s_no gt pt<|?_
  refine s_no gt pt<|s_no gt pt<|s_no gt pt<|s_no gt pt<|s_no gt pt<|s_no gt pt<|V' (Zai lk lkb) pt<|sn'<|ZaH lk<|wr'<|mv' lk pt<|V' (ZaY lk lki) pt<|?_
  refine mv' lk pt ?_
  refine Zbx (t:=82) gt (b:=false) (by exact decide_eq_false (by omega)) pt ?_
  refine s_do gt<|mv' lk pt<|s_do gt<|V' (ZaY lk lki) pt<|V' (Zag lk lk) pt<|mv' lk pt<|?_
  refine Zbx (t:=86) gt (b:=true) (by exact decide_eq_true hg58) pt ?_
  exact s_no gt pt<|s_no gt pt<|s_no gt pt<|V' (Zai lk lkb) pt<|mv' lk pt<|sn'<|Zaa<|Zaj<|Zaf rz<|rT' rfl
 have hm0:(atV (a,z,k) nm m).2=0:=Decidable.of_not_not hg58
 have hB:=(at_ok hm0).2
 simp only at hB
 refine s_do gt<|mv' lk pt<|s_do gt<|V' (ZaY lk lki) pt<|V' (Zag lk lk) pt<|mv' lk pt<|?_
 refine Zbx (t:=62) gt (b:=false) (by exact decide_eq_false (by omega)) pt ?_
 refine s_do gt<|mv' lk pt<|s_do gt<|V' (ZaY lk lki) pt<|V' (Zag lk lk) pt<|mv' lk pt<|?_
 refine Zbx (t:=66) gt (b:=false) (by exact decide_eq_false (by omega)) pt ?_
 refine s_do gt<|mv' lk pt<|s_do gt<|mv' lk pt<|s_do gt<|V' (Za6 lk lk) pt<|V' (Zag lk lk) pt<|mv' lk pt<|?_
 refine sp' (t:=71) gt pt pt (fun hg71=>?_) (fun hg71=>?_)
 ·refine s_no gt pt<|s_no gt pt<|s_no gt pt<|s_no gt pt<|s_no gt pt<|s_no gt pt<|s_no gt pt<|V' (Zai lk lkb) pt<|sn'<|ZaH lk<|wr'<|mv' lk pt<|?_
  refine V' (ZaY lk lki) pt<|mv' lk pt<|?_
  refine Zbx (t:=82) gt (b:=false) (by exact decide_eq_false (by omega)) pt ?_
  refine s_do gt<|mv' lk pt<|s_do gt<|V' (ZaY lk lki) pt<|V' (Zag lk lk) pt<|mv' lk pt<|?_
  refine Zbx (t:=86) gt (b:=false) (by exact decide_eq_false (by omega)) pt ?_
  refine s_do gt<|mv' lk pt<|s_do gt<|mv' lk pt<|s_do gt<|V' (Za6 lk lk) pt<|V' (Zag lk lk) pt<|mv' lk pt<|sn'<|Zaa<|Zaj<|Zaf rz<|rT'<|?_
  exact bvx (decide_eq_true hg71)
 refine s_do gt<|V' (Zac lk) pt<|s_do gt<|V' (Zab lk (hga hn rfl) gt1) pt<|s_do gt<|V' (ZaO lk) pt<|s_do gt<|mv' lk pt<|s_do gt<|V' (ZaO lk) pt<|s_do gt<|?_
 refine V' (Zaz lk lki (by omega) (by omega)) pt ?_
 refine s_do gt<|V' (ZaY lk lk) pt<|V' (Zag lk lk) pt<|sn'<|?_
 refine ZcF lk (by exact decide_eq_false (by omega)) ?_
 refine Zae<|Zah<|wr'<|mv' lki pt<|sn'<|Zal<|Zao<|?_
 refine w_lp (ι:=Nat) (fun (i:Nat)=>[(17,iv (i:Int))]++rn' 91 14) (fun (i:Nat)=>[]) (fun (i:Nat)=>i≤kAt (ZaJ (ZaB (a,z,k) nm).1.2) n) (fun (i:Nat)=>kAt (ZaJ (ZaB (a,z,k) nm).1.2) n-i) (0) (by exact Nat.zero_le _) ?_
 rintro i hi1
 try simp only [sm',Nat.reduceAdd]
 replace hi1:i≤kAt (ZaJ (ZaB (a,z,k) nm).1.2) n:=hi1
 refine Zal<|wr'<|mv' lk pt<|mv' lk pt<|V' (ZaO lk) pt<|V' (Za6 lk lk) pt<|mv' lk pt<|?_
 refine sp' (t:=95) gt pt pt (fun hg95=>?_) (fun hg95=>?_)
 ·have hst:=ZjN (a:=n) (show i<(ZaJ (ZaB (a,z,k) nm).1.2).length by omega) hi1
  refine s_do gt<|mv' lk pt<|s_do gt<|mv' lk pt<|s_do gt<|?_
  refine V' (ZaT lk lk ZcS (nb' rfl) ro (by omega) ro rfl) pt ?_
  refine s_do gt<|V' (Zax lk gt) pt<|s_do gt<|mv' lk pt<|s_do gt<|V' (ZcT lk lk) pt<|V' (Zai lk lk) pt<|sn'<|?_
  refine cd' lk (fun hc3=>?_) (fun hc3=>?_)
  ·have hi2:=hst.1 hc3
   refine Zae<|Zah<|Zao<|Zas<|mv' lk pt<|?_
   refine V' (Zaz lk lki (by omega) (by omega)) pt ?_
   refine mv' lk pt<|Zar<|ZaA<|ZaC<|?_
   refine lT' (i+1) (by (try dsimp only);omega)
  have hie:i=kAt (ZaJ (ZaB (a,z,k) nm).1.2) n:=by have:¬i+1≤kAt (ZaJ (ZaB (a,z,k) nm).1.2) n:=fun h=>hc3 (hst.2 h);omega
  subst hie
  refine ZaQ<|ZaF<|ZaF<|Za7<|Zah<|Zal<|wr'<|mv' lk pt<|mv' lk pt<|V' (ZaO lk) pt<|V' (Za6 lk lk) pt<|mv' lk pt<|?_
  refine Zbx (t:=109) gt (b:=true) (by exact decide_eq_true (by omega)) pt ?_
  refine s_do gt<|mv' lk pt<|s_do gt<|mv' lk pt<|s_do gt<|?_
  refine V' (ZaT (k:=kAt (ZaJ (ZaB (a,z,k) nm).1.2) n) lk lk ZcS (nb' rfl) ro (by omega) ro rfl) pt ?_
  refine s_do gt<|V' (Zax lk gt) pt<|s_do gt<|mv' lk pt<|s_do gt<|V' (ZcT lk lk) pt<|V' (Zai lk lk) pt<|sn'<|?_
  refine cd' lk (fun hc4=>?_) (fun hc4=>?_)
  ·exact wr'<|mv' lkb pt<|sn'<|Zaa<|Zaj<|Zaf rz<|rT' rfl
  have hTS:=Zkq (rl:=a) (u:=n) (v:=m) hzo.ne (by omega) (fun _=>hc4)
  refine Zae<|Zah<|Zal<|wr'<|V' (Zac lk) pt<|V' (Zab lk (hga hn rfl) gt1) pt<|mv' lk pt<|?_
  refine V' (ZaT (k:=kAt (ZaJ (ZaB (a,z,k) nm).1.2) n) lk lk ZbS (nb' rfl) ro (by omega) ro rfl) pt ?_
  refine V' (Zbf lk dp1) pt<|V' (Zax lk gt) pt<|V' (Zck lk lks) pt<|sn'<|?_
  refine cd' lk (fun hc5=>?_) (fun hc5=>?_)
  ·have hN:=ZnB (rl:=a) (u:=n) (v:=m) (x:=((ZaB (a,z,k) nm).1.2[kAt (ZaJ (ZaB (a,z,k) nm).1.2) n])) hc5
   have hAB:(atV (a,z,k) nm n).1=(atV (a,z,k) nm m).1:=by rw [hA,hB];exact hTS.1.trans (hN.1.trans hTS.2.symm)
   have hsv:(atV (a,z,k) nm n).1.2.1=xSv ((ZaB (a,z,k) nm).1.2[kAt (ZaJ (ZaB (a,z,k) nm).1.2) n]):=by rw [hA];exact (congrArg (fun l:Loc=>l.2.1) hTS.1).trans hN.2
   refine Zal<|Zb9<|D' (Zap lk (hga hn rfl) ZbF rfl) pt<|D' (Zap lk (hga hn rfl) ZbF rfl) pt<|D' (ZgM lk lk Zeq) pt<|D' (v_mv lk) pt<|?_
   refine ZqS (t:=127) gt (b:=true) (by exact decide_eq_true (by rw [hAB];exact ⟨rfl,rfl,rfl⟩)) pt ?_
   refine d_do gt<|D' (Zac lk) pt<|d_do gt<|D' (Zab lk (hga hn rfl) gt1) pt<|d_do gt<|D' (Zac lk) pt<|d_do gt<|D' (Zab lk (hga hn rfl) gt1) pt<|d_do gt<|D' (v_mv lk) pt<|d_do gt<|?_
   refine D' (ZaT (k:=kAt (ZaJ (ZaB (a,z,k) nm).1.2) n) lk lk ZbS (nb' rfl) ro (by omega) ro rfl) pt ?_
   refine d_do gt<|D' (Zbf lk dp2) pt<|d_do gt<|D' (Zax lk gt) pt<|d_do gt<|D' (ZaW lk lk) pt<|D' (Zai lk lk) pt<|D' (v_mv lk) pt<|ZbX<|?_
   refine Zcm ?_
   refine sn'<|Zaa<|Zaj<|Zaf rz<|rT'<|?_
   exact bvx (decide_eq_true hsv)
  have hXe:=hX ((ZaB (a,z,k) nm).1.2[kAt (ZaJ (ZaB (a,z,k) nm).1.2) n]) (List.mem_flatMap.2 ⟨_,hmm,List.getElem_mem hkl⟩)
  have htv:(ZaU a (ZaB (a,z,k) nm).1.2[kAt (ZaJ (ZaB (a,z,k) nm).1.2) n].2.1 (ZaB (a,z,k) nm).1.2[kAt (ZaJ (ZaB (a,z,k) nm).1.2) n].1).2=0:=(if_neg hc5).symm.trans hXe
  have htx:Zbv a ((ZaB (a,z,k) nm).1.2[kAt (ZaJ (ZaB (a,z,k) nm).1.2) n])=(ZaU a (ZaB (a,z,k) nm).1.2[kAt (ZaJ (ZaB (a,z,k) nm).1.2) n].2.1 (ZaB (a,z,k) nm).1.2[kAt (ZaJ (ZaB (a,z,k) nm).1.2) n].1).1:=if_neg hc5
  have htl:=ZeT (rl:=a) (x:=((ZaB (a,z,k) nm).1.2[kAt (ZaJ (ZaB (a,z,k) nm).1.2) n]))
  rw [htx] at htl
  refine Zae<|Zah<|Zal<|Zb9<|D' (Zac lk) pt<|D' (Zab lk (hga hn rfl) gt0) pt<|D' (Zac lk) pt<|D' (Zab lk (hga hn rfl) gt1) pt<|D' (v_mv lk) pt<|?_
  refine D' (ZaT (k:=kAt (ZaJ (ZaB (a,z,k) nm).1.2) n) lk lk ZbS (nb' rfl) ro (by omega) ro rfl) pt ?_
  refine D' (Zbf lk dp1) pt<|D' (Zax lk gt) pt<|D' (Zac lk) pt<|D' (Zab lk (hga hn rfl) gt1) pt<|D' (v_mv lk) pt<|?_
  refine D' (ZaT (k:=kAt (ZaJ (ZaB (a,z,k) nm).1.2) n) lk lk ZbS (nb' rfl) ro (by omega) ro rfl) pt ?_
  refine D' (Zbf lk dp0) pt<|D' (Zax lk gt) pt<|?_
  refine Za9 mp (fun hE hX=>Zgl (Zgr hok) (by omega)) pt ?_
  refine D' (v_mv lk) pt<|D' (ZaV lk gt) pt<|D' (ZaV lk gt) pt<|D' (v_mv lk) pt<|D' (v_mv lk) pt<|ZbX<|?_
  refine Zcm ?_
  refine sn'<|Zal<|wr'<|mv' lk pt<|V' (ZaY lk lki) pt<|sn'<|?_
  refine ZcF lk (by exact decide_eq_false (by rw [htv];decide)) ?_
  refine Zae<|Zah<|Zal<|wr'<|mv' lki pt<|sn'<|Zao<|?_
  refine w_lp (ι:=Nat) (fun (j:Nat)=>[(19,iv (j:Int)),(8,.any)]++rn' 158 22) (fun (j:Nat)=>[]) (fun (j:Nat)=>j≤(ZaU a (ZaB (a,z,k) nm).1.2[kAt (ZaJ (ZaB (a,z,k) nm).1.2) n].2.1 (ZaB (a,z,k) nm).1.2[kAt (ZaJ (ZaB (a,z,k) nm).1.2) n].1).1.length ∧ ∀ t∈(ZaU a (ZaB (a,z,k) nm).1.2[kAt (ZaJ (ZaB (a,z,k) nm).1.2) n].2.1 (ZaB (a,z,k) nm).1.2[kAt (ZaJ (ZaB (a,z,k) nm).1.2) n].1).1.take j,¬(n<t.1∧t.1≤m)) (fun (j:Nat)=>(ZaU a (ZaB (a,z,k) nm).1.2[kAt (ZaJ (ZaB (a,z,k) nm).1.2) n].2.1 (ZaB (a,z,k) nm).1.2[kAt (ZaJ (ZaB (a,z,k) nm).1.2) n].1).1.length-j) (0) (by exact ⟨Nat.zero_le _,fun t ht=>by cases ht⟩) ?_
  rintro j hi2
  try simp only [sm',Nat.reduceAdd]
  obtain ⟨hj1,hj2⟩:=hi2
  refine Zal<|wr'<|mv' lk pt<|mv' lk pt<|V' (ZaO lk) pt<|V' (Za6 lk lk) pt<|sn'<|?_
  refine cd' lk (fun hc7=>?_) (fun hc7=>?_)
  ·have hj:j<(ZaU a (ZaB (a,z,k) nm).1.2[kAt (ZaJ (ZaB (a,z,k) nm).1.2) n].2.1 (ZaB (a,z,k) nm).1.2[kAt (ZaJ (ZaB (a,z,k) nm).1.2) n].1).1.length:=by omega
   refine Zae<|Zah<|Zal<|Zao<|wr'<|mv' lk pt<|mv' lk pt<|?_
   refine V' (ZaT lk lk Zd7 (nb' rfl) ro (by omega) ro rfl) pt ?_
   refine V' (Zbf lk dp0) pt<|V' (Zax lk gt) pt<|mv' lk pt<|V' (ZbT lk lk) pt<|mv' lk pt<|?_
   refine sp' (t:=171) gt pt pt (fun hg171=>?_) (fun hg171=>?_)
   ·refine s_do gt<|mv' lk pt<|s_do gt<|mv' lk pt<|s_do gt<|?_
    refine V' (ZaT lk lk Zd7 (nb' rfl) ro (by omega) ro rfl) pt ?_
    refine s_do gt<|V' (Zbf lk dp0) pt<|s_do gt<|V' (Zax lk gt) pt<|s_do gt<|mv' lk pt<|s_do gt<|V' (ZcT lk lk) pt<|V' (Zai lk lk) pt<|sn'<|?_
    refine cd' lk (fun hc8=>?_) (fun hc8=>?_)
    ·exact wr'<|mv' lkb pt<|sn'<|Zaa<|Zaq<|Zaj<|Zaj<|Zaq<|Zaj<|Zaf rz<|rT' rfl
    refine Zae<|ZaA<|Zah<|Zas<|mv' lk pt<|?_
    refine V' (Zaz lk lki (by omega) (by omega)) pt ?_
    refine mv' lk pt<|Zar<|ZaC<|?_
    refine lT' (j+1) (by (try dsimp only);refine ⟨by omega,fun t ht=>?_⟩;rw [List.take_succ_eq_append_getElem hj] at ht;rcases List.mem_append.1 ht with ht | ht;exact hj2 t ht;simp only [List.mem_singleton] at ht;subst ht;omega)
   refine s_no gt pt<|s_no gt pt<|s_no gt pt<|s_no gt pt<|s_no gt pt<|s_no gt pt<|s_no gt pt<|V' (Zag lk lkb) pt<|sn'<|ZaL lk<|Zae<|ZaA<|Zah<|?_
   refine Zas<|mv' lk pt<|?_
   refine V' (Zaz lk lki (by omega) (by omega)) pt ?_
   refine mv' lk pt<|Zar<|ZaC<|?_
   refine lT' (j+1) (by (try dsimp only);refine ⟨by omega,fun t ht=>?_⟩;rw [List.take_succ_eq_append_getElem hj] at ht;rcases List.mem_append.1 ht with ht | ht;exact hj2 t ht;simp only [List.mem_singleton] at ht;subst ht;omega)
  rw [List.take_of_length_le (show (ZaU a (ZaB (a,z,k) nm).1.2[kAt (ZaJ (ZaB (a,z,k) nm).1.2) n].2.1 (ZaB (a,z,k) nm).1.2[kAt (ZaJ (ZaB (a,z,k) nm).1.2) n].1).1.length≤j by omega)] at hj2
  have hS:=Zk9 (rl:=a) (x:=((ZaB (a,z,k) nm).1.2[kAt (ZaJ (ZaB (a,z,k) nm).1.2) n])) (u:=n) (v:=m) (by omega) (by rw [htx];exact hj2)
  have hAB:(atV (a,z,k) nm n).1=(atV (a,z,k) nm m).1:=by rw [hA,hB];exact hTS.1.trans (hS.trans hTS.2.symm)
  refine ZaQ<|ZaF<|ZaF<|Za7<|Zah<|wr'<|V' (Zap lk (hga hn rfl) ZbF rfl) pt<|V' (Zap lk (hga hn rfl) ZbF rfl) pt<|V' (ZgM lk lk Zeq) pt<|mv' lk pt<|sn'<|Zaa<|?_
  refine Zaf rz<|rT'<|?_
  exact bvx (decide_eq_true (by rw [hAB];exact ⟨rfl,rfl,rfl⟩))
 have hie:i=kAt (ZaJ (ZaB (a,z,k) nm).1.2) n:=by omega
 subst hie
 refine s_no gt pt<|s_no gt pt<|s_no gt pt<|s_no gt pt<|s_no gt pt<|s_no gt pt<|V' (Zag lk lkb) pt<|sn'<|ZaL lk<|ZaQ<|ZaF<|ZaF<|Za7<|?_
 refine Zah<|Zal<|wr'<|mv' lk pt<|mv' lk pt<|V' (ZaO lk) pt<|V' (Za6 lk lk) pt<|mv' lk pt<|?_
 refine Zbx (t:=109) gt (b:=false) (by exact decide_eq_false (by omega)) pt ?_
 refine s_no gt pt<|s_no gt pt<|s_no gt pt<|s_no gt pt<|s_no gt pt<|s_no gt pt<|V' (Zag lk lkb) pt<|sn'<|ZaL lk<|Zae<|Zah<|Zal<|Zal<|?_
 refine Zas<|V' (Zac lk) pt<|V' (Zab lk (hga hn rfl) gt1) pt<|mv' lk pt<|?_
 refine V' (ZaT (k:=kAt (ZaJ (ZaB (a,z,k) nm).1.2) n) lk lk ZbS (nb' rfl) ro (by omega) ro rfl) pt ?_
 refine V' (Zbf lk dp1) pt<|V' (Zax lk gt) pt<|V' (Zck lk lks) pt<|sn'<|?_
 have hTS:=Zkq (rl:=a) (u:=n) (v:=m) hzo.ne (by omega) (fun hh=>by omega)
 refine cd' lk (fun hc5=>?_) (fun hc5=>?_)
 ·have hN:=ZnB (rl:=a) (u:=n) (v:=m) (x:=((ZaB (a,z,k) nm).1.2[kAt (ZaJ (ZaB (a,z,k) nm).1.2) n])) hc5
  have hAB:(atV (a,z,k) nm n).1=(atV (a,z,k) nm m).1:=by rw [hA,hB];exact hTS.1.trans (hN.1.trans hTS.2.symm)
  have hsv:(atV (a,z,k) nm n).1.2.1=xSv ((ZaB (a,z,k) nm).1.2[kAt (ZaJ (ZaB (a,z,k) nm).1.2) n]):=by rw [hA];exact (congrArg (fun l:Loc=>l.2.1) hTS.1).trans hN.2
  refine Zal<|Zb9<|D' (Zap lk (hga hn rfl) ZbF rfl) pt<|D' (Zap lk (hga hn rfl) ZbF rfl) pt<|D' (ZgM lk lk Zeq) pt<|D' (v_mv lk) pt<|?_
  refine ZqS (t:=127) gt (b:=true) (by exact decide_eq_true (by rw [hAB];exact ⟨rfl,rfl,rfl⟩)) pt ?_
  refine d_do gt<|D' (Zac lk) pt<|d_do gt<|D' (Zab lk (hga hn rfl) gt1) pt<|d_do gt<|D' (Zac lk) pt<|d_do gt<|D' (Zab lk (hga hn rfl) gt1) pt<|d_do gt<|D' (v_mv lk) pt<|d_do gt<|?_
  refine D' (ZaT (k:=kAt (ZaJ (ZaB (a,z,k) nm).1.2) n) lk lk ZbS (nb' rfl) ro (by omega) ro rfl) pt ?_
  refine d_do gt<|D' (Zbf lk dp2) pt<|d_do gt<|D' (Zax lk gt) pt<|d_do gt<|D' (ZaW lk lk) pt<|D' (Zai lk lk) pt<|D' (v_mv lk) pt<|ZbX<|?_
  refine Zcm ?_
  refine sn'<|Zaa<|Zaj<|Zaf rz<|rT'<|?_
  exact bvx (decide_eq_true hsv)
 have hXe:=hX ((ZaB (a,z,k) nm).1.2[kAt (ZaJ (ZaB (a,z,k) nm).1.2) n]) (List.mem_flatMap.2 ⟨_,hmm,List.getElem_mem hkl⟩)
 have htv:(ZaU a (ZaB (a,z,k) nm).1.2[kAt (ZaJ (ZaB (a,z,k) nm).1.2) n].2.1 (ZaB (a,z,k) nm).1.2[kAt (ZaJ (ZaB (a,z,k) nm).1.2) n].1).2=0:=(if_neg hc5).symm.trans hXe
 have htx:Zbv a ((ZaB (a,z,k) nm).1.2[kAt (ZaJ (ZaB (a,z,k) nm).1.2) n])=(ZaU a (ZaB (a,z,k) nm).1.2[kAt (ZaJ (ZaB (a,z,k) nm).1.2) n].2.1 (ZaB (a,z,k) nm).1.2[kAt (ZaJ (ZaB (a,z,k) nm).1.2) n].1).1:=if_neg hc5
 have htl:=ZeT (rl:=a) (x:=((ZaB (a,z,k) nm).1.2[kAt (ZaJ (ZaB (a,z,k) nm).1.2) n]))
 rw [htx] at htl
 refine Zae<|Zah<|Zal<|Zb9<|D' (Zac lk) pt<|D' (Zab lk (hga hn rfl) gt0) pt<|D' (Zac lk) pt<|D' (Zab lk (hga hn rfl) gt1) pt<|D' (v_mv lk) pt<|?_
 refine D' (ZaT (k:=kAt (ZaJ (ZaB (a,z,k) nm).1.2) n) lk lk ZbS (nb' rfl) ro (by omega) ro rfl) pt ?_
 refine D' (Zbf lk dp1) pt<|D' (Zax lk gt) pt<|D' (Zac lk) pt<|D' (Zab lk (hga hn rfl) gt1) pt<|D' (v_mv lk) pt<|?_
 refine D' (ZaT (k:=kAt (ZaJ (ZaB (a,z,k) nm).1.2) n) lk lk ZbS (nb' rfl) ro (by omega) ro rfl) pt ?_
 refine D' (Zbf lk dp0) pt<|D' (Zax lk gt) pt<|?_
 refine Za9 mp (fun hE hX=>Zgl (Zgr hok) (by omega)) pt ?_
 refine D' (v_mv lk) pt<|D' (ZaV lk gt) pt<|D' (ZaV lk gt) pt<|D' (v_mv lk) pt<|D' (v_mv lk) pt<|ZbX<|?_
 refine Zcm ?_
 refine sn'<|Zal<|wr'<|mv' lk pt<|V' (ZaY lk lki) pt<|sn'<|?_
 refine ZcF lk (by exact decide_eq_false (by rw [htv];decide)) ?_
 refine Zae<|Zah<|Zal<|wr'<|mv' lki pt<|sn'<|Zao<|?_
 refine w_lp (ι:=Nat) (fun (j:Nat)=>[(19,iv (j:Int)),(8,.any)]++rn' 158 22) (fun (j:Nat)=>[]) (fun (j:Nat)=>j≤(ZaU a (ZaB (a,z,k) nm).1.2[kAt (ZaJ (ZaB (a,z,k) nm).1.2) n].2.1 (ZaB (a,z,k) nm).1.2[kAt (ZaJ (ZaB (a,z,k) nm).1.2) n].1).1.length ∧ ∀ t∈(ZaU a (ZaB (a,z,k) nm).1.2[kAt (ZaJ (ZaB (a,z,k) nm).1.2) n].2.1 (ZaB (a,z,k) nm).1.2[kAt (ZaJ (ZaB (a,z,k) nm).1.2) n].1).1.take j,¬(n<t.1∧t.1≤m)) (fun (j:Nat)=>(ZaU a (ZaB (a,z,k) nm).1.2[kAt (ZaJ (ZaB (a,z,k) nm).1.2) n].2.1 (ZaB (a,z,k) nm).1.2[kAt (ZaJ (ZaB (a,z,k) nm).1.2) n].1).1.length-j) (0) (by exact ⟨Nat.zero_le _,fun t ht=>by cases ht⟩) ?_
 rintro j hi2
 try simp only [sm',Nat.reduceAdd]
 obtain ⟨hj1,hj2⟩:=hi2
 refine Zal<|wr'<|mv' lk pt<|mv' lk pt<|V' (ZaO lk) pt<|V' (Za6 lk lk) pt<|sn'<|?_
 refine cd' lk (fun hc7=>?_) (fun hc7=>?_)
 ·have hj:j<(ZaU a (ZaB (a,z,k) nm).1.2[kAt (ZaJ (ZaB (a,z,k) nm).1.2) n].2.1 (ZaB (a,z,k) nm).1.2[kAt (ZaJ (ZaB (a,z,k) nm).1.2) n].1).1.length:=by omega
  refine Zae<|Zah<|Zal<|Zao<|wr'<|mv' lk pt<|mv' lk pt<|?_
  refine V' (ZaT lk lk Zd7 (nb' rfl) ro (by omega) ro rfl) pt ?_
  refine V' (Zbf lk dp0) pt<|V' (Zax lk gt) pt<|mv' lk pt<|V' (ZbT lk lk) pt<|mv' lk pt<|?_
  refine sp' (t:=171) gt pt pt (fun hg171=>?_) (fun hg171=>?_)
  ·refine s_do gt<|mv' lk pt<|s_do gt<|mv' lk pt<|s_do gt<|?_
   refine V' (ZaT lk lk Zd7 (nb' rfl) ro (by omega) ro rfl) pt ?_
   refine s_do gt<|V' (Zbf lk dp0) pt<|s_do gt<|V' (Zax lk gt) pt<|s_do gt<|mv' lk pt<|s_do gt<|V' (ZcT lk lk) pt<|V' (Zai lk lk) pt<|sn'<|?_
   refine cd' lk (fun hc8=>?_) (fun hc8=>?_)
   ·exact wr'<|mv' lkb pt<|sn'<|Zaa<|Zaq<|Zaj<|Zaj<|Zaq<|Zaj<|Zaf rz<|rT' rfl
   refine Zae<|ZaA<|Zah<|Zas<|mv' lk pt<|?_
   refine V' (Zaz lk lki (by omega) (by omega)) pt ?_
   refine mv' lk pt<|Zar<|ZaC<|?_
   refine lT' (j+1) (by (try dsimp only);refine ⟨by omega,fun t ht=>?_⟩;rw [List.take_succ_eq_append_getElem hj] at ht;rcases List.mem_append.1 ht with ht | ht;exact hj2 t ht;simp only [List.mem_singleton] at ht;subst ht;omega)
  refine s_no gt pt<|s_no gt pt<|s_no gt pt<|s_no gt pt<|s_no gt pt<|s_no gt pt<|s_no gt pt<|V' (Zag lk lkb) pt<|sn'<|ZaL lk<|Zae<|ZaA<|Zah<|?_
  refine Zas<|mv' lk pt<|?_
  refine V' (Zaz lk lki (by omega) (by omega)) pt ?_
  refine mv' lk pt<|Zar<|ZaC<|?_
  refine lT' (j+1) (by (try dsimp only);refine ⟨by omega,fun t ht=>?_⟩;rw [List.take_succ_eq_append_getElem hj] at ht;rcases List.mem_append.1 ht with ht | ht;exact hj2 t ht;simp only [List.mem_singleton] at ht;subst ht;omega)
 rw [List.take_of_length_le (show (ZaU a (ZaB (a,z,k) nm).1.2[kAt (ZaJ (ZaB (a,z,k) nm).1.2) n].2.1 (ZaB (a,z,k) nm).1.2[kAt (ZaJ (ZaB (a,z,k) nm).1.2) n].1).1.length≤j by omega)] at hj2
 have hS:=Zk9 (rl:=a) (x:=((ZaB (a,z,k) nm).1.2[kAt (ZaJ (ZaB (a,z,k) nm).1.2) n])) (u:=n) (v:=m) (by omega) (by rw [htx];exact hj2)
 have hAB:(atV (a,z,k) nm n).1=(atV (a,z,k) nm m).1:=by rw [hA,hB];exact hTS.1.trans (hS.trans hTS.2.symm)
 refine ZaQ<|ZaF<|ZaF<|Za7<|Zah<|wr'<|V' (Zap lk (hga hn rfl) ZbF rfl) pt<|V' (Zap lk (hga hn rfl) ZbF rfl) pt<|V' (ZgM lk lk Zeq) pt<|mv' lk pt<|sn'<|Zaa<|?_
 refine Zaf rz<|rT'<|?_
 exact bvx (decide_eq_true (by rw [hAB];exact ⟨rfl,rfl,rfl⟩))
theorem walk {s:Src}{nm:ByteArray}{n m:Int}(hok:ZdY s):Ac 7 [.agg (srcC s),sv nm,iv n,iv m] [] (bv true):=walk0 hok
end Go.Proofs.YthdifaphoaekoaaGreatDoor.zoneSteps
end
section
namespace Go.Proofs.YthdifaphoaekoaaGreatDoor.zoneLink
open Go.ChangeShapes Go.WideShapes Go.ChangeAt Go.RowKit Go.Ab Civ
attribute [local simp] Zbl Zby Zbn Zbr ZbN ZdF ZdQ
section
theorem Zd3 {a0 a1 a2:AV}{l:List AV}:((a0::a1::a2::l).drop 0).take 3=[a0,a1,a2]:=rfl
theorem Zln { e:Ent}:([]:AH)++[e]=[e]:=rfl
theorem Zoy {e0 d0:Ent}:([e0]:AH)++[d0]=[e0,d0]:=rfl
theorem ZiZ {a0 a1 a2 c0 c1 c2:AV}{l:List AV}:setCells (a0::a1::a2::l) 0 [c0,c1,c2]=c0::c1::c2::l:=rfl
theorem Zox {e0 e1 d0:Ent}:([e0,e1]:AH)++[d0]=[e0,e1,d0]:=rfl
theorem Zmw {a0 b0:Int}{a1 b1:Int}{a2 b2:ByteArray}:Zbz [.int,.int,.str] [iv a0,iv a1,sv a2] [iv b0,iv b1,sv b2]=some (decide (a0=b0∧a1=b1∧a2=b2)):=by
 simp only [Zbz,Zeu,if_true,Zdu,Option.some.injEq]
 simp only [Bool.decide_and,Bool.and_true]
 try (congr 1 <;> simp)
 try rfl
end
def c3:AC:=(Sr [Oo 2 (.box 26 3 (.tmp 0)),Mb 4 false] (.seq (Sr [Cl 10 13 [],Oo 11 (.un .not (.tmp 10))] (Cd 11 (Sr [Mb 4 false] .ret) .skip)) (.seq (Sr [Oo 12 (.load true 3 (.tmp 2)),Cl 13 14 [(.tmp 12)],Bc 14 .neq 13 0] (Cd 14 (Sr [Mb 4 true] .ret) .skip)) (.seq (Sr [Mc 5 0] (.block 0 (.loop (.seq (Sr [Mv 15 5,Fa 16 2 2,Ld 17 16,Oo 18 (.len false (.tmp 17)),Bn 19 .lss 15 18] (Cd 19 .skip (.exit 0))) (.seq (.block 1 (.seq (.drw [Oo 23 (.load true 3 (.tmp 2)),Fa 24 2 2,Ld 25 24,Mv 26 5,Oo 27 (.ia 2 (.tmp 25) (.tmp 26)),Fa 28 1 27,Ld 29 28,Mv 30 1,Cl 31 15 [(.tmp 23),(.tmp 29),(.tmp 30)],Mv 22 31,Ex 32 22 0,Ex 33 22 1,Oo 6 (.new 31 3 [(iv 0),(iv 0),Ss])] [false,false] [⟨none,none,(.store 3 (.tmp 6) (.tmp 32))⟩,Mv 7 33]) (.seq (.drw [Oo 35 (.load true 3 (.tmp 2)),Fa 36 2 2,Ld 37 36,Mv 38 5,Oo 39 (.ia 2 (.tmp 37) (.tmp 38)),Fa 40 0 39,Ld 41 40,Mv 42 1,Cl 43 15 [(.tmp 35),(.tmp 41),(.tmp 42)],Mv 34 43,Ex 44 34 0,Ex 45 34 1,Oo 8 (.new 31 3 [(iv 0),(iv 0),Ss])] [false,false] [⟨none,none,(.store 3 (.tmp 8) (.tmp 44))⟩,Mv 9 45]) (Sr [Mv 46 7,Mv 47 9,Bn 48 .neq 46 47,Mv 49 48,Of 50 49 (.load true 3 (.tmp 6)),Of 51 49 (.load true 3 (.tmp 8)),Of 52 49 (.eqs true [.int,.int,.str] (.tmp 50) (.tmp 51)),Oo 53 (.pick (.tmp 49) (.const (.bool true)) (.tmp 52))] (Cd 53 (Sr [Mb 4 false] .ret) .skip))))) (.reg [Mv 20 5,Bc 21 .add 20 1,Mv 5 21])))))) (Sr [Mb 4 true] .ret)))))
theorem k3:ZaD Tryz.prog 3=some ⟨c3,[(.tmp 4)],54⟩:=by kernel_rfl
theorem ZkQ : ∀ {k:List Lnk},(k.map (·.2)).Nodup → ∀ x∈k,∀ y∈k,x.2=y.2→x=y
 | [],_,x,hx,_,_,_=>by cases hx
 | u::k,h,x,hx,y,hy,e=>by
  rw [List.map_cons,List.nodup_cons] at h
  rcases List.mem_cons.1 hx with hx1 | hx <;> rcases List.mem_cons.1 hy with hy1 | hy
  ·exact hx1.trans hy1.symm
  ·exact absurd (List.mem_map.2 ⟨y,hy,by rw [←hx1];exact e.symm⟩) h.1
  ·exact absurd (List.mem_map.2 ⟨x,hx,by rw [←hy1];exact e⟩) h.1
  exact ZkQ h.2 x hx y hy e
theorem tgt_hit {s:Src}{l:Lnk}(hn:(s.2.2.map (·.2)).Nodup) (hl:l∈s.2.2):tgtV s l.2=l.1:=by
 have hlt:s.2.2.findIdx (fun x=>decide (x.2=l.2))<s.2.2.length:=List.findIdx_lt_length_of_exists ⟨l,hl,by simp⟩
 have h1:s.2.2[s.2.2.findIdx fun x=>decide (x.2=l.2)].2=l.2:=by simpa using List.findIdx_getElem (w:=hlt)
 have h2:=ZkQ hn _ (List.getElem_mem hlt) l hl h1
 unfold tgtV
 rw [List.getElem?_eq_getElem hlt]
 exact congrArg (·.1) h2
theorem tgt_miss {s:Src}{nm:ByteArray}(h:nm ∉ s.2.2.map (·.2)):tgtV s nm=nm:=by
 have hlt:¬s.2.2.findIdx (fun x=>decide (x.2=nm))<s.2.2.length:=fun hlt=>h (List.mem_map.2 ⟨_,List.getElem_mem hlt,by simpa using List.findIdx_getElem (w:=hlt)⟩)
 unfold tgtV
 rw [List.getElem?_eq_none (Nat.le_of_not_lt hlt)]
theorem Zp3 {z:List Zon}{nm:ByteArray}(h:¬ZeH z nm<0):nm∈z.map (·.1):=by
 by_cases hlt:z.findIdx (fun x=>decide (x.1=nm))<z.length
 ·exact List.mem_map.2 ⟨_,List.getElem_mem hlt,by simpa using List.findIdx_getElem (w:=hlt)⟩
 exact absurd (show ZeH z nm<0 by have:ZeH z nm = -1:=if_neg hlt;omega) h
theorem Zqo {s:Src}(h:ZbY s=0) {l:Lnk}(hl:l∈s.2.2):ZaB s l.2=ZaB s l.1:=by
 obtain ⟨_,hn,hm,_,_⟩:=Zgx h
 unfold ZcZ at hn
 rw [List.nodup_append] at hn
 have hp:¬ZeH s.2.1 l.1<0:=by
  unfold ZhI at hm
  rw [Bool.or_eq_false_iff] at hm
  have:=hm.1
  rw [List.any_eq_false] at this
  simpa using this l hl
 have e:tgtV s l.2=tgtV s l.1:=by
  rw [tgt_hit hn.2.1 hl,tgt_miss fun hh=>hn.2.2 _ (Zp3 hp) _ hh rfl]
 unfold ZaB
 rw [e]
theorem at_same {s:Src}(h:ZbY s=0) {l:Lnk}(hl:l∈s.2.2) (n:Int):atV s l.2 n=atV s l.1 n:=by
 unfold atV;rw [Zqo h hl]
theorem walk0 {a:List Rul}{z:List Zon}{k:List Lnk}{n:Int}{h:AH}(hok:ZdY (a,z,k)):Ac 3 [.agg (srcB a z k),iv n] h (bv true):=by
 refine tI' k3 fun N hn hlt hlA hbd=>?_
 simp only [tb'] at hbd ⊢
 refine wr'<|E' (Zbm (cvl lk rfl) rfl (hl0 hn) ha0) pt<|mv' lkb pt<|sn'<|Zal<|wr'<|Zad mp0 (ZmQ) pt<|V' (Zav lk) pt<|sn'<|ZaL lk<|?_
 refine Zae<|Zah<|Zal<|wr'<|V' (Zap lk (hga hn rfl) Zd3 rfl) pt<|Zad mp (Zjk hok) pt<|V' (ZaY lk lki) pt<|sn'<|?_
 refine cd' lk (fun hc2=>?_) (fun hc2=>?_)
 ·exact wr'<|mv' lkb pt<|sn'<|Zaa<|Zaj<|Zaf rz<|rT' rfl
 have hz0:ZbY (a,z,k)=0:=Decidable.of_not_not hc2
 obtain ⟨q1,q2,q3,q4,q5,q6,q7⟩:=Zc0 (Zf0 hz0)
 simp only at q1 q2 q3 q4 q5 q6 q7
 refine Zae<|Zah<|Zal<|wr'<|mv' lki pt<|sn'<|Zao<|?_
 refine w_lp (ι:=Nat) (fun (i:Nat)=>[(5,iv (i:Int)),(4,.any)]++rn' 6 4++rn' 15 39) (fun (i:Nat)=>[]) (fun (i:Nat)=>i≤k.length) (fun (i:Nat)=>k.length-i) (0) (by exact Nat.zero_le _) ?_
 rintro i hi1
 try simp only [sm',Nat.reduceAdd]
 replace hi1:i≤k.length:=hi1
 refine Zal<|wr'<|mv' lk pt<|V' (Zac lk) pt<|V' (Zab lk (hga hn rfl) gt2) pt<|V' (ZaO lk) pt<|V' (Za6 lk lk) pt<|sn'<|?_
 refine cd' lk (fun hc3=>?_) (fun hc3=>?_)
 ·have hi:i<k.length:=by omega
  have hAB:=at_same hz0 (List.getElem_mem hi) n
  replace hAB:atV (a,z,k) k[i].2 n=atV (a,z,k) k[i].1 n:=hAB
  refine Zae<|Zah<|Zal<|Zao<|Zal<|Zb9<|D' (Zap lk (hga hn rfl) Zd3 rfl) pt<|D' (Zac lk) pt<|D' (Zab lk (hga hn rfl) gt2) pt<|D' (v_mv lk) pt<|?_
  refine D' (ZaT lk lk ZcR (nb' rfl) ro (by omega) ro rfl) pt ?_
  refine D' (Zbf lk dp1) pt<|D' (Zax lk gt) pt<|D' (v_mv lk) pt<|?_
  refine Za9 mp (fun hE hX=>at_a hok) pt ?_
  refine D' (v_mv lk) pt<|D' (ZaV lk gt) pt<|D' (ZaV lk gt) pt<|Zoq rfl rfl (hlk hn rfl) (l_new) pt Zln<|ZbX<|?_
  refine ZqO Zoy ?_
  refine E' (Zam lk (cvl lk rfl) (hga hn rfl) rfl (nb' rfl) rfl ZiZ (hs1 hn)) ptn<|mv' lk pt<|sn'<|Zal<|Zb9<|D' (Zap lk (hga hn rfl) Zd3 rfl) pt<|D' (Zac lk) pt<|D' (Zab lk (hga hn rfl) gt2) pt<|D' (v_mv lk) pt<|?_
  refine D' (ZaT lk lk ZcR (nb' rfl) ro (by omega) ro rfl) pt ?_
  refine D' (Zbf lk dp0) pt<|D' (Zax lk gt) pt<|D' (v_mv lk) pt<|?_
  refine Za9 mp (fun hE hX=>at_a hok) pt ?_
  refine D' (v_mv lk) pt<|D' (ZaV lk gt) pt<|D' (ZaV lk gt) pt<|Zoq rfl rfl (hlk hn rfl) (l_new) pt Zln<|ZbX<|?_
  refine ZqO Zox ?_
  refine E' (Zam lk (cvl lk rfl) (hga hn rfl) rfl (nb' rfl) rfl ZiZ (hs2 hn)) ptn<|mv' lk pt<|sn'<|wr'<|mv' lk pt<|mv' lk pt<|V' (ZaY lk lk) pt<|mv' lk pt<|?_
  refine Zbx (t:=49) gt (b:=false) (by exact decide_eq_false (by rw [hAB];exact fun h=>h rfl)) pt ?_
  refine s_do gt<|V' (Zap lk (hga hn rfl) Zd3 rfl) pt<|s_do gt<|V' (Zap lk (hga hn rfl) Zd3 rfl) pt<|s_do gt<|V' (Zkn lk lk Zmw) pt<|V' (Zag lk lk) pt<|sn'<|?_
  refine ZcF lk (by exact decide_eq_false (by rw [hAB];exact fun h=>h ⟨rfl,rfl,rfl⟩)) ?_
  refine Zae<|ZaA<|Zah<|Zas<|mv' lk pt<|?_
  refine V' (Zaz lk lki (by omega) (by omega)) pt ?_
  refine mv' lk pt<|Zar<|ZaC<|?_
  refine lU' (i+1) (by (try dsimp only);omega) (by (try dsimp only);(try simp only [sm',Nat.reduceAdd]);exact bk' 1 hn hlt)
 exact ZaQ<|ZaF<|ZaF<|Za7<|Zah<|wr'<|mv' lkb pt<|sn'<|Zaa<|Zaf rz<|rT' rfl
theorem walk {s:Src}{n:Int}(hok:ZdY s):Ac 3 [.agg (srcC s),iv n] [] (bv true):=walk0 hok
end Go.Proofs.YthdifaphoaekoaaGreatDoor.zoneLink
end
