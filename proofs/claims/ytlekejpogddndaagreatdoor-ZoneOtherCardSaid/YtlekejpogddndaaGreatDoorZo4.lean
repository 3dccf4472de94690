/-
  Part 4 of the proof: own lemmas and contracts on plain data. No condition beyond those that each lemma states.
-/
import Derived.Test.YtlekejpogddndaaGreatDoorZo3
import Derived.ProofKit
import Derived.Carry
import Derived.Lib.SmallJoins
import Derived.Deep.Slices
import Derived.Test.YtlekejpogddndaaGreatDoorCards
import Derived.Test.YtlekejpogddndaaGreatDoorTie
import Derived.Lay
import Derived.Handed
import Derived.SizedLaws
import Derived.Shelf.Vars
import Derived.SevenTiedAt
import Derived.LaidSub
import Derived.MakeChecks
set_option linter.all false
set_option maxRecDepth 1000000
set_option maxHeartbeats 4000000
section
namespace Go.Proofs.YtlekejpogddndaaGreatDoor
open Go.Ab Go.RowKit Civ
theorem pt_name:PT Zew (fun s=>s.size≤24):=fun t ho=>⟨(Za5 ho (s:=(ZaN t).1) (u:=(ZaN t).2) rfl).1,ZfL ho rfl⟩
theorem pt_num (s:ByteArray) (a b:Int):PT (tNum s a b) (fun _=>True):=fun t ho=>⟨trivial,Zhd ho rfl⟩
theorem pt_year:PT Zpt (fun _=>True):=pt_next.bind (k:=fun s=>tNum s 4 4) fun s _=>pt_num s 4 4
theorem pt_day:PT tDay (fun _=>True):=pt_next.bind (k:=fun s=>tNum s 1 2) fun s _=>pt_num s 1 2
theorem pt_to (f:Int):PT (tToN f) (fun _=>True):=pt_next.bind (k:=tTo f) fun s _=>fun t ho=>⟨trivial,Zp3 ho rfl⟩
theorem pt_month:PT Zdh (fun _=>True):=fun t ho=>⟨trivial,Zgn ho rfl⟩
theorem pt_form:PT Zgh (fun _=>True):=fun t ho=>⟨trivial,ZkM ho rfl⟩
theorem Zm4 (d:Int):PT (ZcU d) (fun _=>True):=fun t ho=>⟨trivial,Zgo ho rfl⟩
theorem pt_span:PT Zpv (fun _=>True):=pt_next.bind (k:=Zbt) fun s _=>fun t ho=>⟨trivial,ZhG ho rfl⟩
theorem pt_letter:PT Zc0 (fun s=>s.size≤24):=by
 intro t ho
 have h:=Za5 ho (s:=(ZaN t).1) (u:=(ZaN t).2) rfl
 unfold Zc0
 refine ⟨?_,?_⟩
 ·dsimp only;split
  ·decide
  ·exact h.1
 ·dsimp only;split
  ·exact h.2
  ·exact h.2
def okRul (r:Rul):Prop:=r.1.size≤maxLen∧r.2.2.2.2.2.2.2.2.size≤maxLen
theorem ZhK {n:Nat}(h:n≤24):n≤maxLen:=by unfold maxLen;omega
theorem pt_rule:PT Zju okRul :=
 pt_name.bind fun nm h1=>pt_year.bind fun f _=>(pt_to f).bind fun _ _=>pt_month.bind fun m _=>pt_form.bind fun k _=>(Zm4 1).bind fun c _=>pt_span.bind fun sv _=>pt_letter.bind fun l h2=>PT.ret ⟨ZhK h1,ZhK h2⟩
theorem pt_shift:PT ZfA (fun _=>True):=fun t ho=>⟨trivial,ZiH ho rfl⟩
theorem pt_rules:PT Zpw (fun p=>p.2.size≤24):=by
 refine pt_next.bind (k:=ZdG) fun s hs t ho=>⟨?_,ZiI ho rfl⟩
 unfold ZdG
 split
 ·exact Nat.zero_le 24
 ·split
  ·exact Nat.zero_le 24
  ·exact hs
theorem pt_format:PT Zht (fun s=>s.size≤24):=by
 intro t ho
 have h:=Za5 ho (s:=(ZaN t).1) (u:=(ZaN t).2) rfl
 unfold Zht
 refine ⟨h.1,?_⟩
 dsimp only;split
 ·exact h.2
 ·exact h.2
theorem pt_until:PT ZgQ (fun _=>True) :=
 pt_year.bind fun y _=>pt_month.bind fun m _=>pt_day.bind fun d _=>(Zm4 2).bind fun c _=>PT.bind (P:=fun _=>True) (fun t ho=>⟨trivial,by unfold Zpu;dsimp only;split <;> exact ho⟩) fun _ _=>PT.ret trivial
theorem pt_end:PT tEnd (fun _=>True):=by
 intro t ho
 refine ⟨trivial,?_⟩
 unfold tEnd
 split
 ·exact ho
 ·exact (pt_until t ho).2
theorem pt_era:PT tEra Zp5 :=
 pt_shift.bind fun sh _=>pt_rules.bind fun r h1=>pt_format.bind fun f h2=>pt_end.bind fun u _=>PT.ret ⟨ZhK h1,ZhK h2⟩
theorem ZkN {s:Src}{x:Era}(h:Zdk s) (hx:Zp5 x):Zdk (Zcn s x).1:=by
 refine ⟨h.1,?_,h.2.2⟩
 show ∀ z∈ZnI s.2.1 x,_
 obtain ⟨a,z,l⟩:=s
 have h2:=h.2.1
 simp only at h2 ⊢
 rcases List.eq_nil_or_concat z with rfl | ⟨i,y,rfl⟩
 ·intro z hz;cases hz
 ·rw [List.concat_eq_append,Zfs]
  intro z hz
  rcases List.mem_append.1 hz with hz | hz
  ·exact h2 z (by rw [List.concat_eq_append];exact List.mem_append_left _ hz)
  ·rw [List.mem_singleton] at hz
   subst hz
   have hy:=h2 y (by rw [List.concat_eq_append];simp)
   refine ⟨hy.1,fun e he=>?_⟩
   rcases List.mem_append.1 he with he | he
   ·exact hy.2 e he
   ·rw [List.mem_singleton] at he;subst he;exact hx
theorem pt_body {p:PS}(h:Zdk p.1):PT (Zek p) (fun q=>Zdk q.1):=by
 unfold Zek
 split
 ·exact pt_era.bind fun x hx=>PT.ret (ZkN h hx)
 ·refine pt_next.bind fun w _=>?_
  split
  ·refine pt_rule.bind fun r hr=>PT.ret ⟨fun y hy=>?_,h.2.1,h.2.2⟩
   rcases List.mem_append.1 hy with hy | hy
   ·exact h.1 y hy
   ·rw [List.mem_singleton] at hy;subst hy;exact hr
  ·split
   ·refine pt_name.bind fun n hn=>pt_era.bind fun x hx=>PT.ret (ZkN ⟨h.1,fun y hy=>?_,h.2.2⟩ hx)
    rcases List.mem_append.1 hy with hy | hy
    ·exact h.2.1 y hy
    ·rw [List.mem_singleton] at hy;subst hy;exact ⟨ZhK hn,fun e he=>by cases he⟩
   ·split
    ·refine pt_name.bind fun a ha=>pt_name.bind fun b hb=>PT.ret ⟨h.1,h.2.1,fun y hy=>?_⟩
     rcases List.mem_append.1 hy with hy | hy
     ·exact h.2.2 y hy
     ·rw [List.mem_singleton] at hy;subst hy;exact ⟨ZhK ha,ZhK hb⟩
    ·exact fun t ho=>⟨h,ho⟩
theorem Za4 {p q:PS}{x:Ln}{u:TS}(hB:Zek p (x.2.2,false)=(q,u)) (h:u.2=true∨u.1≠[]∨x.2.1≠p.2):ZkV p x=none:=Zql (by unfold badT;rw [hB];exact h)
theorem Zc8 {p q:PS}{x:Ln}{u:TS}(hB:Zek p (x.2.2,false)=(q,u)) (h1:u.2=false) (h2:u.1=[]) (h3:x.2.1=p.2):ZkV p x=some q:=by
 have:=lineR_ok (p:=p) (x:=x) (by unfold badT;rw [hB];simp [h1,h2,h3])
 rw [this,hB]
def curS (s:Src) (o:Option Zon):Src:=(s.1,s.2.1++o.toList,s.2.2)
theorem ZeD {s:Src}:curS s none=s:=by unfold curS;simp
def zC (N v:Nat):Option Zon→List AV
 | none=>[]
 | some z=>[sv z.1,.own (N+5) v z.2.length]
def eC:Option Zon→List Era
 | none=>[]
 | some z=>z.2
theorem Zqh {n:Nat}{b:List AV}(hb:AV.ltL n b=true) : ∀ {a:List AV},AV.ltL n a=true→AV.ltL n (a++b)=true
 | [],_=>hb
 | x::a,h=>by
  simp only [List.cons_append,AV.ltL,Bool.and_eq_true] at h ⊢
  exact ⟨h.1,Zqh hb h.2⟩
theorem Zgb {N v:Nat}{l:List Zon}{o:Option Zon}:AV.ltL (N+6) (rows zonC l++zC N v o)=true:=by
 refine Zqh ?_ (Zbk l)
 cases o <;> simp [zC,AV.ltL,AV.lt]
theorem Zki {N v:Nat}{l:List Zon}{o:Option Zon}:(rows zonC l++zC N v o).length=(l.length+o.toList.length)*2:=by
 rw [List.length_append,Zd3]
 cases o <;> simp [zC] <;> omega
theorem zc_at {l:List Zon}{a b:AV}{off:Nat}(h:off=l.length*2+1):(rows zonC l++[a,b])[off]?=some b:=by
 subst h
 rw [List.getElem?_append_right (by rw [Zd3];omega),Zd3,Nat.add_sub_cancel_left];rfl
theorem zc_set {l:List Zon}{a b c:AV}{off:Nat}(h:off=l.length*2+1):setCells (rows zonC l++[a,b]) off [c]=rows zonC l++[a,c]:=by
 subst h
 simp only [setCells]
 rw [List.set_append_right _ _ (by rw [Zd3];omega),Zd3,Nat.add_sub_cancel_left];rfl
theorem zc_put {l:List Zon}{a b c:AV}:aPut (rows zonC l++[a,b]) (some (l.length*2+1)) c=rows zonC l++[a,c]:=zc_set rfl
theorem zc_at2 {l:List Zon}{N v:Nat}{a b:AV}{off:Nat}(h:off=l.length*2+1):(rows zonC l++zC N v none++[a,b])[off]?=some b:=by
 rw [show rows zonC l++zC N v none=rows zonC l from List.append_nil _];exact zc_at h
theorem zc_put2 {l:List Zon}{N v:Nat}{a b c:AV}:aPut (rows zonC l++zC N v none++[a,b]) (some (l.length*2+1)) c=rows zonC l++[a,c]:=by
 rw [show rows zonC l++zC N v none=rows zonC l from List.append_nil _];exact zc_put
theorem Zkw {s:ByteArray} : ∀ x∈(ZbQ s).1,∀ f∈x.2.2,f.size≤24:=by
 intro x hx f hf
 have h:=ZlI x hx
 unfold Zn8 at h
 split at h
 ·cases h
 ·split at h
  ·cases h
  ·have : ∀ {fs:List ByteArray},ZiV fs=0 → ∀ f∈fs,Zfe f=0:=by
    intro fs
    induction fs with
    | nil=>intro _ f hf;cases hf
    | cons g fs ih =>
     intro h f hf
     rw [ZiV] at h
     split at h
     ·rename_i h1;exact absurd h h1
     ·rename_i h1
      rcases List.mem_cons.1 hf with rfl | hf
      ·exact Decidable.of_not_not h1
      ·exact ih h f hf
   exact (Zog (this h f hf)).2
theorem Zpx {s:ByteArray}:(ZbQ s).1.length≤200:=by
 unfold ZbQ
 split
 ·simp
 ·split
  ·rename_i h2;rw [ZiL h2];simp
  ·split
   ·simp
   ·omega
end Go.Proofs.YtlekejpogddndaaGreatDoor
end
section
namespace Go.Proofs.YtlekejpogddndaaGreatDoor
open Go.Ab Go.RowKit Civ
attribute [local simp] Zbi Zbu Zbk Zbp ZbK Zfo Zgb
section
theorem Zia {τ:Operand→AV}:Zat τ [] [(.sl 0 0 true []),(.sl 0 0 true []),(.sl 0 0 true [])]=some [(.sl 0 0 true []),(.sl 0 0 true []),(.sl 0 0 true [])]:=rfl
theorem ZaR {a0 a1 a2 c0 c1 c2:AV}{l:List AV}:setCells (a0::a1::a2::l) 0 [c0,c1,c2]=c0::c1::c2::l:=rfl
theorem ZaQ {a0 a1 a2:AV}{l:List AV}:((a0::a1::a2::l).drop 0).take 3=[a0,a1,a2]:=rfl
theorem Zh9 {τ:Operand→AV}{y0:Operand}{x0_0:AV}(h0:Zav (τ y0)=some [x0_0]) (l0:[x0_0].all leaf=true):Zat τ [(0,1,y0)] [(.sl 0 0 true []),(.v (.bool false))]=some [x0_0,(.v (.bool false))]:=by
 simp only [Zat,h0,l0]
 rfl
theorem Zjb {a0 a1 c0 c1:AV}{l:List AV}:setCells (a0::a1::l) 0 [c0,c1]=c0::c1::l:=rfl
theorem Zh7 {τ:Operand→AV}{y0:Operand}{x0_0 x0_1 x0_2 x0_3 x0_4 x0_5 x0_6 x0_7 x0_8 x0_9 x0_10:AV}(h0:Zav (τ y0)=some [x0_0,x0_1,x0_2,x0_3,x0_4,x0_5,x0_6,x0_7,x0_8,x0_9,x0_10]) (l0:[x0_0,x0_1,x0_2,x0_3,x0_4,x0_5,x0_6,x0_7,x0_8,x0_9,x0_10].all leaf=true):Zat τ [(0,11,y0)] [(.v (.string ⟨#[]⟩)),(.v (.int .i64 0)),(.v (.int .i64 0)),(.v (.int .i64 0)),(.v (.int .i64 0)),(.v (.int .i64 0)),(.v (.int .i64 0)),(.v (.int .i64 0)),(.v (.int .i64 0)),(.v (.int .i64 0)),(.v (.string ⟨#[]⟩))]=some [x0_0,x0_1,x0_2,x0_3,x0_4,x0_5,x0_6,x0_7,x0_8,x0_9,x0_10]:=by
 simp only [Zat,h0,l0]
 rfl
theorem ZoG {a0 a1 a2 a3 a4 a5 a6 a7 a8 a9 a10:AV}{l:List AV}:(a0::a1::a2::a3::a4::a5::a6::a7::a8::a9::a10::l).take 11=[a0,a1,a2,a3,a4,a5,a6,a7,a8,a9,a10]:=rfl
theorem Zjc {a0 c0:AV}{l:List AV}:setCells (a0::l) 0 [c0]=c0::l:=rfl
theorem ZaC {τ:Operand→AV}:Zat τ [] [(.sl 0 0 true []),(.sl 0 0 true []),(.sl 0 0 true [])]=some [(.sl 0 0 true []),(.sl 0 0 true []),(.sl 0 0 true [])]:=rfl
theorem Zh6 {τ:Operand→AV}{y0:Operand}{x0_0:AV}(h0:Zav (τ y0)=some [x0_0]) (l0:[x0_0].all leaf=true):Zat τ [(0,1,y0)] [(.v (.string ⟨#[]⟩)),(.sl 0 0 true [])]=some [x0_0,(.sl 0 0 true [])]:=by
 simp only [Zat,h0,l0]
 rfl
theorem Zh4 {a0 a1 a2 a3 a4 a5 a6 a7 a8 a9 c0 c1 c2 c3 c4 c5 c6 c7 c8 c9:AV}{l:List AV}:setCells (a0::a1::a2::a3::a4::a5::a6::a7::a8::a9::l) 0 [c0,c1,c2,c3,c4,c5,c6,c7,c8,c9]=c0::c1::c2::c3::c4::c5::c6::c7::c8::c9::l:=rfl
theorem Zh3 {a0 a1 a2 a3 a4 a5 a6 a7 a8 a9:AV}{l:List AV}:((a0::a1::a2::a3::a4::a5::a6::a7::a8::a9::l).drop 0).take 10=[a0,a1,a2,a3,a4,a5,a6,a7,a8,a9]:=rfl
theorem Zh5 {τ:Operand→AV}{y0:Operand}{x0_0 x0_1 x0_2 x0_3 x0_4 x0_5 x0_6 x0_7 x0_8 x0_9:AV}(h0:Zav (τ y0)=some [x0_0,x0_1,x0_2,x0_3,x0_4,x0_5,x0_6,x0_7,x0_8,x0_9]) (l0:[x0_0,x0_1,x0_2,x0_3,x0_4,x0_5,x0_6,x0_7,x0_8,x0_9].all leaf=true):Zat τ [(0,10,y0)] [(.v (.int .i64 0)),(.v (.string ⟨#[]⟩)),(.v (.int .i64 0)),(.v (.string ⟨#[]⟩)),(.v (.bool false)),(.v (.int .i64 0)),(.v (.int .i64 0)),(.v (.int .i64 0)),(.v (.int .i64 0)),(.v (.int .i64 0))]=some [x0_0,x0_1,x0_2,x0_3,x0_4,x0_5,x0_6,x0_7,x0_8,x0_9]:=by
 simp only [Zat,h0,l0]
 rfl
theorem Zi9 {a0 a1 a2 a3 a4 a5 a6 a7 a8 a9:AV}{l:List AV}:(a0::a1::a2::a3::a4::a5::a6::a7::a8::a9::l).take 10=[a0,a1,a2,a3,a4,a5,a6,a7,a8,a9]:=rfl
theorem Ze3 {a0 a1 c0:AV}{l:List AV}:setCells (a0::a1::l) 1 [c0]=a0::c0::l:=rfl
theorem Zja {a0 a1:AV}{l:List AV}:((a0::a1::l).drop 0).take 2=[a0,a1]:=rfl
theorem Zg9 {τ:Operand→AV}{y0:Operand}{x0_0 x0_1:AV}(h0:Zav (τ y0)=some [x0_0,x0_1]) (l0:[x0_0,x0_1].all leaf=true):Zat τ [(0,2,y0)] [(.v (.string ⟨#[]⟩)),(.sl 0 0 true [])]=some [x0_0,x0_1]:=by
 simp only [Zat,h0,l0]
 rfl
theorem Zri {h:AH}{n:Nat}(hn:h.length=n) {e0 e1 e2 e3 e4 e5 e6 e7 e8 e9:Ent}:(h++[e0,e1,e2,e3,e4,e5,e6,e7,e8,e9]).length=n+10:=by subst hn;simp
theorem Zrj {h:AH}{e0 e1 e2 e3 e4 e5 e6 e7 e8 e9 e:Ent}:(h++[e0,e1,e2,e3,e4,e5,e6,e7,e8,e9])++[e]=h++[e0,e1,e2,e3,e4,e5,e6,e7,e8,e9,e]:=by simp
theorem Zll {a0 a1:AV}{l:List AV}:(a0::a1::l).take 2=[a0,a1]:=rfl
theorem Zg8 {τ:Operand→AV}{y0:Operand}{x0_0 x0_1:AV}(h0:Zav (τ y0)=some [x0_0,x0_1]) (l0:[x0_0,x0_1].all leaf=true):Zat τ [(0,2,y0)] [(.v (.string ⟨#[]⟩)),(.v (.string ⟨#[]⟩))]=some [x0_0,x0_1]:=by
 simp only [Zat,h0,l0]
 rfl
theorem ZoH {a0 a1 a2 c0:AV}{l:List AV}:setCells (a0::a1::a2::l) 2 [c0]=a0::a1::c0::l:=rfl
theorem Zh8 {τ:Operand→AV}{y0:Operand}{x0_0 x0_1 x0_2 x0_3 x0_4 x0_5 x0_6 x0_7 x0_8 x0_9:AV}(h0:Zav (τ y0)=some [x0_0,x0_1,x0_2,x0_3,x0_4,x0_5,x0_6,x0_7,x0_8,x0_9]) (l0:[x0_0,x0_1,x0_2,x0_3,x0_4,x0_5,x0_6,x0_7,x0_8,x0_9].all leaf=true):Zat τ [(0,10,y0)] [(.v (.int .i64 0)),(.v (.string ⟨#[]⟩)),(.v (.int .i64 0)),(.v (.string ⟨#[]⟩)),(.v (.bool false)),(.v (.int .i64 0)),(.v (.int .i64 0)),(.v (.int .i64 0)),(.v (.int .i64 0)),(.v (.int .i64 0))]=some [x0_0,x0_1,x0_2,x0_3,x0_4,x0_5,x0_6,x0_7,x0_8,x0_9]:=by
 simp only [Zat,h0,l0]
 rfl
theorem Zrh { e:Ent}:([]:AH)++[e]=[e]:=rfl
theorem ZoI {e0 e1 e2 e3 e4 e5 e6 e7 d0:Ent}:([e0,e1,e2,e3,e4,e5,e6,e7]:AH)++[d0]=[e0,e1,e2,e3,e4,e5,e6,e7,d0]:=rfl
theorem Zg7 {τ:Operand→AV}:Zat τ [] [(.sl 0 0 true []),(.sl 0 0 true []),(.sl 0 0 true [])]=some [(.sl 0 0 true []),(.sl 0 0 true []),(.sl 0 0 true [])]:=rfl
theorem Zg6 {τ:Operand→AV}:Zat τ [] [(.sl 0 0 true []),(.sl 0 0 true []),(.sl 0 0 true [])]=some [(.sl 0 0 true []),(.sl 0 0 true []),(.sl 0 0 true [])]:=rfl
end
def c130:AC:=(Sr [Oo 2 (.new 26 3 [(.sl 0 0 true []),(.sl 0 0 true []),(.sl 0 0 true [])]),Mc 3 0,Mc 4 0] (Sr [Mv 20 0,Cl 21 199 [(.tmp 20)],Mv 19 21,Ex 22 19 0,Ex 23 19 1,Ex 24 19 2,Mv 5 22,Mv 6 23,Mv 7 24] (.seq (Sr [Mv 25 7,Bc 26 .neq 25 0] (Cd 26 (Sr [Oo 27 (.build [(.sl 0 0 true []),(.sl 0 0 true []),(.sl 0 0 true [])] []),Mv 28 6,Mv 29 7,⟨none,none,(.store 3 (.tmp 2) (.tmp 27))⟩,Mv 3 28,Mv 4 29] .ret) .skip)) (Sr [Oo 8 (.new 26 3 [(.sl 0 0 true []),(.sl 0 0 true []),(.sl 0 0 true [])])] (Sr [Mb 9 false] (.seq (Sr [Mc 10 0] (.block 0 (.loop (.seq (Sr [Mv 30 10,Mv 31 5,Oo 32 (.len false (.tmp 31)),Bn 33 .lss 30 32] (Cd 33 .skip (.exit 0))) (.seq (.block 1 (Sr [Mv 36 5,Mv 37 10,Oo 38 (.ia 3 (.tmp 36) (.tmp 37)),Fa 39 2 38,Ld 40 39,Oo 41 (.build [(.sl 0 0 true []),(.v (.bool false))] [(0,(1,(.tmp 40)))]),Oo 11 (.new 250 2 [(.sl 0 0 true []),(.v (.bool false))]),⟨none,none,(.store 2 (.tmp 11) (.tmp 41))⟩] (Sr [Mv 42 9,Mv 12 42] (Sr [Ms 13] (.seq (Sr [Mv 43 9,Oo 44 (.un .not (.tmp 43))] (Cd 44 (.reg [Cl 45 200 [(.tmp 11)],Mv 13 45]) .skip)) (.seq (.block 2 (Sr [Mv 48 9,Mv 47 48] (Cd 47 (Sr [Fa 49 1 8,Ld 50 49,Oo 51 (.len false (.tmp 50)),Bc 52 .sub 51 1,Mv 14 52] (Sr [Cl 53 201 [(.tmp 11)],Oo 15 (.new 63 10 [(iv 0),Ss,(iv 0),Ss,(.v (.bool false)),(iv 0),(iv 0),(iv 0),(iv 0),(iv 0)]),⟨none,none,(.store 10 (.tmp 15) (.tmp 53))⟩] (.seq (.drw [Fa 54 1 8,Oo 55 (.loadR false 1 (.tmp 54)),Mv 56 14,Fa 57 1 8,Ld 58 57,Mv 59 14,Oo 60 (.ia 2 (.tmp 58) (.tmp 59)),Fa 61 1 60,Ld 62 61,Oo 63 (.load true 10 (.tmp 15)),Oo 64 (.lit 63 10 1 [(iv 0),Ss,(iv 0),Ss,(.v (.bool false)),(iv 0),(iv 0),(iv 0),(iv 0),(iv 0)] [(0,(10,(.tmp 63)))])] [true,false,false,false] [Oo 65 (.app 63 10 96 (.tmp 62) (.tmp 64)),Oo 66 (.ia 2 (.tmp 55) (.tmp 56)),Fa 67 1 66,Sc 67 65]) (.reg [Fa 68 4 15,Ld 69 68,Oo 70 (.un .not (.tmp 69)),Mv 9 70])))) (Sr [Mv 72 13,Oo 73 (.bin .eql (.tmp 72) (.const (.string ⟨#[82,117,108,101]⟩))),Mv 71 73] (Cd 71 (.orPan (.drw [Fa 74 0 8,Oo 75 (.loadR false 1 (.tmp 74))] [true,true,false,false,false] [Cl 76 202 [(.tmp 11)],Oo 77 (.lit 36 11 1 [Ss,(iv 0),(iv 0),(iv 0),(iv 0),(iv 0),(iv 0),(iv 0),(iv 0),(iv 0),Ss] [(0,(11,(.tmp 76)))]),Oo 78 (.app 36 11 104 (.tmp 75) (.tmp 77)),Fa 79 0 8,Sc 79 78]) (.tmp 11) 202 [Fa 74 0 8,Ld 75 74,Mv 76 11,Mb 77 false,Mb 78 false,Mb 79 false,⟨none,none,(.mv (.const (.bool false)))⟩] 76) (Sr [Mv 81 13,Oo 82 (.bin .eql (.tmp 81) (.const (.string ⟨#[90,111,110,101]⟩))),Mv 80 82] (Cd 80 (Sr [Cl 83 203 [(.tmp 11)],Oo 84 (.build [Ss,(.sl 0 0 true [])] [(0,(1,(.tmp 83)))]),Oo 16 (.new 53 2 [Ss,(.sl 0 0 true [])]),⟨none,none,(.store 2 (.tmp 16) (.tmp 84))⟩] (Sr [Cl 85 201 [(.tmp 11)],Oo 17 (.new 63 10 [(iv 0),Ss,(iv 0),Ss,(.v (.bool false)),(iv 0),(iv 0),(iv 0),(iv 0),(iv 0)]),⟨none,none,(.store 10 (.tmp 17) (.tmp 85))⟩] (Sr [Fa 86 1 16,Ld 87 86,Oo 88 (.load true 10 (.tmp 17)),Oo 89 (.lit 63 10 1 [(iv 0),Ss,(iv 0),Ss,(.v (.bool false)),(iv 0),(iv 0),(iv 0),(iv 0),(iv 0)] [(0,(10,(.tmp 88)))]),Oo 90 (.app 63 10 96 (.tmp 87) (.tmp 89)),Fa 91 1 16,Sc 91 90] (Sr [Fa 92 1 8,Ld 93 92,Oo 94 (.load true 2 (.tmp 16)),Oo 95 (.lit 53 2 1 [Ss,(.sl 0 0 true [])] [(0,(2,(.tmp 94)))]),Oo 96 (.app 53 2 40 (.tmp 93) (.tmp 95)),Fa 97 1 8,Sc 97 96] (.reg [Fa 98 4 17,Ld 99 98,Oo 100 (.un .not (.tmp 99)),Mv 9 100]))))) (Sr [Mv 102 13,Oo 103 (.bin .eql (.tmp 102) (.const (.string ⟨#[76,105,110,107]⟩))),Mv 101 103] (Cd 101 (Sr [Oo 18 (.new 129 2 [Ss,Ss])] (Sr [Cl 104 203 [(.tmp 11)],Fa 105 0 18,Sc 105 104] (Sr [Cl 106 203 [(.tmp 11)],Fa 107 1 18,Sc 107 106] (.reg [Fa 108 2 8,Ld 109 108,Oo 110 (.load true 2 (.tmp 18)),Oo 111 (.lit 129 2 1 [Ss,Ss] [(0,(2,(.tmp 110)))]),Oo 112 (.app 129 2 32 (.tmp 109) (.tmp 111)),Fa 113 2 8,Sc 113 112])))) (.reg [Fa 46 1 11,⟨none,none,(.store 1 (.tmp 46) (.const (.bool true)))⟩])))))))))) (Sr [Fa 114 1 11,Ld 115 114,Mv 116 115,Of 117 116 (.fa 0 (.tmp 11)),Of 118 116 (.load false 1 (.tmp 117)),Of 119 116 (.len false (.tmp 118)),Of 120 116 (.bin .gtr (.tmp 119) (Ci 0)),Oo 121 (.pick (.tmp 116) (.const (.bool true)) (.tmp 120)),Mv 122 121,Of 123 122 (mt 5),Of 124 122 (mt 10),Of 125 122 (.ia 3 (.tmp 123) (.tmp 124)),Of 126 122 (.fa 1 (.tmp 125)),Of 127 122 (.load false 1 (.tmp 126)),Of 128 122 (mt 12),Of 129 122 (.eqb true (.tmp 127) (.tmp 128)),Oo 130 (.pick (.tmp 122) (.const (.bool true)) (.tmp 129))] (Cd 130 (.seq (.drwU [[],[0],[0,1],[0],[0],[0],[1,2,3,4,5],[],[]] [Oo 131 (.build [(.sl 0 0 true []),(.sl 0 0 true []),(.sl 0 0 true [])] []),Mv 132 5,Mv 133 10,Oo 134 (.ia 3 (.tmp 132) (.tmp 133)),Fa 135 0 134,Ld 136 135,⟨none,none,(.store 3 (.tmp 2) (.tmp 131))⟩,Mv 3 136,Mc 4 1]) .ret) .skip)))))))) (.reg [Mv 34 10,Bc 35 .add 34 1,Mv 10 35])))))) (.seq (Sr [Mv 137 9] (Cd 137 (Sr [Oo 138 (.build [(.sl 0 0 true []),(.sl 0 0 true []),(.sl 0 0 true [])] []),⟨none,none,(.store 3 (.tmp 2) (.tmp 138))⟩,Mc 3 0,Mc 4 1] .ret) .skip)) (Sr [Oo 139 (.load true 3 (.tmp 8)),Cl 140 79 [(.tmp 139)],Mv 7 140] (.seq (Sr [Mv 141 7,Bc 142 .neq 141 0] (Cd 142 (Sr [Oo 143 (.build [(.sl 0 0 true []),(.sl 0 0 true []),(.sl 0 0 true [])] []),Mv 144 7,⟨none,none,(.store 3 (.tmp 2) (.tmp 143))⟩,Mc 3 0,Mv 4 144] .ret) .skip)) (Sr [Oo 145 (.load true 3 (.tmp 8)),Mv 146 7,⟨none,none,(.store 3 (.tmp 2) (.tmp 145))⟩,Mc 3 0,Mv 4 146] .ret))))))))))
theorem k130:ZaD Tryz.prog 130=some ⟨c130,[(.cell 2 true 3),(.tmp 3),(.tmp 4)],147⟩:=by kernel_rfl
theorem trule_e {t t1:TS}{r:Rul}{id:Nat}{h:AH}(ho:okTS t) (he:Zju t=(r,t1)) (h1:h[id]?=some (takE t)):ACalls Tryz.prog 202 [.ptr id 0 0] h fun x h'=>x=.ret (.agg (rulC r))∧h'=h.set id (takE t1):=by
 have:=trule_a ho h1
 rw [he] at this
 exact this
theorem tera_e {t t1:TS}{r:Era}{id:Nat}{h:AH}(ho:okTS t) (he:tEra t=(r,t1)) (h1:h[id]?=some (takE t)):ACalls Tryz.prog 201 [.ptr id 0 0] h fun x h'=>x=.ret (.agg (eraC r))∧h'=h.set id (takE t1):=by
 have:=tera_a ho h1
 rw [he] at this
 exact this
theorem ZbB {n e:AV}:Wk (.tup [.agg [.sl 0 0 true [],.sl 0 0 true [],.sl 0 0 true []],n,e]) (.tup [.agg (srcC srcZ),n,e]) :=
 Wk.tup (wkw (Wk.agg (wkw Wk.nilF (wkw Wk.nilF (wkw Wk.nilF wk0)))) (wk1 rfl (wk1 rfl wk0)))
theorem okSrc_Z:Zdk (curS srcZ none):=by rw [ZeD];exact ⟨fun _ h=>(by cases h),fun _ h=>(by cases h),fun _ h=>(by cases h)⟩
theorem lt26 {N:Nat}:decide (N+2<N+6)=true:=by simp
attribute [local simp] lt26
theorem lt36 {N:Nat}:decide (N+3<N+6)=true:=by simp
attribute [local simp] lt36
theorem lt46 {N:Nat}:decide (N+4<N+6)=true:=by simp
attribute [local simp] lt46
theorem lt56 {N:Nat}:decide (N+5<N+6)=true:=by simp
attribute [local simp] lt56
theorem rparse_a {s:ByteArray}{h:AH}:Ac 130 [sv s] h (.tup [.agg (srcC (ZbA s).1),iv (ZbA s).2.1,iv (ZbA s).2.2]):=by
 obtain ⟨L,hL⟩ : ∃ L,L=(ZbQ s).1:=⟨_,rfl⟩
 have hf24:=Zkw (s:=s)
 have hL200:=Zpx (s:=s)
 rw [←hL] at hf24 hL200
 have hV0:=ZpZ s
 rw [←hL] at hV0
 refine tW' k130 fun N hn hlt hlA hbd=>?_
 simp only [tb'] at hbd ⊢
 refine wr'<|E' (Za6 (hl0 hn) ha0) pt<|mv' lki pt<|mv' lki pt<|sn'<|wr'<|mv' lk pt<|Zad mp (ZnW) pt<|?_
 rw [←hL]
 refine mv' lk pt<|V' (Za3 lk gt) pt<|V' (Za3 lk gt) pt<|V' (Za3 lk gt) pt<|mv' lk pt<|mv' lk pt<|mv' lk pt<|sn'<|Zam<|wr'<|mv' lk pt<|V' (Za1 lk lki) pt<|?_
 refine sn' ?_
 refine cd' lk (fun hc1=>?_) (fun hc1=>?_)
 ·have hV:ZbA s=(srcZ,(ZbQ s).2.1,(ZbQ s).2.2):=by rw [hV0];exact if_pos hc1
  refine wr'<|V' (Zax Zia) pt<|mv' lk pt<|mv' lk pt<|E' (Zal lk (cvl lk rfl) (hga hn rfl) rfl (nb' rfl) rfl ZaR (hs0 hn)) ptn<|mv' lk pt<|mv' lk pt<|sn'<|Zaa<|Zai<|Zaf (rsn (rm1 (rr_c gt (hga hn rfl) (ld1 ZaQ rfl)) (rm1 (rr_t gt) (rm1 (rr_t gt) rm0))))<|rtW'<|?_
  rw [hV];exact ZbB
 have hV:ZbA s=outP L:=by rw [hV0];exact if_neg hc1
 clear hV0
 refine Zae<|Zah<|wr'<|E' (Za6 (hl1 hn) ha1) pt<|Zar<|?_
 refine Za8 (ALe.trans (ALe.own0Cell (st':=11) (ty:=36) (hga hn rfl) gt0 (hl2 hn) pt0 (Eq.trans (congrArg (fun z=>List.set z _ _) ha2) (hs1 hn))) (ALe.trans (ALe.own0Cell (st':=2) (ty:=53) (hga hn rfl) gt1 (hl3 hn) pt1 (Eq.trans (congrArg (fun z=>List.set z _ _) ha3) (hs1 hn))) (ALe.own0Cell (st':=2) (ty:=129) (hga hn rfl) gt2 (hl4 hn) pt2 (Eq.trans (congrArg (fun z=>List.set z _ _) ha4) (hs1 hn))))) ?_
 refine wr'<|mv' lkb pt9<|Zar<|Za8 ((ALe.newEnt (ty:=63) (st:=10) ha5))<|Zam<|wr'<|mv' lki pt10<|sn'<|Zao<|?_
 refine w_lp (ι:=Nat×Src×Option Zon×Nat×Nat×Nat×Nat×Nat) (fun (x_:Nat×Src×Option Zon×Nat×Nat×Nat×Nat×Nat)=>match x_ with | ⟨k,sr,o,m,v1,v2,v3,v4⟩=>[(9,bv o.isSome),(10,iv (k:Int)),(3,.any),(4,.any)]++rn' 11 8++rn' 30 107) (fun (x_:Nat×Src×Option Zon×Nat×Nat×Nat×Nat×Nat)=>match x_ with | ⟨k,sr,o,m,v1,v2,v3,v4⟩=>[(1,.mk 0 26 3 [.own (N+2) v1 sr.1.length,.own (N+3) v2 m,.own (N+4) v3 sr.2.2.length]),(2,.mk v1 36 11 (rows rulC sr.1)),(3,.mk v2 53 2 (rows zonC sr.2.1++zC N v4 o)),(4,.mk v3 129 2 (rows lnkC sr.2.2)),(5,.mk v4 63 10 (rows eraC (eC o)))]) (fun (x_:Nat×Src×Option Zon×Nat×Nat×Nat×Nat×Nat)=>match x_ with | ⟨k,sr,o,m,v1,v2,v3,v4⟩=>k≤L.length∧m=sr.2.1.length+o.toList.length∧sr.1.length≤k∧m≤k∧sr.2.2.length≤k∧(eC o).length≤k∧Zdk (curS sr o)∧runR (srcZ,false) L=runR (curS sr o,o.isSome) (L.drop k)) (fun (x_:Nat×Src×Option Zon×Nat×Nat×Nat×Nat×Nat)=>match x_ with | ⟨k,sr,o,m,v1,v2,v3,v4⟩=>L.length-k) (⟨0,srcZ,none,0,0,0,0,0⟩) (by exact ⟨Nat.zero_le _,rfl,Nat.le_refl _,Nat.le_refl _,Nat.le_refl _,Nat.le_refl _,okSrc_Z,rfl⟩) ?_
 rintro ⟨k,sr,o,m,v1,v2,v3,v4⟩ hi1
 try simp only [sm',Nat.reduceAdd]
 obtain ⟨hk1,hm,hk2,hk3,hk4,hk5,hok,hrun⟩:=hi1
 refine Zam<|wr'<|mv' lk pt<|mv' lk pt<|V' (ZaP lk) pt<|V' (Zba lk lk) pt<|sn'<|?_
 refine cd' lk (fun hc2=>?_) (fun hc2=>?_)
 ·have hk:k<L.length:=by omega
  have hfs:=hf24 _ (List.getElem_mem hk)
  have hokt:okTS (L[k].2.2,false):=hfs
  rw [runR_at hk] at hrun
  have hPT:=pt_body (p:=(curS sr o,o.isSome)) hok (L[k].2.2,false) hokt
  refine Zae<|Zah<|Zam<|Zao<|wr'<|mv' lk pt<|mv' lk pt<|?_
  refine V' (ZaY lk lk Zbd (nb' rfl) ro (by omega) ro rfl) pt ?_
  refine V' (Zbz lk38 dp2) pt39<|V' (ZaB lk39 gt0) pt40<|V' (Zax (Zh9 (cvl lk40 rfl) rfl)) pt41<|E' (Za6 (hl6 hn) ha6) pt11<|E' (Zal lk11 (cvl lk41 rfl) (hga hn rfl) rfl (nb' rfl) rfl Zjb (hs6 hn)) ptn<|Zar<|Za8 ((ALe.same (WkL.refl _) rfl))<|wr'<|?_
  by_cases hs36:o=none
  ·subst hs36
   simp only [Option.isSome_none] at hrun hPT
   have hm':m=sr.2.1.length:=by simpa using hm
   subst hm'
   obtain ⟨w,t1,e1⟩ : ∃ a b,ZaN (L[k].2.2,false)=(a,b):=⟨_,_,rfl⟩
   obtain ⟨z1,o1⟩:=Za5 hokt e1
   refine mv' lk pt<|mv' lk pt<|sn'<|wr'<|mv' lks pt<|sn'<|Zam<|wr'<|mv' lk pt<|?_
   refine V' ((by first | exact v_not lk | exact Zaw lk)) pt ?_
   refine sn' ?_
   refine ZdE lk (by rfl) ?_
   refine Zas<|ZaL mp (ZcZ e1 (hga hn rfl)) (hs6 hn) pt<|mv' lk pt<|sn'<|Zam<|Zao<|wr'<|mv' lk pt<|mv' lk pt<|sn'<|?_
   refine Zd4 lk (by rfl) ?_
   refine wr'<|mv' lk pt<|V' (Zcj lk lks) pt<|mv' lk pt<|sn'<|?_
   refine cd' lk (fun hc5=>?_) (fun hc5=>?_)
   ·have hwR:w=ruleA:=hc5
    obtain ⟨r,u,eR⟩ : ∃ a b,Zju t1=(a,b):=⟨_,_,rfl⟩
    have hB:Zek (curS sr none,false) (L[k].2.2,false)=((curS (sr.1++[r],sr.2.1,sr.2.2) none,false),u):=by unfold Zek;rw [if_neg (by simp)];simp only [ZbU,e1,if_pos hwR,ret2,eR];rfl
    have hq:True:=trivial
    refine w_orl<|Zpe [N+1]<|D' (Zac lk) pt<|?_
    refine d_ldP lk (hga hn rfl) (ld0 gt) (by simp) pt ?_
    refine Zb6<|Zqr<|?_
    refine k_calls mp (trule_e o1 eR (hga hn rfl)) (hs6 hn) (by intro i hi;simp only [cond_true,List.mem_cons,List.not_mem_nil,or_false] at hi;subst hi;first | rfl | exact (hga hn rfl).trans (hga hn rfl).symm) pt ?_
    refine Zqq rfl rfl (Zc5 (Zh7 (cvl lk rfl) rfl) (hl7 hn) ha7) (by intro i hi;simp only [cond_true,List.mem_cons,List.not_mem_nil,or_false] at hi;subst hi;first | rfl | exact (hga hn rfl).trans (hga hn rfl).symm) pt ?_
    refine Zqq rfl rfl (ZcD (Zct lk (hga hn rfl) rfl ZoG (nb' rfl)) lk (hga hn rfl) (Zgk _) (by omega) rfl (hs2 hn)) (by intro i hi;simp at hi) pt ?_
    refine k_val rfl (Zac lk) pt ?_
    refine Zqq rfl rfl (Zal lk (cvl lk rfl) (hga hn rfl) rfl (nb' rfl) rfl Zjc (hs1 hn)) (by intro i hi;simp at hi) ptn ?_
    refine k_nil<|Zaz<|Zah<|wr'<|V' (Zac lk) pt<|V' (Zab lk (hga hn rfl) gt1) pt<|mv' lk pt<|?_
    refine ZaE (t:=116) gt pt pt (fun hg116=>?_) (fun hg116=>?_)
    ·have hN:=Za4 hB (.inl hg116)
     refine s_no gt pt<|s_no gt pt<|s_no gt pt<|s_no gt pt<|V' (Zak lk lkb) pt<|mv' lk pt<|s_no gt pt<|s_no gt pt<|s_no gt pt<|s_no gt pt<|s_no gt pt<|s_no gt pt<|s_no gt pt<|V' (Zak lk lkb) pt<|?_
     refine sn'<|ZaH lk<|Zam<|ZbP<|u_fr rfl (Zax ZaC) pt<|u_fr rfl (v_mv lk) pt<|u_fr rfl (v_mv lk) pt<|?_
     refine u_fr rfl (ZaY lk lk Zbd (nb' rfl) ro (by omega) ro rfl) pt ?_
     refine u_fr rfl (Zbz lk dp0) pt<|u_fr rfl (ZaB lk gt) pt<|?_
     refine u_st (Zal lk (cvl lk rfl) (hga hn rfl) rfl (nb' rfl) rfl ZaR (hs0 hn)) lk nh ptn ?_
     refine u_fr rfl (v_mv lk) pt<|u_fr rfl (v_mv lki) pt<|ZcI<|Zah<|Zaa<|Zap<|Zai<|Zai<|Zap<|Zai<|Zaf (rsn (rm1 (rr_c gt (hga hn rfl) (ld1 ZaQ rfl)) (rm1 (rr_t gt) (rm1 (rr_t gt) rm0))))<|rtW'<|?_
     have hP:ZbA s=(srcZ,L[k].1,1):=by rw [hV,outP,hrun,hN]
     rw [hP];exact ZbB
    refine s_do gt<|V' (Zac lk) pt<|s_do gt<|V' (Zab lk (hga hn rfl) gt0) pt<|s_do gt<|V' (ZaP lk) pt<|s_do gt<|V' (ZbV lk lki) pt<|V' (Zag lk lk) pt<|mv' lk pt<|?_
    refine sp' (t:=122) gt pt pt (fun hg122=>?_) (fun hg122=>?_)
    ·have hN:=Za4 hB (.inr (.inl (by intro e;rw [e] at hg122;exact absurd hg122 (by decide))))
     refine s_no gt pt<|s_no gt pt<|s_no gt pt<|s_no gt pt<|s_no gt pt<|s_no gt pt<|s_no gt pt<|V' (Zak lk lkb) pt<|sn'<|ZaH lk<|Zam<|ZbP<|u_fr rfl (Zax ZaC) pt<|?_
     refine u_fr rfl (v_mv lk) pt<|u_fr rfl (v_mv lk) pt<|?_
     refine u_fr rfl (ZaY lk lk Zbd (nb' rfl) ro (by omega) ro rfl) pt ?_
     refine u_fr rfl (Zbz lk dp0) pt<|u_fr rfl (ZaB lk gt) pt<|?_
     refine u_st (Zal lk (cvl lk rfl) (hga hn rfl) rfl (nb' rfl) rfl ZaR (hs0 hn)) lk nh ptn ?_
     refine u_fr rfl (v_mv lk) pt<|u_fr rfl (v_mv lki) pt<|ZcI<|Zah<|Zaa<|Zap<|Zai<|Zai<|Zap<|Zai<|Zaf (rsn (rm1 (rr_c gt (hga hn rfl) (ld1 ZaQ rfl)) (rm1 (rr_t gt) (rm1 (rr_t gt) rm0))))<|rtW'<|?_
     have hP:ZbA s=(srcZ,L[k].1,1):=by rw [hV,outP,hrun,hN]
     rw [hP];exact ZbB
    refine s_do gt<|mv' lk pt<|s_do gt<|mv' lk pt<|s_do gt<|?_
    refine V' (ZaY lk lk Zbd (nb' rfl) ro (by omega) ro rfl) pt ?_
    refine s_do gt<|V' (Zbz lk dp1) pt<|s_do gt<|V' (ZaB lk gt) pt<|s_do gt<|mv' lk pt<|s_do gt<|V' (Zdt lk lk) pt<|V' (Zag lk lk) pt<|sn'<|?_
    refine cd' lk (fun hc8=>?_) (fun hc8=>?_)
    ·have hN:=Za4 hB (.inr (.inr (by simpa using hc8)))
     refine Zam<|ZbP<|u_fr rfl (Zax ZaC) pt<|u_fr rfl (v_mv lk) pt<|u_fr rfl (v_mv lk) pt<|?_
     refine u_fr rfl (ZaY lk lk Zbd (nb' rfl) ro (by omega) ro rfl) pt ?_
     refine u_fr rfl (Zbz lk dp0) pt<|u_fr rfl (ZaB lk gt) pt<|?_
     refine u_st (Zal lk (cvl lk rfl) (hga hn rfl) rfl (nb' rfl) rfl ZaR (hs0 hn)) lk nh ptn ?_
     refine u_fr rfl (v_mv lk) pt<|u_fr rfl (v_mv lki) pt<|ZcI<|Zah<|Zaa<|Zap<|Zai<|Zai<|Zap<|Zai<|Zaf (rsn (rm1 (rr_c gt (hga hn rfl) (ld1 ZaQ rfl)) (rm1 (rr_t gt) (rm1 (rr_t gt) rm0))))<|rtW'<|?_
     have hP:ZbA s=(srcZ,L[k].1,1):=by rw [hV,outP,hrun,hN]
     rw [hP];exact ZbB
    have hu1:u.2=false:=by simpa using hg116
    have hu2:u.1=[]:=List.eq_nil_of_length_eq_zero (by omega)
    have hS:=Zc8 hB hu1 hu2 (by simpa using hc8)
    rw [hS] at hrun
    have hokq:=hPT.1
    rw [hB] at hokq
    refine Zae<|Zaz<|Zah<|Zas<|mv' lk pt<|?_
    refine V' (Zay lk lki (by omega) (by omega)) pt ?_
    refine mv' lk pt<|Zar<|ZaA<|?_
    refine lU' (⟨k+1,(sr.1++[r],sr.2.1,sr.2.2),none,sr.2.1.length,v1+1,v2,v3,v4⟩) (by (try dsimp only);exact ⟨by omega,by simp,by simp;omega,by omega,by omega,by simp [eC],hokq,hrun⟩) (by (try dsimp only);(try simp only [sm',Nat.reduceAdd]);exact bkE' 6 hn hlt (by repeat (first | exact wk0 | refine wka ?_ | refine wk1 rfl ?_ | refine wk1 (by first | rfl | exact ivx (by omega) | (simp;done) | exact bvx (by have h9:=hs68;unfold Zcp at h9;rw [h9];rfl) | exact bvx (by have h9:=hs106;unfold Zcp at h9;rw [h9];rfl) | exact bvx (by have h9:=hs68;unfold Zcp at h9;rw [Bool.not_eq_true] at h9;rw [h9];rfl) | exact bvx (by have h9:=hs106;unfold Zcp at h9;rw [Bool.not_eq_true] at h9;rw [h9];rfl)) ?_)) (by simp only [zonC,ZaS,Zbx,zC,eC,List.append_nil,List.length_append,List.length_singleton];rfl) (hT:=by first | rfl | (simp only [AV.lt,AV.ltL,Ent.lt,List.all_cons,List.all_nil,Bool.and_true,Bool.and_self,decide_true,Zbi,Zbu,Zbk,Zbp,ZbK,Zfo,Zgb,lt26,lt36,lt46,lt56];done) | exact lt') (hE:=by first | rfl | (simp only [AV.lt,AV.ltL,Ent.lt,List.all_cons,List.all_nil,Bool.and_true,Bool.and_self,decide_true,Zbi,Zbu,Zbk,Zbp,ZbK,Zfo,Zgb,lt26,lt36,lt46,lt56];done) | exact lt'))
   have hwR:¬w=ruleA:=hc5
   refine wr'<|mv' lk pt<|V' (Zcj lk lks) pt<|mv' lk pt<|sn'<|?_
   refine cd' lk (fun hc6=>?_) (fun hc6=>?_)
   ·have hwZ:w=zoneA:=hc6
    obtain ⟨nm,t2,e2⟩ : ∃ a b,Zew t1=(a,b):=⟨_,_,rfl⟩
    have o2:=ZfL o1 e2
    obtain ⟨x,u,eE⟩ : ∃ a b,tEra t2=(a,b):=⟨_,_,rfl⟩
    have hB:Zek (curS sr none,false) (L[k].2.2,false)=(Zcn (sr.1,sr.2.1++[(nm,[])],sr.2.2) x,u):=by unfold Zek;rw [if_neg (by simp)];simp only [ZbU,e1,if_neg hwR,if_pos hwZ,ret2,e2,eE,ZeD]
    have hw:Zcn (sr.1,sr.2.1++[(nm,[])],sr.2.2) x=((sr.1,sr.2.1++[(nm,[x])],sr.2.2),!Zcp x):=by unfold Zcn;rw [Zfs];rfl
    refine wr'<|ZaL mp (Zjr o1 e2 (hga hn rfl)) (hs6 hn) pt<|V' (Zax (Zh6 (cvl lk rfl) rfl)) pt<|E' (Za6 (hl7 hn) ha7) pt<|E' (Zal lk (cvl lk rfl) (hga hn rfl) rfl (nb' rfl) rfl Zjb (hs7 hn)) ptn<|sn'<|wr'<|ZaL mp (tera_e o2 eE (hga hn rfl)) (hs6 hn) pt<|E' (Za6 (hl8 hn) ha8) pt<|E' (Zal lk (cvl lk rfl) (hga hn rfl) rfl (nb' rfl) rfl Zh4 (hs8 hn)) ptn<|Zar<|?_
    refine Za8 ((ALe.own0CellRe (ty2:=63) (st2:=10) (hga hn rfl) (hga hn rfl) (by omega) gt1 pt1 (Eq.trans (congrArg (fun z=>List.set z _ _) (hs5 hn)) (hs7 hn)))) ?_
    refine wr'<|V' (Zac lk) pt<|V' (Zab lk (hga hn rfl) gt1) pt<|V' (Zaq lk (hga hn rfl) Zh3 rfl) pt<|E' (Zc5 (Zh5 (cvl lk rfl) rfl) (hl9 hn) ha9) pt<|?_
    refine E' (ZcD (Zct lk (hga hn rfl) rfl Zi9 (nb' rfl)) lk (hga hn rfl) rfl (by omega) rfl (hs5 hn)) pt ?_
    refine V' (Zac lk) pt<|E' (Zal lk (cvl lk rfl) (hga hn rfl) rfl (nb' rfl) rfl Ze3 (hs7 hn)) ptn<|sn'<|wr'<|V' (Zac lk) pt<|V' (Zab lk (hga hn rfl) gt1) pt<|V' (Zaq lk (hga hn rfl) Zja rfl) pt<|E' (Zc5 (Zg9 (cvl lk rfl) rfl) (Zri hn) Zrj) pt<|?_
    refine E' (ZcD (Zct lk (hga hn rfl) rfl Zll (nb' rfl)) lk (hga hn rfl) Zki (by omega) rfl (hs3 hn)) pt ?_
    refine V' (Zac lk) pt<|E' (Zal lk (cvl lk rfl) (hga hn rfl) rfl (nb' rfl) rfl Ze3 (hs1 hn)) ptn<|sn'<|Zas<|?_
    by_cases hs106:Zcp x=true
    ·have hq:Zcn (sr.1,sr.2.1++[(nm,[])],sr.2.2) x=(curS (sr.1,sr.2.1++[(nm,[x])],sr.2.2) none,false):=by rw [hw,hs106,ZeD];rfl
     refine V' (Zac lk) pt<|V' (Zab lk (hga hn rfl) gt4) pt<|V' (Zaw lk) pt<|mv' lk pt<|Zar<|Zaz<|Zah<|wr'<|V' (Zac lk) pt<|V' (Zab lk (hga hn rfl) gt1) pt<|mv' lk pt<|?_
     refine ZaE (t:=116) gt pt pt (fun hg116=>?_) (fun hg116=>?_)
     ·have hN:=Za4 hB (.inl hg116)
      refine s_no gt pt<|s_no gt pt<|s_no gt pt<|s_no gt pt<|V' (Zak lk lkb) pt<|mv' lk pt<|s_no gt pt<|s_no gt pt<|s_no gt pt<|s_no gt pt<|s_no gt pt<|s_no gt pt<|s_no gt pt<|V' (Zak lk lkb) pt<|?_
      refine sn'<|ZaH lk<|Zam<|ZbP<|u_fr rfl (Zax ZaC) pt<|u_fr rfl (v_mv lk) pt<|u_fr rfl (v_mv lk) pt<|?_
      refine u_fr rfl (ZaY lk lk Zbd (nb' rfl) ro (by omega) ro rfl) pt ?_
      refine u_fr rfl (Zbz lk dp0) pt<|u_fr rfl (ZaB lk gt) pt<|?_
      refine u_st (Zal lk (cvl lk rfl) (hga hn rfl) rfl (nb' rfl) rfl ZaR (hs0 hn)) lk nh ptn ?_
      refine u_fr rfl (v_mv lk) pt<|u_fr rfl (v_mv lki) pt<|ZcI<|Zah<|Zaa<|Zap<|Zai<|Zai<|Zap<|Zai<|Zaf (rsn (rm1 (rr_c gt (hga hn rfl) (ld1 ZaQ rfl)) (rm1 (rr_t gt) (rm1 (rr_t gt) rm0))))<|rtW'<|?_
      have hP:ZbA s=(srcZ,L[k].1,1):=by rw [hV,outP,hrun,hN]
      rw [hP];exact ZbB
     refine s_do gt<|V' (Zac lk) pt<|s_do gt<|V' (Zab lk (hga hn rfl) gt0) pt<|s_do gt<|V' (ZaP lk) pt<|s_do gt<|V' (ZbV lk lki) pt<|V' (Zag lk lk) pt<|mv' lk pt<|?_
     refine sp' (t:=122) gt pt pt (fun hg122=>?_) (fun hg122=>?_)
     ·have hN:=Za4 hB (.inr (.inl (by intro e;rw [e] at hg122;exact absurd hg122 (by decide))))
      refine s_no gt pt<|s_no gt pt<|s_no gt pt<|s_no gt pt<|s_no gt pt<|s_no gt pt<|s_no gt pt<|V' (Zak lk lkb) pt<|sn'<|ZaH lk<|Zam<|ZbP<|u_fr rfl (Zax ZaC) pt<|?_
      refine u_fr rfl (v_mv lk) pt<|u_fr rfl (v_mv lk) pt<|?_
      refine u_fr rfl (ZaY lk lk Zbd (nb' rfl) ro (by omega) ro rfl) pt ?_
      refine u_fr rfl (Zbz lk dp0) pt<|u_fr rfl (ZaB lk gt) pt<|?_
      refine u_st (Zal lk (cvl lk rfl) (hga hn rfl) rfl (nb' rfl) rfl ZaR (hs0 hn)) lk nh ptn ?_
      refine u_fr rfl (v_mv lk) pt<|u_fr rfl (v_mv lki) pt<|ZcI<|Zah<|Zaa<|Zap<|Zai<|Zai<|Zap<|Zai<|Zaf (rsn (rm1 (rr_c gt (hga hn rfl) (ld1 ZaQ rfl)) (rm1 (rr_t gt) (rm1 (rr_t gt) rm0))))<|rtW'<|?_
      have hP:ZbA s=(srcZ,L[k].1,1):=by rw [hV,outP,hrun,hN]
      rw [hP];exact ZbB
     refine s_do gt<|mv' lk pt<|s_do gt<|mv' lk pt<|s_do gt<|?_
     refine V' (ZaY lk lk Zbd (nb' rfl) ro (by omega) ro rfl) pt ?_
     refine s_do gt<|V' (Zbz lk dp1) pt<|s_do gt<|V' (ZaB lk gt) pt<|s_do gt<|mv' lk pt<|s_do gt<|V' (Zdt lk lk) pt<|V' (Zag lk lk) pt<|sn'<|?_
     refine cd' lk (fun hc8=>?_) (fun hc8=>?_)
     ·have hN:=Za4 hB (.inr (.inr (by simpa using hc8)))
      refine Zam<|ZbP<|u_fr rfl (Zax ZaC) pt<|u_fr rfl (v_mv lk) pt<|u_fr rfl (v_mv lk) pt<|?_
      refine u_fr rfl (ZaY lk lk Zbd (nb' rfl) ro (by omega) ro rfl) pt ?_
      refine u_fr rfl (Zbz lk dp0) pt<|u_fr rfl (ZaB lk gt) pt<|?_
      refine u_st (Zal lk (cvl lk rfl) (hga hn rfl) rfl (nb' rfl) rfl ZaR (hs0 hn)) lk nh ptn ?_
      refine u_fr rfl (v_mv lk) pt<|u_fr rfl (v_mv lki) pt<|ZcI<|Zah<|Zaa<|Zap<|Zai<|Zai<|Zap<|Zai<|Zaf (rsn (rm1 (rr_c gt (hga hn rfl) (ld1 ZaQ rfl)) (rm1 (rr_t gt) (rm1 (rr_t gt) rm0))))<|rtW'<|?_
      have hP:ZbA s=(srcZ,L[k].1,1):=by rw [hV,outP,hrun,hN]
      rw [hP];exact ZbB
     have hu1:u.2=false:=by simpa using hg116
     have hu2:u.1=[]:=List.eq_nil_of_length_eq_zero (by omega)
     have hS:=Zc8 hB hu1 hu2 (by simpa using hc8)
     rw [hS] at hrun
     have hokq:=hPT.1
     rw [hB] at hokq
     refine Zae<|Zaz<|?_
     refine Za8 ((ALe.iceCellNew (ds:=rows eraC [x]) (k:=sr.2.1.length*2+1) (ty2:=63) (st2:=10) (hga hn rfl) (hga hn rfl) (by omega) (zc_at2 rfl) rfl (Nat.le_refl _) zc_put2 (hs5 hn) (hs3 hn))) ?_
     refine Zas<|mv' lk pt<|?_
     refine V' (Zay lk lki (by omega) (by omega)) pt ?_
     refine mv' lk pt<|Zar<|ZaA<|?_
     refine lU' (⟨k+1,(sr.1,sr.2.1++[(nm,[x])],sr.2.2),none,sr.2.1.length+1,v1,v2+1,v3,v4+3⟩) (by (try dsimp only);rw [hq] at hrun hokq;exact ⟨by omega,by simp,by omega,by omega,by omega,by simp [eC],hokq,hrun⟩) (by (try dsimp only);(try simp only [sm',Nat.reduceAdd]);exact bkE' 6 hn hlt (by repeat (first | exact wk0 | refine wka ?_ | refine wk1 rfl ?_ | refine wk1 (by first | rfl | exact ivx (by omega) | (simp;done) | exact bvx (by have h9:=hs68;unfold Zcp at h9;rw [h9];rfl) | exact bvx (by have h9:=hs106;unfold Zcp at h9;rw [h9];rfl) | exact bvx (by have h9:=hs68;unfold Zcp at h9;rw [Bool.not_eq_true] at h9;rw [h9];rfl) | exact bvx (by have h9:=hs106;unfold Zcp at h9;rw [Bool.not_eq_true] at h9;rw [h9];rfl)) ?_)) (by simp only [zonC,ZaS,Zbx,zC,eC,List.append_nil,List.length_append,List.length_singleton];rfl) (hT:=by first | rfl | (simp only [AV.lt,AV.ltL,Ent.lt,List.all_cons,List.all_nil,Bool.and_true,Bool.and_self,decide_true,Zbi,Zbu,Zbk,Zbp,ZbK,Zfo,Zgb,lt26,lt36,lt46,lt56];done) | exact lt') (hE:=by first | rfl | (simp only [AV.lt,AV.ltL,Ent.lt,List.all_cons,List.all_nil,Bool.and_true,Bool.and_self,decide_true,Zbi,Zbu,Zbk,Zbp,ZbK,Zfo,Zgb,lt26,lt36,lt46,lt56];done) | exact lt'))
    have hq:Zcn (sr.1,sr.2.1++[(nm,[])],sr.2.2) x=(curS sr (some (nm,[x])),true):=by rw [hw,show Zcp x=false by simpa using hs106];rfl
    refine V' (Zac lk) pt<|V' (Zab lk (hga hn rfl) gt4) pt<|V' (Zaw lk) pt<|mv' lk pt<|Zar<|Zaz<|Zah<|wr'<|V' (Zac lk) pt<|V' (Zab lk (hga hn rfl) gt1) pt<|mv' lk pt<|?_
    refine ZaE (t:=116) gt pt pt (fun hg116=>?_) (fun hg116=>?_)
    ·have hN:=Za4 hB (.inl hg116)
     refine s_no gt pt<|s_no gt pt<|s_no gt pt<|s_no gt pt<|V' (Zak lk lkb) pt<|mv' lk pt<|s_no gt pt<|s_no gt pt<|s_no gt pt<|s_no gt pt<|s_no gt pt<|s_no gt pt<|s_no gt pt<|V' (Zak lk lkb) pt<|?_
     refine sn'<|ZaH lk<|Zam<|ZbP<|u_fr rfl (Zax ZaC) pt<|u_fr rfl (v_mv lk) pt<|u_fr rfl (v_mv lk) pt<|?_
     refine u_fr rfl (ZaY lk lk Zbd (nb' rfl) ro (by omega) ro rfl) pt ?_
     refine u_fr rfl (Zbz lk dp0) pt<|u_fr rfl (ZaB lk gt) pt<|?_
     refine u_st (Zal lk (cvl lk rfl) (hga hn rfl) rfl (nb' rfl) rfl ZaR (hs0 hn)) lk nh ptn ?_
     refine u_fr rfl (v_mv lk) pt<|u_fr rfl (v_mv lki) pt<|ZcI<|Zah<|Zaa<|Zap<|Zai<|Zai<|Zap<|Zai<|Zaf (rsn (rm1 (rr_c gt (hga hn rfl) (ld1 ZaQ rfl)) (rm1 (rr_t gt) (rm1 (rr_t gt) rm0))))<|rtW'<|?_
     have hP:ZbA s=(srcZ,L[k].1,1):=by rw [hV,outP,hrun,hN]
     rw [hP];exact ZbB
    refine s_do gt<|V' (Zac lk) pt<|s_do gt<|V' (Zab lk (hga hn rfl) gt0) pt<|s_do gt<|V' (ZaP lk) pt<|s_do gt<|V' (ZbV lk lki) pt<|V' (Zag lk lk) pt<|mv' lk pt<|?_
    refine sp' (t:=122) gt pt pt (fun hg122=>?_) (fun hg122=>?_)
    ·have hN:=Za4 hB (.inr (.inl (by intro e;rw [e] at hg122;exact absurd hg122 (by decide))))
     refine s_no gt pt<|s_no gt pt<|s_no gt pt<|s_no gt pt<|s_no gt pt<|s_no gt pt<|s_no gt pt<|V' (Zak lk lkb) pt<|sn'<|ZaH lk<|Zam<|ZbP<|u_fr rfl (Zax ZaC) pt<|?_
     refine u_fr rfl (v_mv lk) pt<|u_fr rfl (v_mv lk) pt<|?_
     refine u_fr rfl (ZaY lk lk Zbd (nb' rfl) ro (by omega) ro rfl) pt ?_
     refine u_fr rfl (Zbz lk dp0) pt<|u_fr rfl (ZaB lk gt) pt<|?_
     refine u_st (Zal lk (cvl lk rfl) (hga hn rfl) rfl (nb' rfl) rfl ZaR (hs0 hn)) lk nh ptn ?_
     refine u_fr rfl (v_mv lk) pt<|u_fr rfl (v_mv lki) pt<|ZcI<|Zah<|Zaa<|Zap<|Zai<|Zai<|Zap<|Zai<|Zaf (rsn (rm1 (rr_c gt (hga hn rfl) (ld1 ZaQ rfl)) (rm1 (rr_t gt) (rm1 (rr_t gt) rm0))))<|rtW'<|?_
     have hP:ZbA s=(srcZ,L[k].1,1):=by rw [hV,outP,hrun,hN]
     rw [hP];exact ZbB
    refine s_do gt<|mv' lk pt<|s_do gt<|mv' lk pt<|s_do gt<|?_
    refine V' (ZaY lk lk Zbd (nb' rfl) ro (by omega) ro rfl) pt ?_
    refine s_do gt<|V' (Zbz lk dp1) pt<|s_do gt<|V' (ZaB lk gt) pt<|s_do gt<|mv' lk pt<|s_do gt<|V' (Zdt lk lk) pt<|V' (Zag lk lk) pt<|sn'<|?_
    refine cd' lk (fun hc8=>?_) (fun hc8=>?_)
    ·have hN:=Za4 hB (.inr (.inr (by simpa using hc8)))
     refine Zam<|ZbP<|u_fr rfl (Zax ZaC) pt<|u_fr rfl (v_mv lk) pt<|u_fr rfl (v_mv lk) pt<|?_
     refine u_fr rfl (ZaY lk lk Zbd (nb' rfl) ro (by omega) ro rfl) pt ?_
     refine u_fr rfl (Zbz lk dp0) pt<|u_fr rfl (ZaB lk gt) pt<|?_
     refine u_st (Zal lk (cvl lk rfl) (hga hn rfl) rfl (nb' rfl) rfl ZaR (hs0 hn)) lk nh ptn ?_
     refine u_fr rfl (v_mv lk) pt<|u_fr rfl (v_mv lki) pt<|ZcI<|Zah<|Zaa<|Zap<|Zai<|Zai<|Zap<|Zai<|Zaf (rsn (rm1 (rr_c gt (hga hn rfl) (ld1 ZaQ rfl)) (rm1 (rr_t gt) (rm1 (rr_t gt) rm0))))<|rtW'<|?_
     have hP:ZbA s=(srcZ,L[k].1,1):=by rw [hV,outP,hrun,hN]
     rw [hP];exact ZbB
    have hu1:u.2=false:=by simpa using hg116
    have hu2:u.1=[]:=List.eq_nil_of_length_eq_zero (by omega)
    have hS:=Zc8 hB hu1 hu2 (by simpa using hc8)
    rw [hS] at hrun
    have hokq:=hPT.1
    rw [hB] at hokq
    refine Zae<|Zaz<|Zah<|Zas<|mv' lk pt<|?_
    refine V' (Zay lk lki (by omega) (by omega)) pt ?_
    refine mv' lk pt<|Zar<|ZaA<|?_
    refine lU' (⟨k+1,sr,some (nm,[x]),sr.2.1.length+1,v1,v2+1,v3,v4+2⟩) (by (try dsimp only);rw [hq] at hrun hokq;exact ⟨by omega,by simp,by omega,by omega,by omega,by simp [eC],hokq,hrun⟩) (by (try dsimp only);(try simp only [sm',Nat.reduceAdd]);exact bkE' 6 hn hlt (by repeat (first | exact wk0 | refine wka ?_ | refine wk1 rfl ?_ | refine wk1 (by first | rfl | exact ivx (by omega) | (simp;done) | exact bvx (by have h9:=hs68;unfold Zcp at h9;rw [h9];rfl) | exact bvx (by have h9:=hs106;unfold Zcp at h9;rw [h9];rfl) | exact bvx (by have h9:=hs68;unfold Zcp at h9;rw [Bool.not_eq_true] at h9;rw [h9];rfl) | exact bvx (by have h9:=hs106;unfold Zcp at h9;rw [Bool.not_eq_true] at h9;rw [h9];rfl)) ?_)) (by simp only [zonC,ZaS,Zbx,zC,eC,List.append_nil,List.length_append,List.length_singleton];rfl) (hT:=by first | rfl | (simp only [AV.lt,AV.ltL,Ent.lt,List.all_cons,List.all_nil,Bool.and_true,Bool.and_self,decide_true,Zbi,Zbu,Zbk,Zbp,ZbK,Zfo,Zgb,lt26,lt36,lt46,lt56];done) | exact lt') (hE:=by first | rfl | (simp only [AV.lt,AV.ltL,Ent.lt,List.all_cons,List.all_nil,Bool.and_true,Bool.and_self,decide_true,Zbi,Zbu,Zbk,Zbp,ZbK,Zfo,Zgb,lt26,lt36,lt46,lt56];done) | exact lt'))
   have hwZ:¬w=zoneA:=hc6
   refine wr'<|mv' lk pt<|V' (Zcj lk lks) pt<|mv' lk pt<|sn'<|?_
   refine cd' lk (fun hc7=>?_) (fun hc7=>?_)
   ·have hwL:w=linkA:=hc7
    obtain ⟨n1,t2,e2⟩ : ∃ a b,Zew t1=(a,b):=⟨_,_,rfl⟩
    have o2:=ZfL o1 e2
    obtain ⟨n2,u,e3⟩ : ∃ a b,Zew t2=(a,b):=⟨_,_,rfl⟩
    have hB:Zek (curS sr none,false) (L[k].2.2,false)=((curS (sr.1,sr.2.1,sr.2.2++[(n1,n2)]) none,false),u):=by unfold Zek;rw [if_neg (by simp)];simp only [ZbU,e1,if_neg hwR,if_neg hwZ,if_pos hwL,ret2,e2,e3];rfl
    refine wr'<|E' (Za6 (hl7 hn) ha7) pt<|sn'<|wr'<|ZaL mp (Zjr o1 e2 (hga hn rfl)) (hs6 hn) pt<|V' (Zac lk) pt<|E' (Zal lk (cvl lk rfl) (hga hn rfl) rfl (nb' rfl) rfl Zjc (hs7 hn)) ptn<|sn'<|wr'<|?_
    refine ZaL mp (Zjr o2 e3 (hga hn rfl)) (hs6 hn) pt<|V' (Zac lk) pt<|E' (Zal lk (cvl lk rfl) (hga hn rfl) rfl (nb' rfl) rfl Ze3 (hs7 hn)) ptn<|sn'<|Zas<|V' (Zac lk) pt<|V' (Zab lk (hga hn rfl) gt2) pt<|V' (Zaq lk (hga hn rfl) Zja rfl) pt<|E' (Zc5 (Zg8 (cvl lk rfl) rfl) (hl8 hn) ha8) pt<|?_
    refine E' (ZcD (Zct lk (hga hn rfl) rfl Zll (nb' rfl)) lk (hga hn rfl) (Zgq _) (by omega) rfl (hs4 hn)) pt ?_
    refine V' (Zac lk) pt<|E' (Zal lk (cvl lk rfl) (hga hn rfl) rfl (nb' rfl) rfl ZoH (hs1 hn)) ptn<|Zar<|Zaz<|Zah<|wr'<|V' (Zac lk) pt<|V' (Zab lk (hga hn rfl) gt1) pt<|mv' lk pt<|?_
    refine ZaE (t:=116) gt pt pt (fun hg116=>?_) (fun hg116=>?_)
    ·have hN:=Za4 hB (.inl hg116)
     refine s_no gt pt<|s_no gt pt<|s_no gt pt<|s_no gt pt<|V' (Zak lk lkb) pt<|mv' lk pt<|s_no gt pt<|s_no gt pt<|s_no gt pt<|s_no gt pt<|s_no gt pt<|s_no gt pt<|s_no gt pt<|V' (Zak lk lkb) pt<|?_
     refine sn'<|ZaH lk<|Zam<|ZbP<|u_fr rfl (Zax ZaC) pt<|u_fr rfl (v_mv lk) pt<|u_fr rfl (v_mv lk) pt<|?_
     refine u_fr rfl (ZaY lk lk Zbd (nb' rfl) ro (by omega) ro rfl) pt ?_
     refine u_fr rfl (Zbz lk dp0) pt<|u_fr rfl (ZaB lk gt) pt<|?_
     refine u_st (Zal lk (cvl lk rfl) (hga hn rfl) rfl (nb' rfl) rfl ZaR (hs0 hn)) lk nh ptn ?_
     refine u_fr rfl (v_mv lk) pt<|u_fr rfl (v_mv lki) pt<|ZcI<|Zah<|Zaa<|Zap<|Zai<|Zai<|Zap<|Zai<|Zaf (rsn (rm1 (rr_c gt (hga hn rfl) (ld1 ZaQ rfl)) (rm1 (rr_t gt) (rm1 (rr_t gt) rm0))))<|rtW'<|?_
     have hP:ZbA s=(srcZ,L[k].1,1):=by rw [hV,outP,hrun,hN]
     rw [hP];exact ZbB
    refine s_do gt<|V' (Zac lk) pt<|s_do gt<|V' (Zab lk (hga hn rfl) gt0) pt<|s_do gt<|V' (ZaP lk) pt<|s_do gt<|V' (ZbV lk lki) pt<|V' (Zag lk lk) pt<|mv' lk pt<|?_
    refine sp' (t:=122) gt pt pt (fun hg122=>?_) (fun hg122=>?_)
    ·have hN:=Za4 hB (.inr (.inl (by intro e;rw [e] at hg122;exact absurd hg122 (by decide))))
     refine s_no gt pt<|s_no gt pt<|s_no gt pt<|s_no gt pt<|s_no gt pt<|s_no gt pt<|s_no gt pt<|V' (Zak lk lkb) pt<|sn'<|ZaH lk<|Zam<|ZbP<|u_fr rfl (Zax ZaC) pt<|?_
     refine u_fr rfl (v_mv lk) pt<|u_fr rfl (v_mv lk) pt<|?_
     refine u_fr rfl (ZaY lk lk Zbd (nb' rfl) ro (by omega) ro rfl) pt ?_
     refine u_fr rfl (Zbz lk dp0) pt<|u_fr rfl (ZaB lk gt) pt<|?_
     refine u_st (Zal lk (cvl lk rfl) (hga hn rfl) rfl (nb' rfl) rfl ZaR (hs0 hn)) lk nh ptn ?_
     refine u_fr rfl (v_mv lk) pt<|u_fr rfl (v_mv lki) pt<|ZcI<|Zah<|Zaa<|Zap<|Zai<|Zai<|Zap<|Zai<|Zaf (rsn (rm1 (rr_c gt (hga hn rfl) (ld1 ZaQ rfl)) (rm1 (rr_t gt) (rm1 (rr_t gt) rm0))))<|rtW'<|?_
     have hP:ZbA s=(srcZ,L[k].1,1):=by rw [hV,outP,hrun,hN]
     rw [hP];exact ZbB
    refine s_do gt<|mv' lk pt<|s_do gt<|mv' lk pt<|s_do gt<|?_
    refine V' (ZaY lk lk Zbd (nb' rfl) ro (by omega) ro rfl) pt ?_
    refine s_do gt<|V' (Zbz lk dp1) pt<|s_do gt<|V' (ZaB lk gt) pt<|s_do gt<|mv' lk pt<|s_do gt<|V' (Zdt lk lk) pt<|V' (Zag lk lk) pt<|sn'<|?_
    refine cd' lk (fun hc8=>?_) (fun hc8=>?_)
    ·have hN:=Za4 hB (.inr (.inr (by simpa using hc8)))
     refine Zam<|ZbP<|u_fr rfl (Zax ZaC) pt<|u_fr rfl (v_mv lk) pt<|u_fr rfl (v_mv lk) pt<|?_
     refine u_fr rfl (ZaY lk lk Zbd (nb' rfl) ro (by omega) ro rfl) pt ?_
     refine u_fr rfl (Zbz lk dp0) pt<|u_fr rfl (ZaB lk gt) pt<|?_
     refine u_st (Zal lk (cvl lk rfl) (hga hn rfl) rfl (nb' rfl) rfl ZaR (hs0 hn)) lk nh ptn ?_
     refine u_fr rfl (v_mv lk) pt<|u_fr rfl (v_mv lki) pt<|ZcI<|Zah<|Zaa<|Zap<|Zai<|Zai<|Zap<|Zai<|Zaf (rsn (rm1 (rr_c gt (hga hn rfl) (ld1 ZaQ rfl)) (rm1 (rr_t gt) (rm1 (rr_t gt) rm0))))<|rtW'<|?_
     have hP:ZbA s=(srcZ,L[k].1,1):=by rw [hV,outP,hrun,hN]
     rw [hP];exact ZbB
    have hu1:u.2=false:=by simpa using hg116
    have hu2:u.1=[]:=List.eq_nil_of_length_eq_zero (by omega)
    have hS:=Zc8 hB hu1 hu2 (by simpa using hc8)
    rw [hS] at hrun
    have hokq:=hPT.1
    rw [hB] at hokq
    refine Zae<|Zaz<|Zah<|Zas<|mv' lk pt<|?_
    refine V' (Zay lk lki (by omega) (by omega)) pt ?_
    refine mv' lk pt<|Zar<|ZaA<|?_
    refine lU' (⟨k+1,(sr.1,sr.2.1,sr.2.2++[(n1,n2)]),none,sr.2.1.length,v1,v2,v3+1,v4⟩) (by (try dsimp only);exact ⟨by omega,by simp,by omega,by omega,by simp;omega,by simp [eC],hokq,hrun⟩) (by (try dsimp only);(try simp only [sm',Nat.reduceAdd]);exact bkE' 6 hn hlt (by repeat (first | exact wk0 | refine wka ?_ | refine wk1 rfl ?_ | refine wk1 (by first | rfl | exact ivx (by omega) | (simp;done) | exact bvx (by have h9:=hs68;unfold Zcp at h9;rw [h9];rfl) | exact bvx (by have h9:=hs106;unfold Zcp at h9;rw [h9];rfl) | exact bvx (by have h9:=hs68;unfold Zcp at h9;rw [Bool.not_eq_true] at h9;rw [h9];rfl) | exact bvx (by have h9:=hs106;unfold Zcp at h9;rw [Bool.not_eq_true] at h9;rw [h9];rfl)) ?_)) (by simp only [zonC,ZaS,Zbx,zC,eC,List.append_nil,List.length_append,List.length_singleton];rfl) (hT:=by first | rfl | (simp only [AV.lt,AV.ltL,Ent.lt,List.all_cons,List.all_nil,Bool.and_true,Bool.and_self,decide_true,Zbi,Zbu,Zbk,Zbp,ZbK,Zfo,Zgb,lt26,lt36,lt46,lt56];done) | exact lt') (hE:=by first | rfl | (simp only [AV.lt,AV.ltL,Ent.lt,List.all_cons,List.all_nil,Bool.and_true,Bool.and_self,decide_true,Zbi,Zbu,Zbk,Zbp,ZbK,Zfo,Zgb,lt26,lt36,lt46,lt56];done) | exact lt'))
   have hwL:¬w=linkA:=hc7
   have hB:Zek (curS sr none,false) (L[k].2.2,false)=((curS sr none,false),bad t1):=by unfold Zek;rw [if_neg (by simp)];simp only [ZbU,e1,if_neg hwR,if_neg hwZ,if_neg hwL]
   have hN:=Za4 hB (.inl rfl)
   refine Zas<|V' (Zac lk) pt<|E' (Zal lk (cvl lkb rfl) (hga hn rfl) rfl (nb' rfl) rfl Ze3 (hs6 hn)) ptn<|Zar<|Zaz<|Zah<|wr'<|V' (Zac lk) pt<|V' (Zab lk (hga hn rfl) gt1) pt<|mv' lk pt<|s_no gt pt<|s_no gt pt<|s_no gt pt<|?_
   refine s_no gt pt<|V' (Zak lk lkb) pt<|mv' lk pt<|s_no gt pt<|s_no gt pt<|s_no gt pt<|s_no gt pt<|s_no gt pt<|s_no gt pt<|s_no gt pt<|V' (Zak lk lkb) pt<|sn'<|ZaH lk<|?_
   refine Zam<|ZbP<|u_fr rfl (Zax ZaC) pt<|u_fr rfl (v_mv lk) pt<|u_fr rfl (v_mv lk) pt<|?_
   refine u_fr rfl (ZaY lk lk Zbd (nb' rfl) ro (by omega) ro rfl) pt ?_
   refine u_fr rfl (Zbz lk dp0) pt<|u_fr rfl (ZaB lk gt) pt<|?_
   refine u_st (Zal lk (cvl lk rfl) (hga hn rfl) rfl (nb' rfl) rfl ZaR (hs0 hn)) lk nh ptn ?_
   refine u_fr rfl (v_mv lk) pt<|u_fr rfl (v_mv lki) pt<|ZcI<|Zah<|Zaa<|Zap<|Zai<|Zai<|Zap<|Zai<|Zaf (rsn (rm1 (rr_c gt (hga hn rfl) (ld1 ZaQ rfl)) (rm1 (rr_t gt) (rm1 (rr_t gt) rm0))))<|rtW'<|?_
   have hP:ZbA s=(srcZ,L[k].1,1):=by rw [hV,outP,hrun,hN]
   rw [hP];exact ZbB
  obtain ⟨z,rfl⟩:=Option.ne_none_iff_exists'.1 hs36
  simp only [Option.isSome_some] at hrun hPT
  have hm':m=sr.2.1.length+1:=by simpa using hm
  have hk5':z.2.length≤k:=hk5
  obtain ⟨x,u,eE⟩ : ∃ a b,tEra (L[k].2.2,false)=(a,b):=⟨_,_,rfl⟩
  have hB:Zek (curS sr (some z),true) (L[k].2.2,false)=(Zcn (curS sr (some z)) x,u):=by unfold Zek;rw [if_pos rfl];simp only [ZbU,ret2,eE]
  have hw:Zcn (curS sr (some z)) x=((sr.1,sr.2.1++[(z.1,z.2++[x])],sr.2.2),!Zcp x):=by unfold Zcn curS;rw [show sr.2.1++(some z).toList=sr.2.1++[z] from rfl,Zfs]
  refine mv' lk pt<|mv' lk pt<|sn'<|wr'<|mv' lks pt<|sn'<|Zam<|wr'<|mv' lk pt<|?_
  refine V' ((by first | exact v_not lk | exact Zaw lk)) pt ?_
  refine sn' ?_
  refine Zd4 lk (by rfl) ?_
  refine Zae<|Zah<|Zam<|Zao<|wr'<|mv' lk pt<|mv' lk pt<|sn'<|?_
  refine ZdE lk (by rfl) ?_
  refine wr'<|V' (Zac lk) pt<|V' (Zab lk (hga hn rfl) gt1) pt<|V' (Zds lk) pt<|?_
  refine V' (ZbD lk lki (by omega) (by omega)) pt ?_
  refine mv' lk pt<|sn'<|wr'<|ZaL mp (tera_e hokt eE (hga hn rfl)) (hs6 hn) pt<|E' (Za6 (hl7 hn) ha7) pt<|E' (Zal lk (cvl lk rfl) (hga hn rfl) rfl (nb' rfl) rfl Zh4 (hs7 hn)) ptn<|sn'<|Zam<|Zpe [N+1]<|D' (Zac lk) pt<|?_
  refine d_ldP lk (hga hn rfl) (ld0 gt) (by simp) pt ?_
  refine D' (v_mv lk) pt<|D' (Zac lk) pt<|D' (Zab lk (hga hn rfl) gt1) pt<|D' (v_mv lk) pt<|?_
  refine D' (v_iaO lk lk (hga hn rfl) (nb' rfl) (by omega) (by omega) (by rw [Zki];simp;omega)) pt ?_
  refine D' (ZbE lk) pt ?_
  refine D' (Zab lk (hga hn rfl) (zc_at (by omega))) pt ?_
  refine D' (Zaq lk (hga hn rfl) Zh3 rfl) pt<|d_eff rfl rfl (hlk hn rfl) (l_lit (Zh8 (cvl lk rfl) rfl)) pt Zrh<|Zb6<|k_e_ent ZoI<|?_
  refine Zqq rfl rfl (ZcD (Zct lk (hga hn rfl) rfl Zi9 (nb' rfl)) lk (hga hn rfl) (ZjU _) (by omega) rfl (hs5 hn)) (by intro i hi;simp only [cond_true,List.mem_cons,List.not_mem_nil,or_false] at hi;subst hi;first | rfl | exact (hga hn rfl).trans (hga hn rfl).symm) pt ?_
  refine k_val rfl (v_iaO lk lk (hga hn rfl) (nb' rfl) (by omega) (by omega) (by rw [Zki];simp;omega)) pt ?_
  refine k_val rfl (ZbE lk) pt ?_
  refine Zqq rfl rfl (Zal lk (cvl lk rfl) (hga hn rfl) rfl (by rw [Zki];simp;omega) rfl (zc_set (by omega)) (hs3 hn)) (by intro i hi;simp at hi) ptn ?_
  refine k_nil<|Zah<|Zas<|?_
  by_cases hs68:Zcp x=true
  ·have hq:Zcn (curS sr (some z)) x=(curS (sr.1,sr.2.1++[(z.1,z.2++[x])],sr.2.2) none,false):=by rw [hw,hs68,ZeD];rfl
   refine V' (Zac lk) pt<|V' (Zab lk (hga hn rfl) gt4) pt<|V' (Zaw lk) pt<|mv' lk pt<|Zar<|Zaz<|Zah<|wr'<|V' (Zac lk) pt<|V' (Zab lk (hga hn rfl) gt1) pt<|mv' lk pt<|?_
   refine ZaE (t:=116) gt pt pt (fun hg116=>?_) (fun hg116=>?_)
   ·have hN:=Za4 hB (.inl hg116)
    refine s_no gt pt<|s_no gt pt<|s_no gt pt<|s_no gt pt<|V' (Zak lk lkb) pt<|mv' lk pt<|s_no gt pt<|s_no gt pt<|s_no gt pt<|s_no gt pt<|s_no gt pt<|s_no gt pt<|s_no gt pt<|V' (Zak lk lkb) pt<|?_
    refine sn'<|ZaH lk<|Zam<|ZbP<|u_fr rfl (Zax ZaC) pt<|u_fr rfl (v_mv lk) pt<|u_fr rfl (v_mv lk) pt<|?_
    refine u_fr rfl (ZaY lk lk Zbd (nb' rfl) ro (by omega) ro rfl) pt ?_
    refine u_fr rfl (Zbz lk dp0) pt<|u_fr rfl (ZaB lk gt) pt<|?_
    refine u_st (Zal lk (cvl lk rfl) (hga hn rfl) rfl (nb' rfl) rfl ZaR (hs0 hn)) lk nh ptn ?_
    refine u_fr rfl (v_mv lk) pt<|u_fr rfl (v_mv lki) pt<|ZcI<|Zah<|Zaa<|Zap<|Zai<|Zai<|Zap<|Zai<|Zaf (rsn (rm1 (rr_c gt (hga hn rfl) (ld1 ZaQ rfl)) (rm1 (rr_t gt) (rm1 (rr_t gt) rm0))))<|rtW'<|?_
    have hP:ZbA s=(srcZ,L[k].1,1):=by rw [hV,outP,hrun,hN]
    rw [hP];exact ZbB
   refine s_do gt<|V' (Zac lk) pt<|s_do gt<|V' (Zab lk (hga hn rfl) gt0) pt<|s_do gt<|V' (ZaP lk) pt<|s_do gt<|V' (ZbV lk lki) pt<|V' (Zag lk lk) pt<|mv' lk pt<|?_
   refine sp' (t:=122) gt pt pt (fun hg122=>?_) (fun hg122=>?_)
   ·have hN:=Za4 hB (.inr (.inl (by intro e;rw [e] at hg122;exact absurd hg122 (by decide))))
    refine s_no gt pt<|s_no gt pt<|s_no gt pt<|s_no gt pt<|s_no gt pt<|s_no gt pt<|s_no gt pt<|V' (Zak lk lkb) pt<|sn'<|ZaH lk<|Zam<|ZbP<|u_fr rfl (Zax ZaC) pt<|?_
    refine u_fr rfl (v_mv lk) pt<|u_fr rfl (v_mv lk) pt<|?_
    refine u_fr rfl (ZaY lk lk Zbd (nb' rfl) ro (by omega) ro rfl) pt ?_
    refine u_fr rfl (Zbz lk dp0) pt<|u_fr rfl (ZaB lk gt) pt<|?_
    refine u_st (Zal lk (cvl lk rfl) (hga hn rfl) rfl (nb' rfl) rfl ZaR (hs0 hn)) lk nh ptn ?_
    refine u_fr rfl (v_mv lk) pt<|u_fr rfl (v_mv lki) pt<|ZcI<|Zah<|Zaa<|Zap<|Zai<|Zai<|Zap<|Zai<|Zaf (rsn (rm1 (rr_c gt (hga hn rfl) (ld1 ZaQ rfl)) (rm1 (rr_t gt) (rm1 (rr_t gt) rm0))))<|rtW'<|?_
    have hP:ZbA s=(srcZ,L[k].1,1):=by rw [hV,outP,hrun,hN]
    rw [hP];exact ZbB
   refine s_do gt<|mv' lk pt<|s_do gt<|mv' lk pt<|s_do gt<|?_
   refine V' (ZaY lk lk Zbd (nb' rfl) ro (by omega) ro rfl) pt ?_
   refine s_do gt<|V' (Zbz lk dp1) pt<|s_do gt<|V' (ZaB lk gt) pt<|s_do gt<|mv' lk pt<|s_do gt<|V' (Zdt lk lk) pt<|V' (Zag lk lk) pt<|sn'<|?_
   refine cd' lk (fun hc8=>?_) (fun hc8=>?_)
   ·have hN:=Za4 hB (.inr (.inr (by simpa using hc8)))
    refine Zam<|ZbP<|u_fr rfl (Zax ZaC) pt<|u_fr rfl (v_mv lk) pt<|u_fr rfl (v_mv lk) pt<|?_
    refine u_fr rfl (ZaY lk lk Zbd (nb' rfl) ro (by omega) ro rfl) pt ?_
    refine u_fr rfl (Zbz lk dp0) pt<|u_fr rfl (ZaB lk gt) pt<|?_
    refine u_st (Zal lk (cvl lk rfl) (hga hn rfl) rfl (nb' rfl) rfl ZaR (hs0 hn)) lk nh ptn ?_
    refine u_fr rfl (v_mv lk) pt<|u_fr rfl (v_mv lki) pt<|ZcI<|Zah<|Zaa<|Zap<|Zai<|Zai<|Zap<|Zai<|Zaf (rsn (rm1 (rr_c gt (hga hn rfl) (ld1 ZaQ rfl)) (rm1 (rr_t gt) (rm1 (rr_t gt) rm0))))<|rtW'<|?_
    have hP:ZbA s=(srcZ,L[k].1,1):=by rw [hV,outP,hrun,hN]
    rw [hP];exact ZbB
   have hu1:u.2=false:=by simpa using hg116
   have hu2:u.1=[]:=List.eq_nil_of_length_eq_zero (by omega)
   have hS:=Zc8 hB hu1 hu2 (by simpa using hc8)
   rw [hS] at hrun
   have hokq:=hPT.1
   rw [hB] at hokq
   refine Zae<|Zaz<|?_
   refine Za8 ((ALe.iceCellNew (ds:=rows eraC (z.2++[x])) (k:=sr.2.1.length*2+1) (ty2:=63) (st2:=10) (hga hn rfl) (hga hn rfl) (by omega) (zc_at rfl) (by rw [ZaS,Zbx];exact List.take_of_length_le (by simp [ZjU,eC];omega)) (by simp [ZjU,eC];omega) zc_put (hs5 hn) (hs3 hn))) ?_
   refine Zas<|mv' lk pt<|?_
   refine V' (Zay lk lki (by omega) (by omega)) pt ?_
   refine mv' lk pt<|Zar<|ZaA<|?_
   refine lU' (⟨k+1,(sr.1,sr.2.1++[(z.1,z.2++[x])],sr.2.2),none,m,v1,v2,v3,v4+2⟩) (by (try dsimp only);rw [hq] at hrun hokq;exact ⟨by omega,by simp;omega,by omega,by omega,by omega,by simp [eC],hokq,hrun⟩) (by (try dsimp only);(try simp only [sm',Nat.reduceAdd]);exact bkE' 6 hn hlt (by repeat (first | exact wk0 | refine wka ?_ | refine wk1 rfl ?_ | refine wk1 (by first | rfl | exact ivx (by omega) | (simp;done) | exact bvx (by have h9:=hs68;unfold Zcp at h9;rw [h9];rfl) | exact bvx (by have h9:=hs106;unfold Zcp at h9;rw [h9];rfl) | exact bvx (by have h9:=hs68;unfold Zcp at h9;rw [Bool.not_eq_true] at h9;rw [h9];rfl) | exact bvx (by have h9:=hs106;unfold Zcp at h9;rw [Bool.not_eq_true] at h9;rw [h9];rfl)) ?_)) (by simp only [zonC,ZaS,Zbx,zC,eC,List.append_nil,List.length_append,List.length_singleton];rfl) (hT:=by first | rfl | (simp only [AV.lt,AV.ltL,Ent.lt,List.all_cons,List.all_nil,Bool.and_true,Bool.and_self,decide_true,Zbi,Zbu,Zbk,Zbp,ZbK,Zfo,Zgb,lt26,lt36,lt46,lt56];done) | exact lt') (hE:=by first | rfl | (simp only [AV.lt,AV.ltL,Ent.lt,List.all_cons,List.all_nil,Bool.and_true,Bool.and_self,decide_true,Zbi,Zbu,Zbk,Zbp,ZbK,Zfo,Zgb,lt26,lt36,lt46,lt56];done) | exact lt'))
  have hq:Zcn (curS sr (some z)) x=(curS sr (some (z.1,z.2++[x])),true):=by rw [hw,show Zcp x=false by simpa using hs68];rfl
  refine V' (Zac lk) pt<|V' (Zab lk (hga hn rfl) gt4) pt<|V' (Zaw lk) pt<|mv' lk pt<|Zar<|Zaz<|Zah<|wr'<|V' (Zac lk) pt<|V' (Zab lk (hga hn rfl) gt1) pt<|mv' lk pt<|?_
  refine ZaE (t:=116) gt pt pt (fun hg116=>?_) (fun hg116=>?_)
  ·have hN:=Za4 hB (.inl hg116)
   refine s_no gt pt<|s_no gt pt<|s_no gt pt<|s_no gt pt<|V' (Zak lk lkb) pt<|mv' lk pt<|s_no gt pt<|s_no gt pt<|s_no gt pt<|s_no gt pt<|s_no gt pt<|s_no gt pt<|s_no gt pt<|V' (Zak lk lkb) pt<|?_
   refine sn'<|ZaH lk<|Zam<|ZbP<|u_fr rfl (Zax ZaC) pt<|u_fr rfl (v_mv lk) pt<|u_fr rfl (v_mv lk) pt<|?_
   refine u_fr rfl (ZaY lk lk Zbd (nb' rfl) ro (by omega) ro rfl) pt ?_
   refine u_fr rfl (Zbz lk dp0) pt<|u_fr rfl (ZaB lk gt) pt<|?_
   refine u_st (Zal lk (cvl lk rfl) (hga hn rfl) rfl (nb' rfl) rfl ZaR (hs0 hn)) lk nh ptn ?_
   refine u_fr rfl (v_mv lk) pt<|u_fr rfl (v_mv lki) pt<|ZcI<|Zah<|Zaa<|Zap<|Zai<|Zai<|Zap<|Zai<|Zaf (rsn (rm1 (rr_c gt (hga hn rfl) (ld1 ZaQ rfl)) (rm1 (rr_t gt) (rm1 (rr_t gt) rm0))))<|rtW'<|?_
   have hP:ZbA s=(srcZ,L[k].1,1):=by rw [hV,outP,hrun,hN]
   rw [hP];exact ZbB
  refine s_do gt<|V' (Zac lk) pt<|s_do gt<|V' (Zab lk (hga hn rfl) gt0) pt<|s_do gt<|V' (ZaP lk) pt<|s_do gt<|V' (ZbV lk lki) pt<|V' (Zag lk lk) pt<|mv' lk pt<|?_
  refine sp' (t:=122) gt pt pt (fun hg122=>?_) (fun hg122=>?_)
  ·have hN:=Za4 hB (.inr (.inl (by intro e;rw [e] at hg122;exact absurd hg122 (by decide))))
   refine s_no gt pt<|s_no gt pt<|s_no gt pt<|s_no gt pt<|s_no gt pt<|s_no gt pt<|s_no gt pt<|V' (Zak lk lkb) pt<|sn'<|ZaH lk<|Zam<|ZbP<|u_fr rfl (Zax ZaC) pt<|?_
   refine u_fr rfl (v_mv lk) pt<|u_fr rfl (v_mv lk) pt<|?_
   refine u_fr rfl (ZaY lk lk Zbd (nb' rfl) ro (by omega) ro rfl) pt ?_
   refine u_fr rfl (Zbz lk dp0) pt<|u_fr rfl (ZaB lk gt) pt<|?_
   refine u_st (Zal lk (cvl lk rfl) (hga hn rfl) rfl (nb' rfl) rfl ZaR (hs0 hn)) lk nh ptn ?_
   refine u_fr rfl (v_mv lk) pt<|u_fr rfl (v_mv lki) pt<|ZcI<|Zah<|Zaa<|Zap<|Zai<|Zai<|Zap<|Zai<|Zaf (rsn (rm1 (rr_c gt (hga hn rfl) (ld1 ZaQ rfl)) (rm1 (rr_t gt) (rm1 (rr_t gt) rm0))))<|rtW'<|?_
   have hP:ZbA s=(srcZ,L[k].1,1):=by rw [hV,outP,hrun,hN]
   rw [hP];exact ZbB
  refine s_do gt<|mv' lk pt<|s_do gt<|mv' lk pt<|s_do gt<|?_
  refine V' (ZaY lk lk Zbd (nb' rfl) ro (by omega) ro rfl) pt ?_
  refine s_do gt<|V' (Zbz lk dp1) pt<|s_do gt<|V' (ZaB lk gt) pt<|s_do gt<|mv' lk pt<|s_do gt<|V' (Zdt lk lk) pt<|V' (Zag lk lk) pt<|sn'<|?_
  refine cd' lk (fun hc8=>?_) (fun hc8=>?_)
  ·have hN:=Za4 hB (.inr (.inr (by simpa using hc8)))
   refine Zam<|ZbP<|u_fr rfl (Zax ZaC) pt<|u_fr rfl (v_mv lk) pt<|u_fr rfl (v_mv lk) pt<|?_
   refine u_fr rfl (ZaY lk lk Zbd (nb' rfl) ro (by omega) ro rfl) pt ?_
   refine u_fr rfl (Zbz lk dp0) pt<|u_fr rfl (ZaB lk gt) pt<|?_
   refine u_st (Zal lk (cvl lk rfl) (hga hn rfl) rfl (nb' rfl) rfl ZaR (hs0 hn)) lk nh ptn ?_
   refine u_fr rfl (v_mv lk) pt<|u_fr rfl (v_mv lki) pt<|ZcI<|Zah<|Zaa<|Zap<|Zai<|Zai<|Zap<|Zai<|Zaf (rsn (rm1 (rr_c gt (hga hn rfl) (ld1 ZaQ rfl)) (rm1 (rr_t gt) (rm1 (rr_t gt) rm0))))<|rtW'<|?_
   have hP:ZbA s=(srcZ,L[k].1,1):=by rw [hV,outP,hrun,hN]
   rw [hP];exact ZbB
  have hu1:u.2=false:=by simpa using hg116
  have hu2:u.1=[]:=List.eq_nil_of_length_eq_zero (by omega)
  have hS:=Zc8 hB hu1 hu2 (by simpa using hc8)
  rw [hS] at hrun
  have hokq:=hPT.1
  rw [hB] at hokq
  refine Zae<|Zaz<|Zah<|Zas<|mv' lk pt<|?_
  refine V' (Zay lk lki (by omega) (by omega)) pt ?_
  refine mv' lk pt<|Zar<|ZaA<|?_
  refine lU' (⟨k+1,sr,some (z.1,z.2++[x]),m,v1,v2,v3,v4+1⟩) (by (try dsimp only);rw [hq] at hrun hokq;exact ⟨by omega,by simp;omega,by omega,by omega,by omega,by simp [eC] at hk5 ⊢;omega,hokq,hrun⟩) (by (try dsimp only);(try simp only [sm',Nat.reduceAdd]);exact bkE' 6 hn hlt (by repeat (first | exact wk0 | refine wka ?_ | refine wk1 rfl ?_ | refine wk1 (by first | rfl | exact ivx (by omega) | (simp;done) | exact bvx (by have h9:=hs68;unfold Zcp at h9;rw [h9];rfl) | exact bvx (by have h9:=hs106;unfold Zcp at h9;rw [h9];rfl) | exact bvx (by have h9:=hs68;unfold Zcp at h9;rw [Bool.not_eq_true] at h9;rw [h9];rfl) | exact bvx (by have h9:=hs106;unfold Zcp at h9;rw [Bool.not_eq_true] at h9;rw [h9];rfl)) ?_)) (by simp only [zonC,ZaS,Zbx,zC,eC,List.append_nil,List.length_append,List.length_singleton];rfl) (hT:=by first | rfl | (simp only [AV.lt,AV.ltL,Ent.lt,List.all_cons,List.all_nil,Bool.and_true,Bool.and_self,decide_true,Zbi,Zbu,Zbk,Zbp,ZbK,Zfo,Zgb,lt26,lt36,lt46,lt56];done) | exact lt') (hE:=by first | rfl | (simp only [AV.lt,AV.ltL,Ent.lt,List.all_cons,List.all_nil,Bool.and_true,Bool.and_self,decide_true,Zbi,Zbu,Zbk,Zbp,ZbK,Zfo,Zgb,lt26,lt36,lt46,lt56];done) | exact lt'))
 have hke:k=L.length:=by omega
 rw [List.drop_of_length_le (by omega),runR] at hrun
 have hV2:ZbA s=endP (curS sr o,o.isSome):=by rw [hV,outP,hrun]
 refine ZaO<|ZaF<|ZaF<|Za7<|Zah<|Zam<|wr'<|mv' lk pt<|sn'<|?_
 refine cd' lk (fun hc9=>?_) (fun hc9=>?_)
 ·have hP:ZbA s=(srcZ,0,1):=by rw [hV2];exact if_pos hc9
  refine wr'<|V' (Zax Zg7) pt<|E' (Zal lk (cvl lk rfl) (hga hn rfl) rfl (nb' rfl) rfl ZaR (hs0 hn)) ptn<|mv' lki pt<|mv' lki pt<|sn'<|Zaa<|Zai<|Zaf (rsn (rm1 (rr_c gt (hga hn rfl) (ld1 ZaQ rfl)) (rm1 (rr_t gt) (rm1 (rr_t gt) rm0))))<|rtW'<|?_
  rw [hP];exact ZbB
 obtain rfl:o=none:=by cases o;rfl;cases hc9
 have hm':m=sr.2.1.length:=by simpa using hm
 subst hm'
 rw [ZeD] at hok hV2
 refine Zae ?_
 refine Za8 ((ALe.trans (ALe.iceCellR (ds:=rows rulC sr.1) (hga hn rfl) (hga hn rfl) (by omega) gt0 (List.take_of_length_le (by rw [Zgk];exact Nat.le_refl _)) (by rw [Zgk];exact Nat.le_refl _) pt0 (hs2 hn) (hs1 hn)) (ALe.trans (ALe.iceCellR (ds:=rows zonC sr.2.1) (hga hn rfl) (hga hn rfl) (by omega) gt1 (by rw [show rows zonC sr.2.1++zC N v4 none=rows zonC sr.2.1 from List.append_nil _];exact List.take_of_length_le (by rw [Zd3];exact Nat.le_refl _)) (by rw [Zki];simp) pt1 (hs3 hn) (hs1 hn)) (ALe.iceCellR (ds:=rows lnkC sr.2.2) (hga hn rfl) (hga hn rfl) (by omega) gt2 (List.take_of_length_le (by rw [Zgq];exact Nat.le_refl _)) (by rw [Zgq];exact Nat.le_refl _) pt2 (hs4 hn) (hs1 hn))))) ?_
 refine wr'<|V' (Zaq lk (hga hn rfl) ZaQ rfl) pt<|Zad mp (ZpS (a:=sr.1) (z:=sr.2.1) (l:=sr.2.2) hok) pt<|mv' lk pt<|sn'<|Zam<|wr'<|mv' lk pt<|V' (Za1 lk lki) pt<|sn'<|?_
 refine cd' lk (fun hc10=>?_) (fun hc10=>?_)
 ·have hP:ZbA s=(srcZ,0,ZbG sr):=by rw [hV2,endP,if_neg (by simp)];exact if_pos hc10
  refine wr'<|V' (Zax Zg6) pt<|mv' lk pt<|E' (Zal lk (cvl lk rfl) (hga hn rfl) rfl (nb' rfl) rfl ZaR (hs0 hn)) ptn<|mv' lki pt<|mv' lk pt<|sn'<|Zaa<|Zai<|Zaf (rsn (rm1 (rr_c gt (hga hn rfl) (ld1 ZaQ rfl)) (rm1 (rr_t gt) (rm1 (rr_t gt) rm0))))<|rtW'<|?_
  rw [hP];exact ZbB
 have h0:ZbG sr=0:=Decidable.of_not_not hc10
 have hP:ZbA s=(sr,0,0):=by rw [hV2,endP,if_neg (by simp)];exact if_neg hc10
 refine Zae<|Zah<|wr'<|V' (Zaq lk (hga hn rfl) ZaQ rfl) pt<|mv' lk pt<|E' (Zal lk (cvl lk rfl) (hga hn rfl) rfl (nb' rfl) rfl ZaR (hs0 hn)) ptn<|mv' lki pt<|mv' lk pt<|sn'<|Zaa<|Zaf (rsn (rm1 (rr_c gt (hga hn rfl) (ld1 ZaQ rfl)) (rm1 (rr_t gt) (rm1 (rr_t gt) rm0))))<|rtW'<|?_
 rw [hP];exact Wk.tup (wk1 rfl (wk1 rfl (wk1 (ivx h0.symm) wk0)))
end Go.Proofs.YtlekejpogddndaaGreatDoor
end
section
namespace Go.Proofs.YtlekejpogddndaaGreatDoor
open Go.ChangeShapes Go.WideShapes Go.ChangeAt Go.RowKit
theorem own:ownKnob Tryz.prog.godebug=none:=by kernel_rfl
theorem laidOut:laidOutB Tryz.prog=true:=by kernel_rfl
theorem Zfy {H:Type}{enc:TypeId×Value→H}{P:Program}(hl:laidOutB P=true) {W W':World}(hb:Below W.heap.size W W') :
  ∀ (ts:List TypeId) (vs:List Value) (ds:List (DataW H)) (ps:List MemPlace),(ts.all fun t=>P.readableRec t&&decide (t<P.types.size))=true→(∀ x∈ps,x.block<W.heap.size) →
   DataW.TrodAll enc P W 0 (fun _=>true) true ts vs ds ps→DataW.TrodAll enc P W' 0 (fun b=>decide (b<W.heap.size)) true ts vs ds ps
 | [],[],[],ps,_,_,h=>h
 | t::ts,v::vs,d::ds,ps,hr,hlt,h=>by
  obtain ⟨p,q,h1,h2,rfl⟩:=h
  simp only [List.all_cons,Bool.and_eq_true,decide_eq_true_eq] at hr
  exact ⟨p,q,Below.trod hl hr.1.1 hr.1.2 h1 hb (fun x hx=>hlt x (List.mem_append.2 (.inl hx))),
   Zfy hl hb ts vs ds q hr.2 (fun x hx=>hlt x (List.mem_append.2 (.inr hx))) h2,rfl⟩
 | [],_::_,_,_,_,_,h=>by simp [DataW.TrodAll] at h
 | [],[],_::_,_,_,_,h=>by simp [DataW.TrodAll] at h
 | _::_,[],_,_,_,_,h=>by simp [DataW.TrodAll] at h
 | _::_,_::_,[],_,_,_,h=>by simp [DataW.TrodAll] at h
theorem law_post {H:Type}{enc:TypeId×Value→H}{P:Program}{f:Func}{s:ChangeSpec}{handsOn fresh:Bool}{W W':World}{args:Array Value}{ds gs:List (DataW H)}{before:List MemPlace}{tb:TypeId}
  (hl:laidOutB P=true) (hts:(f.params.toList.all fun t=>P.readableRec t&&decide (t<P.types.size))=true)
  (hrt:f.resultTypes = #[tb]) (htb:P.underlying tb=some .bool) (hvars:s.vars=[])
  (hs:s.fn H ds={ results:=[.lit (.bool true)],args:=ds })
  (hW:DataW.Whole enc P f.params.toList s.vars false W args.toList ds gs before) (hb:Below W.heap.size W W') :
  s.post enc P f false fresh handsOn false W args (.bool true) W':=by
 have hW':=hW
 obtain ⟨p,q,hA,hV,rfl,_,_⟩:=hW
 rw [hvars] at hV
 obtain ⟨rfl,rfl⟩:=trodVars_none hV
 have hlt : ∀ x∈p,x.block<W.heap.size:=fun x hx=>by simpa using hW'.lt x (List.mem_append.2 (.inl hx))
 have e1:s.fn H (ds++[])={ results:=[.lit (.bool true)],args:=ds }:=by simpa using hs
 refine ⟨ds,[],p++[],[],p,[],hW',?_,?_,?_,hb.frame _,fun h=>by cases h⟩
 ·rw [e1,hrt];exact trodAll_mk1 (shut_bool htb _)
 ·rw [e1];exact Zfy hl hb _ _ _ _ hts hlt hA
 ·rw [e1,hvars];exact rfl
end Go.Proofs.YtlekejpogddndaaGreatDoor
end
section
namespace Go.Proofs.YtlekejpogddndaaGreatDoor
open Go.ChangeShapes Go.WideShapes Go.ChangeAt Go.RowKit Go.Deep Go.Ab
inductive Ds where
 | int | str | bool
 | pair (a b:Ds)
 | slice (a:Ds)
@[reducible] def El:Ds→Type
 | .int=>Int
 | .str=>ByteArray
 | .bool=>Bool
 | .pair a b=>El a×El b
 | .slice a=>List (El a)
def Ds.size:Ds→Nat
 | .pair a b=>a.size+b.size
 | _=>1
theorem Ds.size_pos (d:Ds):0<d.size:=by
 induction d with
 | pair a b iha ihb=>simp only [Ds.size];omega
 | _=>simp [Ds.size]
def Rd (w:World) (B:Nat):(d:Ds)→List Value→El d→Prop
  | .int,cs,n=>cs=[.int .i64 n] ∧ -9223372036854775808≤n∧n≤9223372036854775807
  | .str,cs,s=>cs=[.string s]∧s.size≤maxLen
  | .bool,cs,b=>cs=[.bool b]
  | .pair a b,cs,p => ∃ c1 c2,cs=c1++c2∧Rd w B a c1 p.1∧Rd w B b c2 p.2
  | .slice a, cs, l => ∃ A c, cs = [.slice A l.length c] ∧ l.length ≤ c ∧ c ≤ maxLen ∧ (A = none → c = 0) ∧
      (0<l.length → ∃ b off,A=some ⟨b,off,none⟩∧b<B ∧ ∀ k (h:k<l.length),∃ r,(∀ j v,r[j]?=some v→w.cell? ⟨b,off+k*a.size+j,none⟩=some v)∧Rd w B a r l[k])
theorem Rd.length {w:World}{B:Nat} : ∀ {d:Ds}{cs:List Value}{x:El d},Rd w B d cs x→cs.length=d.size
 | .int,cs,x,h=>by rw [h.1];rfl
 | .str,cs,x,h=>by rw [h.1];rfl
 | .bool,cs,x,h=>by rw [show cs=_ from h];rfl
 | .pair a b,cs,x,⟨c1,c2,e,h1,h2⟩=>by rw [e,List.length_append,Rd.length h1,Rd.length h2];rfl
 | .slice a,cs,x,⟨A,c,e,_⟩=>by rw [e];rfl
theorem Rd.keep {w w':World}{B B':Nat}(hk : ∀ p:Addr,p.block<B→w'.cell? p=w.cell? p) (hB:B≤B') : ∀ {d:Ds}{cs:List Value}{x:El d},Rd w B d cs x→Rd w' B' d cs x
  | .int,cs,x,h=>h
  | .str,cs,x,h=>h
  | .bool,cs,x,h=>h
  | .pair a b,cs,x,⟨c1,c2,e,h1,h2⟩=>⟨c1,c2,e,Rd.keep hk hB h1,Rd.keep hk hB h2⟩
  | .slice a, cs, x, ⟨A, c, e, hl, hm, hA0, h⟩ => ⟨A, c, e, hl, hm, hA0, fun h0 => by
      obtain ⟨b,off,hA,hb,hi⟩:=h h0
      refine ⟨b,off,hA,by omega,fun k hk'=>?_⟩
      obtain ⟨r,hc,hr⟩:=hi k hk'
      exact ⟨r,fun j v hv=>(hk _ hb).trans (hc j v hv),Rd.keep hk hB hr⟩⟩
theorem Rd.below {w w':World}{B:Nat}{d:Ds}{cs:List Value}{x:El d}(h:Rd w B d cs x) (hb:Below B w w'):Rd w' B d cs x:=h.keep (fun p hp=>hb.cell hp) (Nat.le_refl _)
theorem Rd.more {w:World}{B B':Nat}{d:Ds}{cs:List Value}{x:El d}(h:Rd w B d cs x) (hB:B≤B'):Rd w B' d cs x:=h.keep (fun p hp=>rfl) hB
def Zl6 (P:Program) (f:TypeId→Ds→Bool):List Field→Nat→Ds→Bool
 | [],_,_=>false
 | fd::fs,off,d=>match fs with
  | []=>fd.offset==off&&P.cellsOf fd.type==d.size&&f fd.type d
  | _::_=>match d with
   | .pair a b=>fd.offset==off&&P.cellsOf fd.type==a.size&&f fd.type a&&Zl6 P f fs (off+a.size) b
   | _=>false
def fits (P:Program):Nat→TypeId→Ds→Bool
 | 0,_,_=>false
 | n+1,t,d =>
  match P.underlying t with
  | some (.int .i64)=>match d with
   | .int=>true
   | _=>false
  | some .string=>match d with
   | .str=>true
   | _=>false
  | some .bool=>match d with
   | .bool=>true
   | _=>false
  | some (.slice e)=>match d with
   | .slice a=>P.cellsOf e==a.size&&fits P n e a
   | _=>false
  | some (.struct fs)=>P.cellsOf t==d.size&&Zl6 P (fits P n) fs.toList 0 d
  | _=>false
section
variable {H : Type} {enc : TypeId × Value → H} {P : Program} {w : World} {base : Nat} {spare : Nat → Bool} {held : Bool}
theorem Zkv {w:World}{a:Addr}{v:Value}(h:w.cell? a=some v):a.spot=none:=by
 unfold World.cell? at h
 split at h
 ·split at h
  ·cases h
  ·rename_i hs;simpa using hs
 ·cases h
theorem Zqk {α β:Type}{Q:Nat→β→α→Prop} : ∀ (n:Nat),(∀ i,i<n → ∃ r y,Q i r y) → ∃ l:List α,l.length=n ∧ ∀ i (h:i<l.length),∃ r,Q i r l[i]
 | 0,_=>⟨[],rfl,fun i h=>absurd h (by simp)⟩
 | n+1,h=>by
  obtain ⟨l,hl,hq⟩:=Zqk n (fun i hi=>h i (by omega))
  obtain ⟨r,y,hy⟩:=h n (by omega)
  refine ⟨l++[y],by simp [hl],fun i hi=>?_⟩
  by_cases hin:i<l.length
  ·obtain ⟨r',h'⟩:=hq i hin
   exact ⟨r',by rw [List.getElem_append_left hin];exact h'⟩
  ·obtain rfl:i=n:=by simp at hi;omega
   exact ⟨r,by rw [List.getElem_append_right (by omega)];simpa [hl] using hy⟩
theorem ZeP : ∀ (n:Nat) (t:TypeId) (d:Ds) (fuel:Nat) (cs:List Value) (x:DataW H×List MemPlace),fits P n t d=true→DataW.trod enc P w base spare held fuel t cs=some x → ∃ e:El d,Rd w w.heap.size d cs e
  | 0,t,d,fuel,cs,x,hf,h=>by simp [fits] at hf
  | n+1,t,d,fuel,cs,x,hf,h=>by
    unfold fits at hf
    split at hf
    · rename_i hu
      split at hf <;> try (cases hf;done)
      obtain ⟨m,rfl,_,hw⟩:=DataW.trod_int hu h
      exact ⟨m,rfl,by simpa [Lit.wf,IntKind.min,IntKind.max,IntKind.signed,IntKind.bits] using hw⟩
    · rename_i hu
      split at hf <;> try (cases hf;done)
      obtain ⟨s,rfl,_,hw⟩:=DataW.trod_string hu h
      exact ⟨s,rfl,hw⟩
    · rename_i hu
      split at hf <;> try (cases hf;done)
      obtain ⟨b,rfl,_⟩:=DataW.trod_bool hu h
      exact ⟨b,rfl⟩
    · rename_i e hu
      split at hf <;> try (cases hf;done)
      rename_i a
      simp only [Bool.and_eq_true,beq_iff_eq] at hf
      rcases open_slice hu h with ⟨rfl,_⟩ | ⟨ad,len,cap,m,k,D,Pl,rfl,hb,hl,hm,hmm,_,hi⟩
      · exact ⟨([]:List (El a)),none,0,rfl,Nat.le_refl _,by unfold maxLen;omega,fun _=>rfl,fun h0=>absurd h0 (by simp)⟩
      · have hlm:len≤m:=by rw [hmm];split <;> omega
        have hex : ∀ i,i<len → ∃ (r:List Value) (y:El a),(∀ j v,r[j]?=some v→w.cell? ((ad.add (i*a.size)).add j)=some v)∧r.length=a.size∧Rd w w.heap.size a r y:=by
          intro i hil
          obtain ⟨cs',hc,ht⟩:=hi i (by omega)
          rw [hf.1] at hc
          obtain ⟨_,hcl,hat⟩:=World.cells?_some hc
          obtain ⟨y,hy⟩:=ZeP n e a k cs' _ hf.2 ht
          exact ⟨cs',y,fun j v hv=>by rw [hat j (by have:=(List.getElem?_eq_some_iff.1 hv).1;omega)];exact hv,hcl,hy⟩
        obtain ⟨l,hll,hl2⟩:=Zqk len hex
        refine ⟨l,some ad,cap,by rw [hll],by omega,hm,fun h=>(by cases h),fun h0=>?_⟩
        obtain ⟨r0,hr0,hl0,_⟩:=hl2 0 h0
        have hp:=a.size_pos
        have hc0:=hr0 0 r0[0] (List.getElem?_eq_getElem (by omega))
        have hsp:ad.spot=none:=by
          have:=Zkv hc0
          simpa [Addr.add] using this
        obtain ⟨b,off,sp⟩:=ad
        simp only at hsp
        subst hsp
        refine ⟨b,off,rfl,?_,fun k' hk'=>?_⟩
        · have:=block_lt_of_cell hc0
          simpa [Addr.add] using this
        · obtain ⟨r,hr1,_,hr2⟩:=hl2 k' hk'
          exact ⟨r,fun j v hv=>by have:=hr1 j v hv;simpa [Addr.add_lit] using this,hr2⟩
    · rename_i fs hu
      simp only [Bool.and_eq_true,beq_iff_eq] at hf
      obtain ⟨xs,m,_,_,hcl,hxl,hat⟩:=DataW.trod_struct hu h
      have key : ∀ (l : List Field) (off i : Nat) (d : Ds) (cs' : List Value), Zl6 P (fits P n) l off d = true → cs'.length = d.size → cs.drop off = cs' → (∀ (j : Nat) (f : Field), l[j]? = some f → fs.toList[i + j]? = some f) →
          ∃ e:El d,Rd w w.heap.size d cs' e:=by
        intro l
        induction l with
        | nil=>intro off i d cs' hg;simp [Zl6] at hg
        | cons f l ih =>
          intro off i d cs' hg hcl' hd hj
          have hfi:fs[i]?=some f:=by have:=hj 0 f rfl;simpa using this
          have hlt:i<xs.length:=by rw [hxl];exact (Array.getElem?_eq_some_iff.1 hfi).1
          have ht:=hat i f hfi
          rw [List.getElem?_eq_getElem hlt] at ht
          cases l with
          | nil =>
            simp only [Zl6,Bool.and_eq_true,beq_iff_eq] at hg
            rw [hg.1.1,hg.1.2,hd,List.take_of_length_le (by omega)] at ht
            exact ZeP n f.type d m cs' _ hg.2 ht
          | cons g l =>
            cases d with
            | pair a b =>
              simp only [Zl6,Bool.and_eq_true,beq_iff_eq] at hg
              obtain ⟨⟨⟨g1,g2⟩,g3⟩,g4⟩:=hg
              rw [g1,g2,hd] at ht
              obtain ⟨e1,he1⟩:=ZeP n f.type a m _ _ g3 ht
              obtain ⟨e2,he2⟩:=ih (off+a.size) (i+1) b (cs'.drop a.size) g4 (by rw [List.length_drop,hcl'];simp [Ds.size]) (by rw [←hd,List.drop_drop]) (fun j f' hf'=>by have:=hj (j+1) f' (by simpa using hf');rw [←this];congr 1;omega)
              exact ⟨(e1,e2),cs'.take a.size,cs'.drop a.size,(List.take_append_drop _ _).symm,he1,he2⟩
            | _=>simp [Zl6] at hg
      exact key fs.toList 0 0 _ cs hf.2 (by rw [hcl,hf.1]) (by simp) (fun j f' hf'=>by simpa using hf')
    · cases hf
theorem rd_arg {d:Ds}{t:TypeId}{v:Value}{x:DataW H}{p:List MemPlace}(hf:fits P 20 t d=true) (h:DataW.Trod enc P w base spare held t v x p) : ∃ e:El d,Rd w w.heap.size d v.cells.toList e:=by
 obtain ⟨fuel,hf'⟩:=h
 exact ZeP 20 t d fuel _ _ hf hf'
end
def avs:(d:Ds)→El d→List AV
 | .int,n=>[iv n]
 | .str,s=>[sv s]
 | .bool,b=>[bv b]
 | .pair a b,p=>avs a p.1++avs b p.2
 | .slice a,l=>[.sl (List.length l) a.size false (rows (avs a) l)]
theorem Zj8 : ∀ (d:Ds) (x:El d),(avs d x).length=d.size
 | .int,_=>rfl
 | .str,_=>rfl
 | .bool,_=>rfl
 | .pair a b,p=>by simp only [avs,List.length_append,Zj8 a,Zj8 b,Ds.size]
 | .slice a,l=>rfl
def okD:(d:Ds)→El d→Prop
 | .int,n => -9223372036854775808≤n∧n≤9223372036854775807
 | .str,s=>ByteArray.size s≤maxLen
 | .bool,_=>True
 | .pair a b,p=>okD a p.1∧okD b p.2
 | .slice a,l => ∀ (k:Nat) (h:k<List.length l),okD a (l[k])
theorem Rd.ok {w:World}{B:Nat} : ∀ {d:Ds}{cs:List Value}{x:El d},Rd w B d cs x→okD d x
 | .int,cs,x,h=>h.2
 | .str,cs,x,h=>h.2
 | .bool,cs,x,h=>trivial
 | .pair a b,cs,x,⟨c1,c2,e,h1,h2⟩=>⟨Rd.ok h1,Rd.ok h2⟩
 | .slice a,cs,x,⟨A,c,e,hl,hm,h0,h⟩=>fun k hk=>by
  obtain ⟨b,off,_,_,hi⟩:=h (by omega)
  obtain ⟨r,_,hr⟩:=hi k hk
  exact Rd.ok hr
theorem RepC.append {w:World}{g:Gh} : ∀ {cs ds:List AV}{b off:Nat},RepC w g cs b off→RepC w g ds b (off+cs.length)→RepC w g (cs++ds) b off
 | [],ds,b,off,_,h=>by simpa using h
 | c::cs,ds,b,off,h,k=>by
  simp only [RepC,List.cons_append] at h ⊢
  refine ⟨h.1,RepC.append h.2 ?_⟩
  rw [show off+1+cs.length=off+(c::cs).length by simp;omega]
  exact k
theorem RepC.of_list {w:World}{g:Gh}{b:Nat} : ∀ {cs:List AV}{us:List Value}{off:Nat},RepL w g cs us→(∀ j v,us[j]?=some v→w.cell? ⟨b,off+j,none⟩=some v)→RepC w g cs b off
 | [],us,off,_,_=>by simp only [RepC]
 | c::cs,us,off,h,k=>by
  simp only [RepL] at h
  obtain ⟨u,us',rfl,h1,h2⟩:=h
  simp only [RepC]
  refine ⟨⟨u,k 0 u rfl,h1⟩,RepC.of_list h2 fun j v hv=>?_⟩
  have:=k (j+1) v (by simpa using hv)
  rw [show off+1+j=off+(j+1) by omega]
  exact this
theorem ZkG {w:World}{B:Nat}{g:Gh}(hg : ∀ k,k<B→g.D k) : ∀ (d:Ds) (cs:List Value) (x:El d),Rd w B d cs x→RepL w g (avs d x) cs
 | .int,cs,x,h=>by rw [h.1];simp only [avs,RepL];exact ⟨_,[],rfl,by simp only [Rep],rfl⟩
 | .str,cs,x,h=>by rw [h.1];simp only [avs,RepL];exact ⟨_,[],rfl,by simp only [Rep],rfl⟩
 | .bool,cs,x,h=>by rw [show cs=_ from h];simp only [avs,RepL];exact ⟨_,[],rfl,by simp only [Rep],rfl⟩
 | .pair a b,cs,x,⟨c1,c2,e,h1,h2⟩=>by rw [e];simp only [avs];exact (ZkG hg a c1 x.1 h1).append (ZkG hg b c2 x.2 h2)
 | .slice a,cs,l,⟨A,c,e,hl,hm,h0,h⟩=>by
  rw [e]
  simp only [avs,RepL]
  refine ⟨_,[],rfl,?_,rfl⟩
  simp only [Rep]
  refine ⟨ZaX (Zj8 a) l,A,c,rfl,hl,hm,fun h=>(by cases h),h0,fun hne=>?_⟩
  have hpos:0<List.length l:=by
   rcases Nat.eq_zero_or_pos (List.length l) with h' | h'
   ·have:l=[]:=List.eq_nil_of_length_eq_zero h'
    subst this;exact absurd rfl hne
   ·exact h'
  obtain ⟨b,off,eA,hb,hi⟩:=h hpos
  refine ⟨b,off,eA,hg b hb,?_⟩
  have key : ∀ (m:List (El a)) (o:Nat),(∀ k (hk:k<m.length),∃ r,(∀ j v,r[j]?=some v→w.cell? ⟨b,o+k*a.size+j,none⟩=some v)∧RepL w g (avs a m[k]) r)→RepC w g (rows (avs a) m) b o:=by
   intro m
   induction m with
   | nil=>intro o _;simp only [rows,List.flatMap_nil,RepC]
   | cons x m ih =>
    intro o hm'
    simp only [rows,List.flatMap_cons]
    obtain ⟨r,hr1,hr2⟩:=hm' 0 (by simp)
    refine RepC.append (RepC.of_list hr2 fun j v hv=>by have:=hr1 j v hv;simpa using this) ?_
    rw [Zj8]
    refine ih (o+a.size) fun k hk=>?_
    obtain ⟨r,hr1,hr2⟩:=hm' (k+1) (by simpa using hk)
    refine ⟨r,fun j v hv=>?_,by simpa using hr2⟩
    have:=hr1 j v hv
    rw [show o+a.size+k*a.size+j=o+(k+1)*a.size+j by rw [Nat.add_mul];omega]
    exact this
  exact key l off fun k hk=>by
   obtain ⟨r,hr1,hr2⟩:=hi k hk
   exact ⟨r,hr1,ZkG hg a r _ hr2⟩
def g0 (w:World):Gh:=⟨fun k=>k<w.heap.size,fun _ _=>none,[]⟩
theorem sim0 (w:World) (hG:GlobW w):SimH w (g0 w) [] :=
 ⟨fun id ver ty s c h=>(by simp at h),fun i j k hi _=>by obtain ⟨_,_,_,_,_,_,h,_⟩:=hi;simp at h,fun k hk=>hk,fun id ver l h=>(by simp [g0] at h),fun id ver l h=>(by simp [g0] at h),⟨hG,hG.lt⟩,fun i k o T vs h=>(by simp at h),fun i j k hi _=>by obtain ⟨_,_,_,h⟩:=hi;simp at h⟩
theorem Zqo {P:Program}{f:FuncId}{args:List AV}(hc:ACalls P f args [] fun x h'=>h'=[]∧x=.ret (bv true)) {w:World}(hG:GlobW w) {vs:Array Value}(hr:RepL w (g0 w) args vs.toList) :
  Calls P f vs w fun e w'=>e=.returned (.bool true)∧Below w.heap.size w w':=by
 refine (hc.2 w (g0 w) vs (sim0 w hG) hr).mono ?_
 rintro e w' ⟨x,h',g',h1,h2,h3,h4,h5,rfl,rfl⟩
 cases e <;> simp only [EndR] at h1
 simp only [Rep] at h1
 refine ⟨by rw [h1],h4.os,h4.tape,h4.output,h4.size,fun k hk=>h4.block k hk ?_⟩
 rintro (⟨i,_,_,_,_,_,_,h,_⟩ | ⟨i,_,_,_,h⟩) <;> simp at h
section
variable {H : Type} {enc : TypeId × Value → H} {P : Program} {w : World} {base : Nat} {spare : Nat → Bool} {held : Bool}
theorem Zi2 (d:Ds) {t:TypeId}{v:Value}{x:DataW H}{p:List MemPlace}{fs:Array Field}{r:Reach}{b:Nat}(ht:P.underlying t=some (.struct fs)) (hf:fits P 20 t d=true) (hv:Value.okWide P w r b t v) (h:DataW.Trod enc P w base spare held t v x p) :
  ∃ e:El d,okD d e∧Rep w (g0 w) (.agg (avs d e)) v:=by
 obtain ⟨e,he⟩:=rd_arg hf h
 obtain ⟨cs,rfl,_⟩:=okWide_struct ht hv
 refine ⟨e,he.ok,?_⟩
 simp only [Rep]
 exact ⟨cs,rfl,ZkG (fun k hk=>hk) d _ e he⟩
theorem ZnF (d:Ds) {t:TypeId}{v:Value}{x:DataW H}{p:List MemPlace}(hf:fits P 20 t d=true) (hv:v.cells = #[v]) (h:DataW.Trod enc P w base spare held t v x p) :
  ∃ e:El d,okD d e∧RepL w (g0 w) (avs d e) [v]:=by
 obtain ⟨e,he⟩:=rd_arg hf h
 refine ⟨e,he.ok,?_⟩
 have:=ZkG (g:=g0 w) (fun k hk=>hk) d _ e he
 rwa [hv] at this
theorem arg_int {t:TypeId}{v:Value}{x:DataW H}{p:List MemPlace}{r:Reach}{b:Nat}(ht:P.underlying t=some (.int .i64)) (hv:Value.okWide P w r b t v) (h:DataW.Trod enc P w base spare held t v x p) :
  ∃ e:Int,(-9223372036854775808≤e∧e≤9223372036854775807)∧Rep w (g0 w) (iv e) v:=by
 obtain ⟨n,rfl⟩:=okWide_int ht hv
 obtain ⟨e,he,hr⟩:=ZnF .int (by simp [fits,ht]) rfl h
 simp only [avs,RepL] at hr
 obtain ⟨u,us,h1,h2,rfl⟩:=hr
 cases h1
 exact ⟨e,he,h2⟩
theorem arg_str {t:TypeId}{v:Value}{x:DataW H}{p:List MemPlace}{r:Reach}{b:Nat}(ht:P.underlying t=some .string) (hv:Value.okWide P w r b t v) (h:DataW.Trod enc P w base spare held t v x p) :
  ∃ e:ByteArray,e.size≤maxLen∧Rep w (g0 w) (sv e) v:=by
 obtain ⟨n,rfl⟩:=okWide_string ht hv
 obtain ⟨e,he,hr⟩:=ZnF .str (by simp [fits,ht]) rfl h
 simp only [avs,RepL] at hr
 obtain ⟨u,us,h1,h2,rfl⟩:=hr
 cases h1
 exact ⟨e,he,h2⟩
end
theorem repL1 {w:World}{g:Gh}{c:AV}{v:Value}{cs:List AV}{vs:List Value}(h:Rep w g c v) (hs:RepL w g cs vs):RepL w g (c::cs) (v::vs):=by simp only [RepL];exact ⟨v,vs,rfl,h,hs⟩
theorem repL0 {w:World}{g:Gh}:RepL w g [] []:=by simp only [RepL]
end Go.Proofs.YtlekejpogddndaaGreatDoor
end
section
namespace Go.Proofs.YtlekejpogddndaaGreatDoor
open Go.Ab Go.RowKit Civ
attribute [local simp] Zbi Zbu Zbk Zbp ZdC Zdz ZdM ZbK
section
theorem Zi6 {a0 a1 a2 c0 c1 c2:AV}{l:List AV}:setCells (a0::a1::a2::l) 0 [c0,c1,c2]=c0::c1::c2::l:=rfl
theorem Zi5 {a0 a1 a2:AV}{l:List AV}:((a0::a1::a2::l).drop 0).take 3=[a0,a1,a2]:=rfl
end
def c63:AC:=(Sr [Oo 0 (.new 26 3 [(.sl 0 0 true []),(.sl 0 0 true []),(.sl 0 0 true [])])] (Sr [Oo 5 (.call (.func 130) [(.const (.string ⟨#[82,117,108,101,32,101,117,32,49,57,56,49,32,109,97,120,32,77,97,114,32,108,97,115,116,83,117,110,32,49,58,48,48,117,32,49,58,48,48,32,83,10,82,117,108,101,32,101,117,32,49,57,57,54,32,109,97,120,32,79,99,116,32,108,97,115,116,83,117,110,32,49,58,48,48,117,32,48,32,45,10,90,111,110,101,32,72,101,114,101,47,84,111,119,110,32,48,58,49,48,32,45,32,76,77,84,32,49,56,56,48,32,74,97,110,32,49,32,48,10,32,32,49,58,48,48,32,101,117,32,67,69,37,115,84,10,76,105,110,107,32,72,101,114,101,47,84,111,119,110,32,79,108,100,10]⟩))]),Mv 4 5,Ex 6 4 0,Ex 7 4 1,Ex 8 4 2,Oo 1 (.new 26 3 [(.sl 0 0 true []),(.sl 0 0 true []),(.sl 0 0 true [])]),⟨none,none,(.store 3 (.tmp 1) (.tmp 6))⟩,Mv 2 7,Mv 3 8] (Sr [Oo 9 (.load true 3 (.tmp 1)),⟨none,none,(.store 3 (.tmp 0) (.tmp 9))⟩] .ret)))
theorem k63:ZaD Tryz.prog 63=some ⟨c63,[(.cell 0 true 3)],10⟩:=by kernel_rfl
def txtS:Bs:=[82,117,108,101,32,101,117,32,49,57,56,49,32,109,97,120,32,77,97,114,32,108,97,115,116,83,117,110,32,49,58,48,48,117,32,49,58,48,48,32,83,10,82,117,108,101,32,101,117,32,49,57,57,54,32,109,97,120,32,79,99,116,32,108,97,115,116,83,117,110,32,49,58,48,48,117,32,48,32,45,10,90,111,110,101,32,72,101,114,101,47,84,111,119,110,32,48,58,49,48,32,45,32,76,77,84,32,49,56,56,48,32,74,97,110,32,49,32,48,10,32,32,49,58,48,48,32,101,117,32,67,69,37,115,84,10,76,105,110,107,32,72,101,114,101,47,84,111,119,110,32,79,108,100,10]
def nEu:ByteArray:=bA [101,117]
def nHt:ByteArray:=bA [72,101,114,101,47,84,111,119,110]
def nOld:ByteArray:=bA [79,108,100]
def rul0:List Rul:=[(nEu,1981,2100,3,(2,0,0),3600,3,3600,bA [83]),(nEu,1996,2100,10,(2,0,0),3600,3,0,bA [])]
def era0:Era:=(600,bA [],0,bA [76,77,84],false,((1880,1,1),0,2))
def era1:Era:=(3600,nEu,0,bA [67,69,37,115,84],true,((0,0,0),0,0))
def src0:Src:=(rul0,[(nHt,[era0,era1])],[(nHt,nOld)])
theorem prs0:ZbA (bA txtS)=(src0,0,0):=by kernel_rfl
theorem Zgj:Zdk src0:=by
 refine ⟨fun r hr=>?_,fun z hz=>?_,fun l hl=>?_⟩
 ·simp only [src0,rul0,List.mem_cons,List.not_mem_nil,or_false] at hr
  rcases hr with rfl | rfl <;> exact ⟨by decide,by decide⟩
 ·simp only [src0,List.mem_cons,List.not_mem_nil,or_false] at hz
  subst hz
  refine ⟨by decide,fun x hx=>?_⟩
  simp only [List.mem_cons,List.not_mem_nil,or_false] at hx
  rcases hx with rfl | rfl <;> exact ⟨by decide,by decide⟩
 simp only [src0,List.mem_cons,List.not_mem_nil,or_false] at hl
 subst hl;exact ⟨by decide,by decide⟩
theorem rp_txt {h:AH}:Ac 130 [sv (bA txtS)] h (.tup [.agg (srcC src0),iv 0,iv 0]):=by
 have:=rparse_a (s:=bA txtS) (h:=h)
 rw [prs0] at this
 exact this
theorem ZeR {h:AH}:Ac 63 [] h (.agg (srcC src0)):=by
 refine tI' k63 fun N hn hlt hlA hbd=>?_
 simp only [tb'] at hbd ⊢
 refine wr'<|E' (Za6 (hl0 hn) ha0) pt<|sn'<|wr'<|Zad mp (rp_txt) pt<|mv' lk pt<|V' (Za3 lk gt) pt<|V' (Za3 lk gt) pt<|V' (Za3 lk gt) pt<|E' (Za6 (hl1 hn) ha1) pt<|E' (Zal lk (cvl lk rfl) (hga hn rfl) rfl (nb' rfl) rfl Zi6 (hs1 hn)) ptn<|?_
 exact mv' lk pt<|mv' lk pt<|sn'<|wr'<|V' (Zaq lk (hga hn rfl) Zi5 rfl) pt<|E' (Zal lk (cvl lk rfl) (hga hn rfl) rfl (nb' rfl) rfl Zi6 (hs0 hn)) ptn<|sn'<|Zaa<|Zaf (rs1 (rr_c gt (hga hn rfl) (ld1 Zi5 rfl)))<|rT' rfl
def insT (t:Trn):List Trn→List Trn
 | []=>[t]
 | u::l=>if t.1≤u.1 then t::u::l else u::insT t l
def insS:List Trn→List Trn
 | []=>[]
 | t::l=>insT t (insS l)
theorem ZhL (t:Trn) : ∀ l:List Trn,(insT t l).Perm (t::l)
 | []=>.refl _
 | u::l=>by
  rw [insT]
  split
  ·exact .refl _
  exact ((ZhL t l).cons u).trans (List.Perm.swap t u l)
theorem ZkY : ∀ l:List Trn,(insS l).Perm l
 | []=>.refl _
 | t::l=>(ZhL t _).trans ((ZkY l).cons t)
theorem Znl {t:Trn} : ∀ {l:List Trn},l.Pairwise (fun a b=>a.1≤b.1)→(insT t l).Pairwise fun a b=>a.1≤b.1
 | [],_=>by simp [insT]
 | u::l,h=>by
  rw [insT]
  rw [List.pairwise_cons] at h
  split
  ·rename_i hle
   refine List.pairwise_cons.2 ⟨fun x hx=>?_,List.pairwise_cons.2 h⟩
   rcases List.mem_cons.1 hx with rfl | hx
   ·exact hle
   have:=h.1 x hx;omega
  rename_i hle
  refine List.pairwise_cons.2 ⟨fun x hx=>?_,Znl h.2⟩
  rcases List.mem_cons.1 ((ZhL t l).mem_iff.1 hx) with rfl | hx
  ·omega
  exact h.1 x hx
theorem Znm : ∀ l:List Trn,(insS l).Pairwise fun a b=>a.1≤b.1
 | []=>.nil
 | t::l=>Znl (Znm l)
def Zix (l:List Rul) (nm:ByteArray) (sh:Int):List Tim×Int :=
 if ZcG l nm sh≠0 then ([],ZcG l nm sh) else if gapB (insS (Za2 l nm))=true then ([],4) else if 1000<(insS (Za2 l nm)).length then ([],2) else (outV sh 0 (insS (Za2 l nm)),0)
theorem Zpq (l:List Rul) (nm:ByteArray) (sh:Int):ZaW l nm sh=Zix l nm sh:=by
 unfold Zix
 by_cases h:ZcG l nm sh=0
 ·rw [if_neg (by simp [h]),ZmU h (ZkY _) (Znm _)]
 rw [if_pos h,Zkr h]
theorem tim0_err:(Zix rul0 nEu 3600).2=0:=by kernel_rfl
theorem chk0:Zb5 src0=0:=by
 have h1:ZbG src0=0:=by kernel_rfl
 have h2:(ZcX src0.2.1 src0.2.2).Nodup:=by decide
 have h3:Zij src0=false:=by kernel_rfl
 have h4:Za0 (errX src0.1) (ZcL src0.2.1)=0:=by
  refine Zl7 fun y hy=>?_
  simp only [src0,ZcL,List.flatMap_cons,List.flatMap_nil,List.append_nil,List.mem_cons,List.not_mem_nil,or_false] at hy
  rcases hy with rfl | rfl
  ·rfl
  show (if nEu=⟨#[]⟩ then 0 else (ZaW rul0 nEu 3600).2)=0
  rw [Zpq,tim0_err];split <;> rfl
 have h5:(src0.2.1.any fun z=>!risL (ZbY z.2))=false:=by kernel_rfl
 unfold Zb5
 rw [if_neg (by simp [h1]),if_neg (by simpa using h2),if_neg (by simp [h3]),if_neg (by simp [h4]),if_neg (by simp [h5])]
end Go.Proofs.YtlekejpogddndaaGreatDoor
end
section
namespace Go.Proofs.YtlekejpogddndaaGreatDoor
open Go.Ab Go.RowKit Civ
attribute [local simp] Zbi Zbu Zbk Zbp ZdC Zdz ZdM ZbK
section
theorem Zh0 {a0 b0:Int}{a1 b1:Int}{a2 b2:ByteArray}:ZbH [.int,.int,.str] [iv a0,iv a1,sv a2] [iv b0,iv b1,sv b2]=some (decide (a0=b0∧a1=b1∧a2=b2)):=by
 simp only [ZbH,ZeC,if_true,ZdV,Option.some.injEq]
 simp only [Bool.decide_and,Bool.and_true]
 try (congr 1 <;> simp)
 try rfl
theorem Zor {a0 a1 c0 c1:AV}{l:List AV}:setCells (a0::a1::l) 0 [c0,c1]=c0::c1::l:=rfl
theorem ZgH {a0 a1 a2 c0 c1 c2:AV}{l:List AV}:setCells (a0::a1::a2::l) 0 [c0,c1,c2]=c0::c1::c2::l:=rfl
theorem Zi4 {a0 a1 a2:AV}{l:List AV}:((a0::a1::a2::l).drop 0).take 3=[a0,a1,a2]:=rfl
theorem ZgG {τ:Operand→AV}{y0 y1 y2:Operand}{x0_0 x1_0 x2_0:AV}(h0:Zav (τ y0)=some [x0_0]) (l0:[x0_0].all leaf=true) (h1:Zav (τ y1)=some [x1_0]) (l1:[x1_0].all leaf=true) (h2:Zav (τ y2)=some [x2_0]) (l2:[x2_0].all leaf=true):Zat τ [(0,1,y0),(1,1,y1),(2,1,y2)] [(.v (.int .i64 0)),(.v (.int .i64 0)),(.v (.string ⟨#[]⟩))]=some [x0_0,x1_0,x2_0]:=by
 simp only [Zat,h0,l0,h1,l1,h2,l2]
 rfl
theorem ZgF {τ:Operand→AV}{y0 y1:Operand}{x0_0 x1_0:AV}(h0:Zav (τ y0)=some [x0_0]) (l0:[x0_0].all leaf=true) (h1:Zav (τ y1)=some [x1_0]) (l1:[x1_0].all leaf=true):Zat τ [(0,1,y0),(2,1,y1)] [(.v (.int .i64 0)),(.v (.int .i64 0)),(.v (.string ⟨#[]⟩))]=some [x0_0,(.v (.int .i64 0)),x1_0]:=by
 simp only [Zat,h0,l0,h1,l1]
 rfl
end
def c15:AC:=(Sr [Mb 0 false] (Sr [Cl 12 63 [],Oo 13 (.call (.func 30) [(.tmp 12),(.const (.string ⟨#[79,108,100]⟩))]),Mv 11 13,Ex 14 11 0,Ex 15 11 1,Oo 1 (.new 53 2 [Ss,(.sl 0 0 true [])]),⟨none,none,(.store 2 (.tmp 1) (.tmp 14))⟩,Mv 2 15] (Sr [Cl 17 63 [],Oo 18 (.call (.func 64) [(.tmp 17),(.const (.string ⟨#[72,101,114,101,47,84,111,119,110]⟩))]),Mv 16 18,Ex 19 16 0,Ex 20 16 1,Mv 3 19,Mv 4 20] (Sr [Cl 22 63 [],Oo 23 (.call (.func 16) [(.tmp 22),(.const (.string ⟨#[79,108,100]⟩)),(Ci 1585443600)]),Mv 21 23,Ex 24 21 0,Ex 25 21 1,Oo 5 (.new 29 3 [(iv 0),(iv 0),Ss]),⟨none,none,(.store 3 (.tmp 5) (.tmp 24))⟩,Mv 6 25] (Sr [Cl 27 63 [],Oo 28 (.call (.func 16) [(.tmp 27),(.const (.string ⟨#[79,108,100]⟩)),(Ci 1585443599)]),Mv 26 28,Ex 29 26 0,Ex 30 26 1,Oo 7 (.new 29 3 [(iv 0),(iv 0),Ss]),⟨none,none,(.store 3 (.tmp 7) (.tmp 29))⟩,Mv 8 30] (Sr [Cl 32 63 [],Oo 33 (.call (.func 16) [(.tmp 32),(.const (.string ⟨#[78,101,119]⟩)),(Ci 0)]),Mv 31 33,Ex 34 31 0,Ex 35 31 1,Oo 9 (.new 29 3 [(iv 0),(iv 0),Ss]),⟨none,none,(.store 3 (.tmp 9) (.tmp 34))⟩,Mv 10 35] (Sr [Cl 36 63 [],Cl 37 65 [(.tmp 36)],Bc 38 .eql 37 0,Mv 39 38,Ot 40 39 (mt 2),Ot 41 39 (.bin .eql (.tmp 40) (Ci 0)),Oo 42 (.pick (.tmp 39) (.tmp 41) (.const (.bool false))),Mv 43 42,Ot 44 43 (mt 4),Ot 45 43 (.bin .eql (.tmp 44) (Ci 0)),Oo 46 (.pick (.tmp 43) (.tmp 45) (.const (.bool false))),Mv 47 46,Ot 48 47 (mt 6),Ot 49 47 (.bin .eql (.tmp 48) (Ci 0)),Oo 50 (.pick (.tmp 47) (.tmp 49) (.const (.bool false))),Mv 51 50,Ot 52 51 (mt 8),Ot 53 51 (.bin .eql (.tmp 52) (Ci 0)),Oo 54 (.pick (.tmp 51) (.tmp 53) (.const (.bool false))),Mv 55 54,Ot 56 55 (mt 10),Ot 57 55 (.bin .eql (.tmp 56) (Ci 5)),Oo 58 (.pick (.tmp 55) (.tmp 57) (.const (.bool false))),Mv 59 58,Ot 60 59 (.fa 0 (.tmp 1)),Ot 61 59 (.load false 1 (.tmp 60)),Ot 62 59 (.bin .eql (.tmp 61) (.const (.string ⟨#[72,101,114,101,47,84,111,119,110]⟩))),Oo 63 (.pick (.tmp 59) (.tmp 62) (.const (.bool false))),Mv 64 63,Ot 65 64 (mt 3),Ot 66 64 (.len false (.tmp 65)),Ot 67 64 (.bin .eql (.tmp 66) (Ci 1)),Oo 68 (.pick (.tmp 64) (.tmp 67) (.const (.bool false))),Mv 69 68,Ot 70 69 (mt 3),Ot 71 69 (.ia 1 (.tmp 70) (Ci 0)),Ot 72 69 (.load false 1 (.tmp 71)),Ot 73 69 (.bin .eql (.tmp 72) (.const (.int .i64 (-2840141400)))),Oo 74 (.pick (.tmp 69) (.tmp 73) (.const (.bool false))),Mv 75 74,Ot 76 75 (.load true 3 (.tmp 5)),Ot 77 75 (.build [(iv 0),(iv 0),Ss] [(0,(1,(Ci 7200))),(1,(1,(Ci 3600))),(2,(1,(.const (.string ⟨#[67,69,83,84]⟩))))]),Ot 78 75 (.eqs false [.int,.int,.str] (.tmp 76) (.tmp 77)),Oo 79 (.pick (.tmp 75) (.tmp 78) (.const (.bool false))),Mv 80 79,Ot 81 80 (.load true 3 (.tmp 7)),Ot 82 80 (.build [(iv 0),(iv 0),Ss] [(0,(1,(Ci 3600))),(2,(1,(.const (.string ⟨#[67,69,84]⟩))))]),Ot 83 80 (.eqs false [.int,.int,.str] (.tmp 81) (.tmp 82)),Oo 84 (.pick (.tmp 80) (.tmp 83) (.const (.bool false))),Mv 0 84] .ret)))))))
theorem k15:ZaD Tryz.prog 15=some ⟨c15,[(.tmp 0)],85⟩:=by kernel_rfl
theorem find0:ZbT src0 nOld=((nHt,[era0,era1]),0):=by
 unfold ZbT;rw [if_neg (by simp [chk0])];kernel_rfl
theorem find1:ZbT src0 nHt=((nHt,[era0,era1]),0):=by
 unfold ZbT;rw [if_neg (by simp [chk0])];kernel_rfl
theorem find2:ZbT src0 (bA [78,101,119])=(zonO,5):=by
 unfold ZbT;rw [if_neg (by simp [chk0])];kernel_rfl
theorem told0 {n:Int}(h:endV era0≤n):ZcA rul0 [era0,era1] n=locV era1 (ZdU 0 ⟨#[]⟩ (Zix rul0 nEu 3600).1 n).1 (ZdU 0 ⟨#[]⟩ (Zix rul0 nEu 3600).1 n).2:=by
 rw [ZcA,if_pos h,ZcA]
 unfold Zet
 have:Zbn rul0 era1=(Zix rul0 nEu 3600).1:=by
  unfold Zbn
  rw [if_neg (by decide),Zpq];rfl
 rw [this];rfl
theorem at0:atV src0 nOld 1585443600=((7200,3600,bA [67,69,83,84]),0):=by
 unfold atV
 rw [find0]
 simp only [ne_eq,not_true_eq_false,if_false]
 rw [if_neg (by decide)]
 show (ZcA rul0 [era0,era1] 1585443600,(0:Int))=_
 rw [told0 (by decide)]
 kernel_rfl
theorem at1:atV src0 nOld 1585443599=((3600,0,bA [67,69,84]),0):=by
 unfold atV
 rw [find0]
 simp only [ne_eq,not_true_eq_false,if_false]
 rw [if_neg (by decide)]
 show (ZcA rul0 [era0,era1] 1585443599,(0:Int))=_
 rw [told0 (by decide)]
 kernel_rfl
theorem at2:atV src0 (bA [78,101,119]) 0=(locZ,5):=by
 unfold atV
 rw [find2];rfl
theorem zf0 {h:AH}:Ac 30 [.agg (srcC src0),sv nOld] h (.tup [.agg (zonC (nHt,[era0,era1])),iv 0]):=by
 have:=zfind_a (a:=src0.1) (z:=src0.2.1) (k:=src0.2.2) (nm:=nOld) (h:=h) Zgj
 rw [show (src0.1,src0.2.1,src0.2.2)=src0 from rfl,find0] at this
 exact this
theorem ze0 {h:AH}:Ac 64 [.agg (srcC src0),sv nHt] h (.tup [.sl 1 1 false (rows intC [-2840141400]),iv 0]):=by
 have:=zends_a (a:=src0.1) (z:=src0.2.1) (k:=src0.2.2) (nm:=nHt) (h:=h) Zgj
 rw [show (src0.1,src0.2.1,src0.2.2)=src0 from rfl,find1,show ZbY ((nHt,[era0,era1]),(0:Int)).1.2=[-2840141400] from by kernel_rfl] at this
 exact this
theorem za0 {h:AH}:Ac 16 [.agg (srcC src0),sv nOld,iv 1585443600] h (.tup [.agg (locC3 (7200,3600,bA [67,69,83,84])),iv 0]):=by
 have:=at_a (a:=src0.1) (z:=src0.2.1) (k:=src0.2.2) (nm:=nOld) (n:=1585443600) (h:=h) Zgj
 rw [show (src0.1,src0.2.1,src0.2.2)=src0 from rfl,at0] at this
 exact this
theorem za1 {h:AH}:Ac 16 [.agg (srcC src0),sv nOld,iv 1585443599] h (.tup [.agg (locC3 (3600,0,bA [67,69,84])),iv 0]):=by
 have:=at_a (a:=src0.1) (z:=src0.2.1) (k:=src0.2.2) (nm:=nOld) (n:=1585443599) (h:=h) Zgj
 rw [show (src0.1,src0.2.1,src0.2.2)=src0 from rfl,at1] at this
 exact this
theorem za2 {h:AH}:Ac 16 [.agg (srcC src0),sv (bA [78,101,119]),iv 0] h (.tup [.agg (locC3 locZ),iv 5]):=by
 have:=at_a (a:=src0.1) (z:=src0.2.1) (k:=src0.2.2) (nm:=bA [78,101,119]) (n:=0) (h:=h) Zgj
 rw [show (src0.1,src0.2.1,src0.2.2)=src0 from rfl,at2] at this
 exact this
theorem zc0 {h:AH}:Ac 65 [.agg (srcC src0)] h (iv 0):=by
 have:=ZmI (a:=src0.1) (z:=src0.2.1) (k:=src0.2.2) (h:=h) Zgj
 rw [show (src0.1,src0.2.1,src0.2.2)=src0 from rfl,chk0] at this
 exact this
theorem zbegun_a {h:AH}:Ac 15 [] h (bv true):=by
 refine tI' k15 fun N hn hlt hlA hbd=>?_
 simp only [tb'] at hbd ⊢
 refine wr'<|mv' lkb pt<|sn'<|wr'<|Zad mp0 (ZeR) pt<|Zad mp (zf0) pt<|mv' lk pt<|V' (Za3 lk gt) pt<|V' (Za3 lk gt) pt<|E' (Za6 (hl0 hn) ha0) pt<|E' (Zal lk (cvl lk rfl) (hga hn rfl) rfl (nb' rfl) rfl Zor (hs0 hn)) ptn<|?_
 refine mv' lk pt<|sn'<|wr'<|Zad mp0 (ZeR) pt<|Zad mp (ze0) pt<|mv' lk pt<|V' (Za3 lk gt) pt<|V' (Za3 lk gt) pt<|mv' lk pt<|mv' lk pt<|sn'<|?_
 refine wr'<|Zad mp0 (ZeR) pt<|Zad mp (za0) pt<|mv' lk pt<|V' (Za3 lk gt) pt<|V' (Za3 lk gt) pt<|E' (Za6 (hl1 hn) ha1) pt<|E' (Zal lk (cvl lk rfl) (hga hn rfl) rfl (nb' rfl) rfl ZgH (hs1 hn)) ptn<|mv' lk pt<|sn'<|wr'<|?_
 refine Zad mp0 (ZeR) pt<|Zad mp (za1) pt<|mv' lk pt<|V' (Za3 lk gt) pt<|V' (Za3 lk gt) pt<|E' (Za6 (hl2 hn) ha2) pt<|E' (Zal lk (cvl lk rfl) (hga hn rfl) rfl (nb' rfl) rfl ZgH (hs2 hn)) ptn<|mv' lk pt<|sn'<|wr'<|Zad mp0 (ZeR) pt<|Zad mp (za2) pt<|?_
 refine mv' lk pt<|V' (Za3 lk gt) pt<|V' (Za3 lk gt) pt<|E' (Za6 (hl3 hn) ha3) pt<|E' (Zal lk (cvl lk rfl) (hga hn rfl) rfl (nb' rfl) rfl ZgH (hs3 hn)) ptn<|mv' lk pt<|sn'<|wr'<|Zad mp0 (ZeR) pt<|Zad mp (zc0) pt<|V' (ZaT lk lki) pt<|mv' lk pt<|?_
 refine ZdI (t:=39) gt (b:=true) (by rfl) pt ?_
 refine s_do gt<|mv' lk pt<|s_do gt<|V' (ZaT lk lki) pt<|V' (Zak lk lk) pt<|mv' lk pt<|?_
 refine ZdI (t:=43) gt (b:=true) (by rfl) pt ?_
 refine s_do gt<|mv' lk pt<|s_do gt<|V' (ZaT lk lki) pt<|V' (Zak lk lk) pt<|mv' lk pt<|?_
 refine ZdI (t:=47) gt (b:=true) (by rfl) pt ?_
 refine s_do gt<|mv' lk pt<|s_do gt<|V' (ZaT lk lki) pt<|V' (Zak lk lk) pt<|mv' lk pt<|?_
 refine ZdI (t:=51) gt (b:=true) (by rfl) pt ?_
 refine s_do gt<|mv' lk pt<|s_do gt<|V' (ZaT lk lki) pt<|V' (Zak lk lk) pt<|mv' lk pt<|?_
 refine ZdI (t:=55) gt (b:=true) (by rfl) pt ?_
 refine s_do gt<|mv' lk pt<|s_do gt<|V' (ZaT lk lki) pt<|V' (Zak lk lk) pt<|mv' lk pt<|?_
 refine ZdI (t:=59) gt (b:=true) (by rfl) pt ?_
 refine s_do gt<|V' (Zac lk) pt<|s_do gt<|V' (Zab lk (hga hn rfl) gt0) pt<|s_do gt<|V' (Zcj lk lks) pt<|V' (Zak lk lk) pt<|mv' lk pt<|?_
 refine ZdI (t:=64) gt (b:=true) (by rfl) pt ?_
 refine s_do gt<|mv' lk pt<|s_do gt<|V' (ZaP lk) pt<|s_do gt<|V' (ZaT lk lki) pt<|V' (Zak lk lk) pt<|mv' lk pt<|?_
 refine ZdI (t:=69) gt (b:=true) (by rfl) pt ?_
 refine s_do gt<|mv' lk pt<|s_do gt<|?_
 refine V' (ZaY (k:=0) lk lki ZdA (nb' rfl) (by first | rfl | first | omega | decide) (by first | omega | decide) ro rfl) pt ?_
 refine s_do gt<|V' (ZaB lk gt) pt<|s_do gt<|V' (ZaT lk lki) pt<|V' (Zak lk lk) pt<|mv' lk pt<|?_
 refine ZdI (t:=75) gt (b:=true) (by rfl) pt ?_
 refine s_do gt<|V' (Zaq lk (hga hn rfl) Zi4 rfl) pt<|s_do gt<|V' (Zax (ZgG (cvl lki rfl) rfl (cvl lki rfl) rfl (cvl lks rfl) rfl)) pt<|s_do gt<|V' (Zko lk lk Zh0) pt<|V' (Zak lk lk) pt<|mv' lk pt<|?_
 refine ZdI (t:=80) gt (b:=true) (by rfl) pt ?_
 exact s_do gt<|V' (Zaq lk (hga hn rfl) Zi4 rfl) pt<|s_do gt<|V' (Zax (ZgF (cvl lki rfl) rfl (cvl lks rfl) rfl)) pt<|s_do gt<|V' (Zko lk lk Zh0) pt<|V' (Zak lk lk) pt<|mv' lk pt<|sn'<|Zaa<|Zaf rz<|rT' rfl
end Go.Proofs.YtlekejpogddndaaGreatDoor
end
section
namespace Go.Proofs.YtlekejpogddndaaGreatDoor
open Go.Ab Go.RowKit Civ
abbrev RulD:Ds:=.pair .str (.pair .int (.pair .int (.pair .int (.pair (.pair .int (.pair .int .int)) (.pair .int (.pair .int (.pair .int .str)))))))
abbrev EraD:Ds:=.pair .int (.pair .str (.pair .int (.pair .str (.pair .bool (.pair (.pair .int (.pair .int .int)) (.pair .int .int))))))
abbrev ZonD:Ds:=.pair .str (.slice EraD)
abbrev LnkD:Ds:=.pair .str .str
abbrev SrcDs:Ds:=.pair (.slice RulD) (.pair (.slice ZonD) (.slice LnkD))
theorem Zm8 {s:Src}(h:okD SrcDs s):Zdk s:=by
 obtain ⟨h1,h2,h3⟩:=h
 refine ⟨fun r hr=>?_,fun z hz=>?_,fun l hl=>?_⟩
 ·obtain ⟨i,hi,rfl⟩:=List.getElem_of_mem hr
  have:=h1 i hi
  exact ⟨this.1,this.2.2.2.2.2.2.2.2⟩
 ·obtain ⟨i,hi,rfl⟩:=List.getElem_of_mem hz
  have:=h2 i hi
  refine ⟨this.1,fun x hx=>?_⟩
  obtain ⟨j,hj,rfl⟩:=List.getElem_of_mem hx
  have:=this.2 j hj
  exact ⟨this.2.1,this.2.2.2.1⟩
 ·obtain ⟨i,hi,rfl⟩:=List.getElem_of_mem hl
  exact h3 i hi
end Go.Proofs.YtlekejpogddndaaGreatDoor
end
section
namespace Go
variable {H : Type} {enc : TypeId × Value → H}
theorem Zl2 {a:Assume}{C:Checked}{os:Os}{f:FuncId}{fn:Func}{s:ChangeSpec}{apart fresh handsOn again:Bool}{laid:List (String×DataW Unit)}
  (own:ownKnob C.prog.godebug=none) (started:os.Started) (noInit:C.prog.inits.idxOf? f=none) (hfn:C.prog.funcs[f]?=some fn)
  (witness : ∃ (w:World) (tape:Tape) (i:Input),w.os=os∧(w.forCall tape i).Shaped C.prog∧i.vars=[]∧Input.okWide C.prog (w.forCall tape i) .any w.heap.size f i ∧
   ((s.pre enc C.prog fn [] apart (w.forCall tape i).memory i.args∧laidMetH C.prog laid (w.forCall tape i).memory)∧sizedMet enc C.prog fn (OpenSpec.ofChange s) apart (w.forCall tape i).memory i.args)∧a.holds C.prog (lone (Frame.enter C.prog f i.args .normal) [] (w.forCall tape i)))
  (contract : ∀ (W:World) (base:Nat) (args:Array Value) (ds gs:List (DataW H)) (before:List MemPlace),
   (∀ (j:Nat) t v,fn.params[j]?=some t→args[j]?=some v→Value.okWide C.prog W .any base t v) →
   DataW.Whole enc C.prog fn.params.toList s.vars apart W args.toList ds gs before →
   (DataW.weightsEach C.prog (fn.params.toList++s.plain.varTypes C.prog) (ds++gs)).all (· ≤ reachBytes)=true →
   laidMetH C.prog laid W→W.ShapedOpen C.prog →
   Calls C.prog f args W fun e W' => ∃ v,e=.returned v∧s.post enc C.prog fn apart fresh handsOn again W args v W') :
  ReturnsInHanded a C os f .any (fun w args=>(s.pre enc C.prog fn [] apart w args∧laidMetH C.prog laid w)∧sizedMet enc C.prog fn (OpenSpec.ofChange s) apart w args) (s.post enc C.prog fn apart fresh handsOn again):=by
 refine returnsInHanded_of_calls own started noInit witness ?_
 intro w tape i _ hsh _ hok hpre hholds
 obtain ⟨_,_,_,fn',hfn',_,_,_,_,hval⟩:=hok
 have e:fn'=fn:=Option.some.inj (hfn'.symm.trans hfn)
 subst e
 obtain ⟨⟨⟨ds,gs,before,hw,hc⟩,hx⟩,hz⟩:=hpre
 have hw':=DataW.Whole.of_heap (w':=w.forCall tape i) (by rfl) hw
 refine (contract (w.forCall tape i) w.heap.size i.args ds gs before hval hw' (hz.weights hw) (hx.of_heap (by rfl)) hsh).mono fun e W' ⟨v,he,hp⟩=>?_
 subst he
 exact ChangeSpec.post_blind hp
end Go
namespace Go.Proofs.YtlekejpogddndaaGreatDoor
open Go.ChangeShapes Go.WideShapes Go.ChangeAt Go.RowKit Go.Ab
def LaidOk (l:List (String×DataW Unit)):Prop:=l.length=l.length
theorem globW {W:World}{l:List (String×DataW Unit)}(hsh:W.ShapedOpen Tryz.prog) (hL:laidMetH Tryz.prog l W) (hl:LaidOk l):GlobW W where
 tt:=trivial
 maxLen:=cell_of_shapedOpen_int (t:=3) (zero := #[.int .i64 0]) hsh (of_decide_eq_true (by kernel_rfl)) (by kernel_rfl) rfl (by kernel_rfl) (by kernel_rfl) Tryz.underlying3
end Go.Proofs.YtlekejpogddndaaGreatDoor
end
section
namespace Go.Proofs.YtlekejpogddndaaGreatDoor.zoneLink
open Go.ChangeShapes Go.WideShapes Go.ChangeAt Go.RowKit Go.Ab Civ
attribute [local simp] Zbi Zbu Zbk Zbp ZbK Zdz ZdM
theorem ZkP : ∀ {k:List Lnk},(k.map (·.2)).Nodup → ∀ x∈k,∀ y∈k,x.2=y.2→x=y
 | [],_,x,hx,_,_,_=>by cases hx
 | u::k,h,x,hx,y,hy,e=>by
  rw [List.map_cons,List.nodup_cons] at h
  rcases List.mem_cons.1 hx with hx1 | hx <;> rcases List.mem_cons.1 hy with hy1 | hy
  ·exact hx1.trans hy1.symm
  ·exact absurd (List.mem_map.2 ⟨y,hy,by rw [←hx1];exact e.symm⟩) h.1
  ·exact absurd (List.mem_map.2 ⟨x,hx,by rw [←hy1];exact e⟩) h.1
  exact ZkP h.2 x hx y hy e
theorem Zps {s:Src}{l:Lnk}(hn:(s.2.2.map (·.2)).Nodup) (hl:l∈s.2.2):tgtV s l.2=l.1:=by
 have hlt:s.2.2.findIdx (fun x=>decide (x.2=l.2))<s.2.2.length:=List.findIdx_lt_length_of_exists ⟨l,hl,by simp⟩
 have h1:s.2.2[s.2.2.findIdx fun x=>decide (x.2=l.2)].2=l.2:=by simpa using List.findIdx_getElem (w:=hlt)
 have h2:=ZkP hn _ (List.getElem_mem hlt) l hl h1
 unfold tgtV
 rw [List.getElem?_eq_getElem hlt]
 exact congrArg (·.1) h2
theorem ZmX {s:Src}{nm:ByteArray}(h:nm ∉ s.2.2.map (·.2)):tgtV s nm=nm:=by
 have hlt:¬s.2.2.findIdx (fun x=>decide (x.2=nm))<s.2.2.length:=fun hlt=>h (List.mem_map.2 ⟨_,List.getElem_mem hlt,by simpa using List.findIdx_getElem (w:=hlt)⟩)
 unfold tgtV
 rw [List.getElem?_eq_none (Nat.le_of_not_lt hlt)]
end Go.Proofs.YtlekejpogddndaaGreatDoor.zoneLink
end
section
namespace Go.Proofs.YtlekejpogddndaaGreatDoor.zoneOther
open Go.ChangeShapes Go.WideShapes Go.ChangeAt Go.RowKit Go.Ab Civ zoneLink
attribute [local simp] Zbi Zbu Zbk Zbp ZbK Zdz ZdM
section
theorem ZdZ {a0 a1 a2:AV}{l:List AV}:((a0::a1::a2::l).drop 0).take 3=[a0,a1,a2]:=rfl
theorem Zgz {a0 a1 a2 c0 c1 c2:AV}{l:List AV}:setCells (a0::a1::a2::l) 0 [c0,c1,c2]=c0::c1::c2::l:=rfl
theorem ZgE {τ:Operand→AV}:Zat τ [] [(.v (.int .i64 0)),(.v (.int .i64 0)),(.v (.string ⟨#[]⟩))]=some [(.v (.int .i64 0)),(.v (.int .i64 0)),(.v (.string ⟨#[]⟩))]:=rfl
theorem ZhZ {a0 b0:Int}{a1 b1:Int}{a2 b2:ByteArray}:ZbH [.int,.int,.str] [iv a0,iv a1,sv a2] [iv b0,iv b1,sv b2]=some (decide (a0=b0∧a1=b1∧a2=b2)):=by
 simp only [ZbH,ZeC,if_true,ZdV,Option.some.injEq]
 simp only [Bool.decide_and,Bool.and_true]
 try (congr 1 <;> simp)
 try rfl
theorem ZgD {τ:Operand→AV}:Zat τ [] []=some []:=rfl
theorem ZgC {τ:Operand→AV}:Zat τ [] []=some []:=rfl
theorem ZgB {τ:Operand→AV}:Zat τ [] []=some []:=rfl
theorem ZgA {τ:Operand→AV}{y0 y1 y2:Operand}{x0_0 x1_0 x2_0:AV}(h0:Zav (τ y0)=some [x0_0]) (l0:[x0_0].all leaf=true) (h1:Zav (τ y1)=some [x1_0]) (l1:[x1_0].all leaf=true) (h2:Zav (τ y2)=some [x2_0]) (l2:[x2_0].all leaf=true):Zat τ [(0,1,y0),(1,1,y1),(2,1,y2)] [(.sl 0 0 true []),(.sl 0 0 true []),(.sl 0 0 true [])]=some [x0_0,x1_0,x2_0]:=by
 simp only [Zat,h0,l0,h1,l1,h2,l2]
 rfl
end
def c3:AC:=(Sr [Oo 4 (.box 26 3 (.tmp 0)),Oo 5 (.box 26 3 (.tmp 1)),Mb 8 false] (.seq (Sr [Cl 15 15 [],Oo 16 (.un .not (.tmp 15))] (Cd 16 (Sr [Mb 8 false] .ret) .skip)) (Sr [Oo 18 (.load true 3 (.tmp 4)),Mv 19 2,Mv 20 3,Cl 21 16 [(.tmp 18),(.tmp 19),(.tmp 20)],Mv 17 21,Ex 22 17 0,Ex 23 17 1,Oo 9 (.new 29 3 [(iv 0),(iv 0),Ss]),⟨none,none,(.store 3 (.tmp 9) (.tmp 22))⟩,Mv 10 23] (.seq (Sr [Mv 24 10,Bc 25 .neq 24 0] (Cd 25 (Sr [Oo 26 (.load true 3 (.tmp 9)),Oo 27 (.build [(iv 0),(iv 0),Ss] []),Oo 28 (.eqs false [.int,.int,.str] (.tmp 26) (.tmp 27)),Mv 8 28] .ret) .skip)) (.seq (.drwU [[],[0],[0],[],[0,1,2,3],[0,1,2,3],[],[0,1,2,3,4,5,6],[0,1,2,3,4,5,6,7],[0,1,2,3,4,5,6,7],[],[0,1,2,3,4,5,6,7,8,9,10],[0,1,2,3,4,5,6,7,8,9,10],[],[0,1,2,3,4,5,6,7,8,9,10,11,12,13],[0,1,2,3,4,5,6,7,8,9,10,11,12,13,14],[0,1,2,3,4,5,6,7,8,9,10,11,12,13,14],[],[0,1,2,3,4,5,6,7,8,9,10,11,12,13,14,15,16,17],[0,1,2,3,4,5,6,7,8,9,10,11,12,13,14,15,16,17],[],[],[0,1,2,3,4,5,6,7,8,9,10,11,12,13,14,15,16,17,18,19,20,21],[]] [Oo 29 (.lit 36 11 0 [] []),Fa 30 0 4,Ld 31 30,Oo 32 (.app 36 11 104 (.tmp 29) (.tmp 31)),Fa 33 0 5,Ld 34 33,Oo 35 (.app 36 11 104 (.tmp 32) (.tmp 34)),Oo 36 (.lit 53 2 0 [] []),Fa 37 1 5,Ld 38 37,Oo 39 (.app 53 2 40 (.tmp 36) (.tmp 38)),Fa 40 1 4,Ld 41 40,Oo 42 (.app 53 2 40 (.tmp 39) (.tmp 41)),Oo 43 (.lit 129 2 0 [] []),Fa 44 2 4,Ld 45 44,Oo 46 (.app 129 2 32 (.tmp 43) (.tmp 45)),Fa 47 2 5,Ld 48 47,Oo 49 (.app 129 2 32 (.tmp 46) (.tmp 48)),Oo 50 (.build [(.sl 0 0 true []),(.sl 0 0 true []),(.sl 0 0 true [])] [(0,(1,(.tmp 35))),(1,(1,(.tmp 42))),(2,(1,(.tmp 49)))]),Oo 11 (.new 26 3 [(.sl 0 0 true []),(.sl 0 0 true []),(.sl 0 0 true [])]),⟨none,none,(.store 3 (.tmp 11) (.tmp 50))⟩]) (.seq (Sr [Mc 12 0] (.block 0 (.loop (.seq (Sr [Mv 51 12,Fa 52 0 5,Ld 53 52,Oo 54 (.len false (.tmp 53)),Bn 55 .lss 51 54] (Cd 55 .skip (.exit 0))) (.seq (.block 1 (Sr [Mc 13 0] (.block 2 (.loop (.seq (Sr [Mv 58 13,Fa 59 0 4,Ld 60 59,Oo 61 (.len false (.tmp 60)),Bn 62 .lss 58 61] (Cd 62 .skip (.exit 2))) (.seq (.block 3 (Sd [Fa 65 0 4,Ld 66 65,Mv 67 13,Oo 68 (.ia 11 (.tmp 66) (.tmp 67)),Fa 69 0 68,Ld 70 69,Fa 71 0 5,Ld 72 71,Mv 73 12,Oo 74 (.ia 11 (.tmp 72) (.tmp 73)),Fa 75 0 74,Ld 76 75,Bn 77 .eql 70 76] (Cd 77 (Sr [Mb 8 true] .ret) .skip))) (.reg [Mv 63 13,Bc 64 .add 63 1,Mv 13 64]))))))) (.reg [Mv 56 12,Bc 57 .add 56 1,Mv 12 57])))))) (Sr [Oo 79 (.load true 3 (.tmp 11)),Mv 80 2,Mv 81 3,Cl 82 16 [(.tmp 79),(.tmp 80),(.tmp 81)],Mv 78 82,Ex 83 78 0,Ex 84 78 1,Oo 14 (.new 29 3 [(iv 0),(iv 0),Ss]),⟨none,none,(.store 3 (.tmp 14) (.tmp 83))⟩,Mv 10 84] (Sr [Mv 85 10,Bc 86 .neq 85 0,Mv 87 86,Of 88 87 (.load true 3 (.tmp 9)),Of 89 87 (.load true 3 (.tmp 14)),Of 90 87 (.eqs false [.int,.int,.str] (.tmp 88) (.tmp 89)),Oo 91 (.pick (.tmp 87) (.const (.bool true)) (.tmp 90)),Mv 8 91] .ret))))))))
theorem k3:ZaD Tryz.prog 3=some ⟨c3,[(.tmp 8)],92⟩:=by kernel_rfl
theorem ZmT {l:List Rul}{nm:ByteArray}{sh:Int}(h:(ZaW l nm sh).2=0):(ZaW l nm sh).1=outV sh 0 (srtT (Za2 l nm))∧ZcG l nm sh=0:=by
 unfold ZaW at h ⊢
 split at h
 ·rename_i h1;exact absurd h h1
 rename_i h1
 rw [if_neg h1]
 split at h
 ·cases h
 rename_i h2
 rw [if_neg h2]
 split at h
 ·cases h
 rename_i h3
 rw [if_neg h3]
 exact ⟨rfl,Decidable.of_not_not h1⟩
theorem ZpQ {l:List Rul}{nm:ByteArray}{sh:Int}(h:ZcG l nm sh=0) : ∃ r∈l,r.1=nm:=by
 unfold ZcG at h
 split at h
 ·cases h
 split at h
 ·rename_i h1;exact absurd h h1
 split at h
 ·cases h
 split at h
 ·cases h
 rename_i h4
 have h5:l.any (fun r=>decide (r.1=nm))=true:=by simpa using h4
 obtain ⟨r,hr,h6⟩:=List.any_eq_true.1 h5
 exact ⟨r,hr,by simpa using h6⟩
theorem Ziu : ∀ {l:List Rul}{nm:ByteArray},(∀ r∈l,r.1≠nm)→Za2 l nm=[]
 | [],_,_=>rfl
 | r::l,nm,h=>by
  show (if r.1=nm then ZcF r else [])++Za2 l nm=[]
  rw [if_neg (h r (by simp)),Ziu fun q hq=>h q (by simp [hq])]
  rfl
theorem Zph {l m:List Rul}{nm:ByteArray}:Za2 (l++m) nm=Za2 l nm++Za2 m nm:=List.flatMap_append
theorem ZnP {l m:List Rul}{nm:ByteArray}{sh:Int}(h1:(ZaW l nm sh).2=0) (h2:(ZaW (l++m) nm sh).2=0) (hd : ∀ r∈l,∀ q∈m,r.1≠q.1):(ZaW (l++m) nm sh).1=(ZaW l nm sh).1:=by
 obtain ⟨e1,hr⟩:=ZmT h1
 obtain ⟨e2,_⟩:=ZmT h2
 obtain ⟨r,hr1,hr2⟩:=ZpQ hr
 rw [e1,e2,Zph,Ziu (l:=m) fun q hq e=>hd r hr1 q hq (hr2.trans e.symm),List.append_nil]
theorem ZlF {l m:List Rul}{x:Era}(h1:errX l x=0) (h2:errX (l++m) x=0) (hd : ∀ r∈l,∀ q∈m,r.1≠q.1):Zbn (l++m) x=Zbn l x:=by
 unfold Zbn errX at *
 split
 ·rfl
 rename_i hx
 rw [if_neg hx] at h1 h2
 exact ZnP h1 h2 hd
theorem Ziv {l m:List Rul}{n:Int} : ∀ {es:List Era},(∀ x∈es,Zbn l x=Zbn m x)→ZcA l es n=ZcA m es n
 | [],_=>rfl
 | [x],h=>by
  show Zet l x n=Zet m x n
  unfold Zet;rw [h x (by simp)]
 | x::y::es,h=>by
  rw [ZcA,ZcA,Ziv (es:=y::es) fun z hz=>h z (by simp [hz])]
  unfold Zet;rw [h x (by simp)]
theorem Zo7 : ∀ {k:List Zon},(k.map (·.1)).Nodup → ∀ x∈k,∀ y∈k,x.1=y.1→x=y
 | [],_,x,hx,_,_,_=>by cases hx
 | u::k,h,x,hx,y,hy,e=>by
  rw [List.map_cons,List.nodup_cons] at h
  rcases List.mem_cons.1 hx with hx1 | hx <;> rcases List.mem_cons.1 hy with hy1 | hy
  ·exact hx1.trans hy1.symm
  ·exact absurd (List.mem_map.2 ⟨y,hy,by rw [←hx1];exact e.symm⟩) h.1
  ·exact absurd (List.mem_map.2 ⟨x,hx,by rw [←hy1];exact e⟩) h.1
  exact Zo7 h.2 x hx y hy e
theorem Zq1 {s:Src}{nm:ByteArray}{n:Int}(h:(atV s nm n).2=0):(ZbT s nm).2=0∧atV s nm n=(ZcA s.1 (ZbT s nm).1.2 n,0):=by
 unfold atV at h ⊢
 by_cases h1:(ZbT s nm).2≠0
 ·rw [if_pos h1] at h;exact absurd h h1
 rw [if_neg h1] at h ⊢
 refine ⟨Decidable.of_not_not h1,?_⟩
 split at h
 ·cases h
 rename_i h2;rw [if_neg h2]
theorem at_bad {s:Src}{nm:ByteArray}{n:Int}(h:(atV s nm n).2≠0):(atV s nm n).1=locZ:=by
 unfold atV at h ⊢
 split
 ·rfl
 rename_i h1
 rw [if_neg h1] at h
 split
 ·rfl
 rename_i h2;rw [if_neg h2] at h;exact absurd rfl h
theorem other {a ab:List Rul}{z zb:List Zon}{k kb:List Lnk}{nm:ByteArray}{n:Int}(h1:(atV (a,z,k) nm n).2=0) (h2:(atV (a++ab,zb++z,k++kb) nm n).2=0) (hd : ∀ r∈a,∀ q∈ab,r.1≠q.1) :
  (atV (a,z,k) nm n).1=(atV (a++ab,zb++z,k++kb) nm n).1:=by
 obtain ⟨f1,e1⟩:=Zq1 h1
 obtain ⟨f2,e2⟩:=Zq1 h2
 obtain ⟨c1,m1,n1⟩:=Zgu f1
 obtain ⟨c2,m2,n2⟩:=Zgu f2
 obtain ⟨_,_,_,x1,_⟩:=Zgw c1
 obtain ⟨_,u2,_,x2,_⟩:=Zgw c2
 unfold ZcX at u2
 rw [List.nodup_append] at u2
 obtain ⟨u3,u4,u5⟩:=u2
 have ht:tgtV (a++ab,zb++z,k++kb) nm=tgtV (a,z,k) nm:=by
  by_cases hk:nm∈k.map (·.2)
  ·obtain ⟨l,hl,rfl⟩:=List.mem_map.1 hk
   rw [Zps (s:=(a++ab,zb++z,k++kb)) u4 (List.mem_append_left _ hl)]
   have u6:(k.map (·.2)).Nodup:=by
    have u7:=u4
    simp only [List.map_append] at u7
    exact (List.nodup_append.1 u7).1
   rw [Zps (s:=(a,z,k)) u6 hl]
  have e:=ZmX (s:=(a,z,k)) hk
  rw [e]
  refine ZmX fun hh=>u5 nm ?_ nm hh rfl
  rw [←e,←n1]
  exact List.mem_map.2 ⟨_,List.mem_append_right _ m1,rfl⟩
 have hz:(ZbT (a++ab,zb++z,k++kb) nm).1=(ZbT (a,z,k) nm).1:=Zo7 u3 _ m2 _ (List.mem_append_right _ m1) (by rw [n2,ht,n1])
 rw [e1,e2,hz]
 refine Ziv fun x hx=>?_
 have hx1:x∈ZcL z:=List.mem_flatMap.2 ⟨_,m1,hx⟩
 have hx2:x∈ZcL (zb++z):=List.mem_flatMap.2 ⟨_,List.mem_append_right _ m1,hx⟩
 exact (ZlF (x1 x hx1) (x2 x hx2) hd).symm
theorem Zn3 {a ab:List Rul}{z zb:List Zon}{k kb:List Lnk}(h:Zdk (a,z,k)) (g:Zdk (ab,zb,kb)):Zdk (a++ab,zb++z,k++kb) :=
 ⟨fun r hr=>(List.mem_append.1 hr).elim (h.1 r) (g.1 r),fun r hr=>(List.mem_append.1 hr).elim (g.2.1 r) (h.2.1 r),fun r hr=>(List.mem_append.1 hr).elim (h.2.2 r) (g.2.2 r)⟩
theorem Zj5 {α:Type}{f:α→List AV}{k:Nat}(hf : ∀ x,(f x).length=k) {a b:List α}{n:Nat}{c:List AV}(hn:n=a.length+b.length) (hc:c=rows f (a++b)):c.take (n*k)=rows f (a++b):=by
 subst hc
 exact List.take_of_length_le (by rw [ZaX hf,List.length_append,hn];exact Nat.le_refl _)
theorem ZqV {α:Type}{f:α→List AV}{k:Nat}(hf : ∀ x,(f x).length=k) {a b:List α}{n:Nat}{c:List AV}(hn:n=a.length+b.length) (hc:c=rows f (a++b)):n*k≤c.length:=by
 subst hc
 rw [ZaX hf,List.length_append,hn];exact Nat.le_refl _
theorem walk0 {a ab:List Rul}{z zb:List Zon}{k kb:List Lnk}{nm:ByteArray}{n:Int}{h:AH}(hok:Zdk (a,z,k)) (hok':Zdk (ab,zb,kb)) (hb1:ab.length*104≤140737488351232) (hb2:zb.length*40≤140737488351232) (hb3:kb.length*32≤140737488351232):Ac 3 [.agg (srcB a z k),.agg (srcB ab zb kb),sv nm,iv n] h (bv true):=by
 refine tI' k3 fun N hn hlt hlA hbd=>?_
 simp only [tb'] at hbd ⊢
 refine wr'<|E' (Zbj (cvl lk rfl) rfl (hl0 hn) ha0) pt<|E' (Zbj (cvl lk rfl) rfl (hl1 hn) ha1) pt<|mv' lkb pt<|sn'<|Zam<|wr'<|Zad mp0 (zbegun_a) pt<|V' (Zaw lk) pt<|sn'<|?_
 refine ZaM lk<|Zae<|Zah<|wr'<|V' (Zaq lk (hga hn rfl) ZdZ rfl) pt<|mv' lk pt<|mv' lk pt<|Zad mp (at_a hok) pt<|mv' lk pt<|V' (Za3 lk gt) pt<|V' (Za3 lk gt) pt<|E' (Za6 (hl2 hn) ha2) pt<|E' (Zal lk (cvl lk rfl) (hga hn rfl) rfl (nb' rfl) rfl Zgz (hs2 hn)) ptn<|?_
 refine mv' lk pt<|sn'<|Zam<|wr'<|mv' lk pt<|V' (Za1 lk lki) pt<|sn'<|?_
 refine cd' lk (fun hc2=>?_) (fun hc2=>?_)
 ·have hL:=at_bad hc2
  refine wr'<|V' (Zaq lk (hga hn rfl) ZdZ rfl) pt<|V' (Zax ZgE) pt<|V' (Zko lk lk ZhZ) pt<|mv' lk pt<|sn'<|Zaa<|Zai<|Zaf rz<|rT'<|?_
  exact bvx (decide_eq_true (by rw [hL];exact ⟨rfl,rfl,rfl⟩))
 have hs0:(atV (a,z,k) nm n).2=0:=Decidable.of_not_not hc2
 obtain ⟨q1,q2,q3,q4,q5,q6,q7⟩:=Zdo (ZfV (Zgu (Zq1 hs0).1).1)
 simp only at q1 q2 q3 q4 q5 q6 q7
 refine Zae<|Zah<|Zam<|ZbP<|?_
 refine u_al rfl (Zc5 ZgD (hl3 hn) ha3) (hl3 hn) nh pt ?_
 refine u_fr rfl (Zac lk) pt ?_
 refine ZnK rfl (Zab lk (hga hn rfl) gt0) (hx_l rfl) (hl3 hn) nh pt ?_
 refine ZnL (ZcD (ZjA lk (Zgk _)) lk (hga hn rfl) rfl (by omega) (Zm3 _) (hs3 hn)) lk lk nh pt ?_
 refine u_fr rfl (Zac lk) pt ?_
 refine ZnK rfl (Zab lk (hga hn rfl) gt0) (hx_l rfl) (hl3 hn) nh pt ?_
 refine ZnL (e_appW (ZjA lk (Zgk _)) lk (hga hn rfl) (by simp [Zgk]) (by omega) (Zm3 _) (hs3 hn)) lk lk nh pt ?_
 refine u_al rfl (Zc5 ZgC (hl4 hn) ha4) (hl4 hn) nh pt ?_
 refine u_fr rfl (Zac lk) pt ?_
 refine ZnK rfl (Zab lk (hga hn rfl) gt1) (hx_l rfl) (hl3 hn) nh pt ?_
 refine ZnL (ZcD (ZjA lk (Zd3 _)) lk (hga hn rfl) rfl (by omega) (ZmH _) (hs4 hn)) lk lk nh pt ?_
 refine u_fr rfl (Zac lk) pt ?_
 refine ZnK rfl (Zab lk (hga hn rfl) gt1) (hx_l rfl) (hl3 hn) nh pt ?_
 refine ZnL (ZcD (ZjA lk (Zd3 _)) lk (hga hn rfl) (by simp [Zd3]) (by omega) (ZmH _) (hs4 hn)) lk lk nh pt ?_
 refine u_al rfl (Zc5 ZgB (hl5 hn) ha5) (hl5 hn) nh pt ?_
 refine u_fr rfl (Zac lk) pt ?_
 refine ZnK rfl (Zab lk (hga hn rfl) gt2) (hx_l rfl) (hl3 hn) nh pt ?_
 refine ZnL (ZcD (ZjA lk (Zgq _)) lk (hga hn rfl) rfl (by omega) (Zne _) (hs5 hn)) lk lk nh pt ?_
 refine u_fr rfl (Zac lk) pt ?_
 refine ZnK rfl (Zab lk (hga hn rfl) gt2) (hx_l rfl) (hl3 hn) nh pt ?_
 refine ZnL (ZcD (ZjA lk (Zgq _)) lk (hga hn rfl) (by simp [Zgq]) (by omega) (Zne _) (hs5 hn)) lk lk nh pt ?_
 refine u_fr rfl (Zax (ZgA (cvl lk rfl) rfl (cvl lk rfl) rfl (cvl lk rfl) rfl)) pt ?_
 refine u_al rfl (Za6 (hl6 hn) ha6) (hl6 hn) nh pt ?_
 refine u_st (Zal lk (cvl lk rfl) (hga hn rfl) rfl (nb' rfl) rfl Zgz (hs6 hn)) lk nh ptn ?_
 refine ZcI ?_
 refine Za8 (ALe.trans (ALe.iceCellN (hga hn rfl) (hga hn rfl) (by omega) gt0 (Zj5 ZcS (a:=a) (b:=ab) (n:=0+a.length+ab.length) (c:=[]++rows rulC a++rows rulC ab) (by simp) (by rw [ZaS];rfl)) (ZqV ZcS (a:=a) (b:=ab) (n:=0+a.length+ab.length) (c:=[]++rows rulC a++rows rulC ab) (by simp) (by rw [ZaS];rfl)) (by exact (show 0+a.length+ab.length=(a++ab).length from by simp)) pt0 (hs3 hn) (hs6 hn)) (ALe.trans (ALe.iceCellN (hga hn rfl) (hga hn rfl) (by omega) gt1 (Zj5 Zcc (a:=zb) (b:=z) (n:=0+zb.length+z.length) (c:=[]++rows zonC zb++rows zonC z) (by simp) (by rw [ZaS];rfl)) (ZqV Zcc (a:=zb) (b:=z) (n:=0+zb.length+z.length) (c:=[]++rows zonC zb++rows zonC z) (by simp) (by rw [ZaS];rfl)) (by exact (show 0+zb.length+z.length=(zb++z).length from by simp)) pt1 (hs4 hn) (hs6 hn)) (ALe.iceCellN (hga hn rfl) (hga hn rfl) (by omega) gt2 (Zj5 ZcT (a:=k) (b:=kb) (n:=0+k.length+kb.length) (c:=[]++rows lnkC k++rows lnkC kb) (by simp) (by rw [ZaS];rfl)) (ZqV ZcT (a:=k) (b:=kb) (n:=0+k.length+kb.length) (c:=[]++rows lnkC k++rows lnkC kb) (by simp) (by rw [ZaS];rfl)) (by exact (show 0+k.length+kb.length=(k++kb).length from by simp)) pt2 (hs5 hn) (hs6 hn)))) ?_
 refine Zam<|wr'<|mv' lki pt<|sn'<|Zao<|?_
 refine w_lp (ι:=Nat) (fun (i:Nat)=>[(12,iv (i:Int)),(8,.any),(13,.any)]++rn' 51 27) (fun (i:Nat)=>[]) (fun (i:Nat)=>i≤ab.length ∧ ∀ q∈ab.take i,∀ r∈a,r.1≠q.1) (fun (i:Nat)=>ab.length-i) (0) (by exact ⟨Nat.zero_le _,fun q hq=>by cases hq⟩) ?_
 rintro i hi1
 try simp only [sm',Nat.reduceAdd]
 obtain ⟨hi2,hi3⟩:=hi1
 refine Zam<|wr'<|mv' lk pt<|V' (Zac lk) pt<|V' (Zab lk (hga hn rfl) gt0) pt<|V' (ZaP lk) pt<|V' (Zba lk lk) pt<|sn'<|?_
 refine cd' lk (fun hc3=>?_) (fun hc3=>?_)
 ·have hi:i<ab.length:=by omega
  refine Zae<|Zah<|Zam<|Zao<|wr'<|mv' lki pt<|sn'<|Zao<|?_
  refine w_lp (ι:=Nat) (fun (j:Nat)=>[(13,iv (j:Int)),(8,.any)]++rn' 58 20) (fun (j:Nat)=>[]) (fun (j:Nat)=>j≤a.length ∧ ∀ r∈a.take j,r.1≠ab[i].1) (fun (j:Nat)=>a.length-j) (0) (by exact ⟨Nat.zero_le _,fun q hq=>by cases hq⟩) ?_
  rintro j hi2
  try simp only [sm',Nat.reduceAdd]
  obtain ⟨hj2,hj3⟩:=hi2
  refine Zam<|wr'<|mv' lk pt<|V' (Zac lk) pt<|V' (Zab lk (hga hn rfl) gt0) pt<|V' (ZaP lk) pt<|V' (Zba lk lk) pt<|sn'<|?_
  refine cd' lk (fun hc4=>?_) (fun hc4=>?_)
  ·have hj:j<a.length:=by omega
   refine Zae<|Zah<|Zam<|Zao<|Zam<|ZcE<|D' (Zac lk) pt<|D' (Zab lk (hga hn rfl) gt0) pt<|D' (v_mv lk) pt<|?_
   refine D' (ZaY lk lk ZcS (nb' rfl) ro (by omega) ro rfl) pt ?_
   refine D' (Zbz lk dp0) pt<|D' (ZaB lk gt) pt<|D' (Zac lk) pt<|D' (Zab lk (hga hn rfl) gt0) pt<|D' (v_mv lk) pt<|?_
   refine D' (ZaY lk lk ZcS (nb' rfl) ro (by omega) ro rfl) pt ?_
   refine D' (Zbz lk dp0) pt<|D' (ZaB lk gt) pt<|?_
   refine D' ((by first | exact ZaT lk lk | exact Zcj lk lk)) pt ?_
   refine Zb6 ?_
   refine Zcy ?_
   refine sn' ?_
   refine cd' lk (fun hc5=>?_) (fun hc5=>?_)
   ·refine wr'<|mv' lkb pt<|sn'<|Zaa<|Zap<|Zai<|Zai<|Zap<|Zap<|Zai<|Zai<|Zap<|?_
    exact Zai<|Zaf rz<|rT' rfl
   refine Zae<|Zaz<|Zah<|Zas<|mv' lk pt<|?_
   refine V' (Zay lk lki (by omega) (by omega)) pt ?_
   refine mv' lk pt<|Zar<|ZaA<|?_
   refine lT' (j+1) (by (try dsimp only);refine ⟨by omega,fun r hr=>?_⟩;rw [List.take_succ_eq_append_getElem hj] at hr;rcases List.mem_append.1 hr with hr | hr;exact hj3 r hr;simp only [List.mem_singleton] at hr;subst hr;exact hc5)
  rw [List.take_of_length_le (show a.length≤j by omega)] at hj3
  refine ZaO<|ZaF<|ZaF<|Za7<|Zaz<|Zah<|Zas<|mv' lk pt<|?_
  refine V' (Zay lk lki (by omega) (by omega)) pt ?_
  refine mv' lk pt<|Zar<|ZaA<|?_
  refine lT' (i+1) (by (try dsimp only);refine ⟨by omega,fun q hq=>?_⟩;rw [List.take_succ_eq_append_getElem hi] at hq;rcases List.mem_append.1 hq with hq | hq;exact hi3 q hq;simp only [List.mem_singleton] at hq;subst hq;exact hj3)
 rw [List.take_of_length_le (show ab.length≤i by omega)] at hi3
 refine ZaO<|ZaF<|ZaF<|Za7<|Zah<|wr'<|V' (Zaq lk (hga hn rfl) ZdZ rfl) pt<|mv' lk pt<|mv' lk pt<|Zad mp (at_a (Zn3 hok hok')) pt<|mv' lk pt<|V' (Za3 lk gt) pt<|V' (Za3 lk gt) pt<|?_
 refine E' (Za6 (hl7 hn) ha7) pt<|E' (Zal lk (cvl lk rfl) (hga hn rfl) rfl (nb' rfl) rfl Zgz (hs7 hn)) ptn<|mv' lk pt<|sn'<|wr'<|mv' lk pt<|V' (Za1 lk lki) pt<|mv' lk pt<|?_
 refine sp' (t:=87) gt pt pt (fun hg87=>?_) (fun hg87=>?_)
 ·exact s_no gt pt<|s_no gt pt<|s_no gt pt<|V' (Zak lk lkb) pt<|mv' lk pt<|sn'<|Zaa<|Zaf rz<|rT' rfl
 have hO:=other hs0 (Decidable.of_not_not hg87) (fun r hr q hq=>hi3 q hq r hr)
 refine s_do gt<|V' (Zaq lk (hga hn rfl) ZdZ rfl) pt<|s_do gt<|V' (Zaq lk (hga hn rfl) ZdZ rfl) pt<|s_do gt<|V' (Zko lk lk ZhZ) pt<|V' (Zag lk lk) pt<|mv' lk pt<|sn'<|Zaa<|Zaf rz<|rT'<|?_
 exact bvx (decide_eq_true (by rw [hO];exact ⟨rfl,rfl,rfl⟩))
end Go.Proofs.YtlekejpogddndaaGreatDoor.zoneOther
end
section
namespace Go.Proofs.YtlekejpogddndaaGreatDoor
open Go.Ab Go.RowKit Go.Deep
section
variable {H : Type} {enc : TypeId × Value → H} {P : Program} {w : World} {base : Nat} {spare : Nat → Bool} {held : Bool}
theorem ZjL {t e:TypeId}{fs:Array Field}{cs:Array Value}{x:DataW H}{p:List MemPlace}{ts:List TypeId}{ds:List (DataW H)}{j i:Nat}{f:Field}{A:Option Addr}{l c:Nat}
  (hw:(DataW.weightsEach P ts ds).all (· ≤ reachBytes)=true) (ht:ts[j]?=some t) (hd:ds[j]?=some x) (hu:P.underlying t=some (.struct fs)) (h:DataW.Trod enc P w base spare held t (.agg cs) x p)
  (hf:fs[i]?=some f) (ho:f.offset=i) (hc:P.cellsOf f.type=1) (he:P.underlying f.type=some (.slice e)) (hv:cs.toList[i]?=some (.slice A l c)):l*P.bytesOf e≤reachBytes:=by
 obtain ⟨fuel,h⟩:=h
 obtain ⟨xs,n,rfl,hx,hcl,hxl,hat⟩:=DataW.trod_struct hu h
 have hi:=hat i f hf
 have hlt:i<xs.length:=by rw [hxl];exact (Array.getElem?_eq_some_iff.1 hf).1
 have hit:i<cs.toList.length:=(List.getElem?_eq_some_iff.1 hv).1
 have hd1:((cs.toList.drop f.offset).take (P.cellsOf f.type))=[.slice A l c]:=by
  rw [ho,hc,List.drop_eq_getElem_cons hit,(List.getElem?_eq_some_iff.1 hv).2];rfl
 have hi2:DataW.trod enc P w base spare held n f.type [.slice A l c]=some xs[i]:=by
  rw [←hd1,←List.getElem?_eq_getElem hlt];exact hi
 have hx1:x=.agg (xs.map (·.1)):=congrArg (·.1) hx
 rcases open_slice he hi2 with ⟨e0,_⟩ | ⟨ad,len,cap,m,k,D,Pl,e0,_,hl,_,hmm,ex,_⟩
 ·simp only [List.cons.injEq,Value.slice.injEq,and_true] at e0
  obtain ⟨_,rfl,_⟩:=e0
  simp
 ·simp only [List.cons.injEq,Value.slice.injEq,and_true] at e0
  obtain ⟨_,rfl,_⟩:=e0
  have ex1:xs[i].1=.slice ((List.range l).map D) ((List.range (m-l)).map fun j=>D (l+j)):=congrArg (·.1) ex
  have m1:(l+(m-l))*P.bytesOf e∈DataW.weights P f.type xs[i].1:=by
   rw [ex1];simp [DataW.weights,he]
  have m2:(l+(m-l))*P.bytesOf e∈DataW.weights P t x:=by
   rw [hx1]
   simp only [DataW.weights,hu]
   refine DataW.weights_mem_each (j:=i) (t:=f.type) (d:=xs[i].1) ?_ ?_ _ m1
   ·have hfl:fs.toList[i]?=some f:=by simpa using hf
    simp [hfl]
   ·simp [List.getElem?_eq_getElem hlt]
  have:=List.all_eq_true.1 hw _ (DataW.weights_mem_each ht hd _ m2)
  have h2:(l+(m-l))*P.bytesOf e≤reachBytes:=by simpa using this
  exact Nat.le_trans (Nat.mul_le_mul_right _ (Nat.le_add_right _ _)) h2
end
end Go.Proofs.YtlekejpogddndaaGreatDoor
end
section
namespace Go.Proofs.YtlekejpogddndaaGreatDoor.zoneOther
open Go.ChangeShapes Go.WideShapes Go.ChangeAt Go.RowKit Go.Ab Civ
theorem src_lens {H:Type}{enc:TypeId×Value→H}{W:World}{base:Nat}{spare:Nat→Bool}{held:Bool}{ts:List TypeId}{ds:List (DataW H)}{j:Nat}{v:Value}{x:DataW H}{p:List MemPlace}{q:Src}
  (hw:(DataW.weightsEach Tryz.prog ts ds).all (· ≤ reachBytes)=true) (ht:ts[j]?=some 26) (hd:ds[j]?=some x) (h:DataW.Trod enc Tryz.prog W base spare held 26 v x p) (k:Rep W (g0 W) (.agg (avs SrcDs q)) v) :
  q.1.length*104≤140737488351232∧q.2.1.length*40≤140737488351232∧q.2.2.length*32≤140737488351232:=by
 have k':Rep W (g0 W) (.agg (srcC q)) v:=k
 simp only [Rep,RepL] at k'
 obtain ⟨cs,rfl,u1,us1,e1,⟨_,A1,c1,rfl,_⟩,u2,us2,rfl,⟨_,A2,c2,rfl,_⟩,u3,us3,rfl,⟨_,A3,c3,rfl,_⟩,rfl⟩:=k'
 have z1:=ZjL hw ht hd Tryz.underlying26 h (i:=0) (e:=36) rfl rfl (by kernel_rfl) (by kernel_rfl) (by rw [e1];rfl)
 have z2:=ZjL hw ht hd Tryz.underlying26 h (i:=1) (e:=53) rfl rfl (by kernel_rfl) (by kernel_rfl) (by rw [e1];rfl)
 have z3:=ZjL hw ht hd Tryz.underlying26 h (i:=2) (e:=129) rfl rfl (by kernel_rfl) (by kernel_rfl) (by rw [e1];rfl)
 rw [show Tryz.prog.bytesOf 36=104 by kernel_rfl] at z1
 rw [show Tryz.prog.bytesOf 53=40 by kernel_rfl] at z2
 rw [show Tryz.prog.bytesOf 129=32 by kernel_rfl] at z3
 exact ⟨Nat.le_trans z1 (by decide),Nat.le_trans z2 (by decide),Nat.le_trans z3 (by decide)⟩
theorem walk {s q:Src}{nm:ByteArray}{n:Int}(hok:Zdk s) (hok':Zdk q) (hb:q.1.length*104≤140737488351232∧q.2.1.length*40≤140737488351232∧q.2.2.length*32≤140737488351232):Ac 3 [.agg (srcC s),.agg (srcC q),sv nm,iv n] [] (bv true) :=
 walk0 hok hok' hb.1 hb.2.1 hb.2.2
set_option maxRecDepth 100000 in
theorem lifted (os:Os) (started:os.Started) (H:Type) (enc:TypeId×Value→H) :
  ReturnsInHanded {} Tryz.checked os 3 .any (fun w args=>(Rows.zoneOtherSpec.pre enc Tryz.prog Tryz.f3 [] false w args∧laidMetH Tryz.prog Rows.zoneOtherRow.laid w)∧sizedMet enc Tryz.prog Tryz.f3 (OpenSpec.ofChange Rows.zoneOtherSpec) false w args) (Rows.zoneOtherSpec.post enc Tryz.prog Tryz.f3 false true false false):=by
 refine Zl2 (C:=Tryz.checked) own started (by kernel_rfl) Tryz.func3
  (ChangeSpec.witness_shaped (enc:=enc) (C:=Tryz.checked) (os:=os) (X:=fun w _=>laidMetH Tryz.prog Rows.zoneOtherRow.laid w) false (World.laidAll Tryz.prog os Rows.zoneOtherRow.laid) #[.agg #[.slice none 0 0,.slice none 0 0,.slice none 0 0],.agg #[.slice none 0 0,.slice none 0 0,.slice none 0 0],.string ⟨#[]⟩,.int .i64 0] 8 (World.laidAll_os _ _ _)
   (World.shaped_of_ZipB (by kernel_rfl) (by kernel_rfl)) (by kernel_rfl) (by kernel_rfl) (by kernel_rfl)
   (by rw [MakeChecks.laidMetH_plain _ _ _ (by kernel_rfl)];exact laidMet_laidAll _ (by kernel_rfl) (by kernel_rfl))) ?_
 intro W base args ds gs before hval0 hW0 hsz hL hsh
 have hval : ∀ (j:Nat) t v,Tryz.f3.params[j]?=some t→args[j]?=some v→Value.okWide Tryz.prog W .any base t v:=hval0
 have hW:=hW0
 obtain ⟨p,q,hA0,_,_,_,_⟩:=hW
 have hA:DataW.TrodAll enc Tryz.prog W 0 (fun _=>true) true Tryz.f3.params.toList args.toList ds p:=hA0
 have hG:GlobW W:=globW hsh hL (by unfold LaidOk;kernel_rfl)
 have hfin : ∀ W',Below W.heap.size W W'→(∃ d,ds=d)→Rows.zoneOtherSpec.fn H ds={ results:=[.lit (.bool true)],args:=ds }→Rows.zoneOtherSpec.post enc Tryz.prog Tryz.f3 false true false false W args (.bool true) W' :=
  fun W' hb _ hs=>law_post laidOut (by kernel_rfl) rfl Tryz.underlying4 rfl hs hW0 hb
 obtain ⟨v0,vs0,d0,ds0,p0,q0,hargs,rfl,rfl,h0,r0⟩:=trodAll_cons hA
 obtain ⟨v1,vs1,d1,ds1,p1,q1,rfl,rfl,rfl,h1,r1⟩:=trodAll_cons r0
 obtain ⟨v2,vs2,d2,ds2,p2,q2,rfl,rfl,rfl,h2,r2⟩:=trodAll_cons r1
 obtain ⟨v3,vs3,d3,ds3,p3,q3,rfl,rfl,rfl,h3,r3⟩:=trodAll_cons r2
 obtain ⟨rfl,rfl,rfl⟩:=trodAll_nil r3
 obtain rfl:args = #[v0,v1,v2,v3]:=by cases args;simp_all
 obtain ⟨s,hs,k0⟩:=Zi2 SrcDs Tryz.underlying26 (by kernel_rfl) (hval 0 26 _ rfl rfl) h0
 obtain ⟨q,hq,k1⟩:=Zi2 SrcDs Tryz.underlying26 (by kernel_rfl) (hval 1 26 _ rfl rfl) h1
 obtain ⟨t,ht,k2⟩:=arg_str Tryz.underlying9 (hval 2 9 _ rfl rfl) h2
 obtain ⟨n,hn,k3⟩:=arg_int Tryz.underlying3 (hval 3 3 _ rfl rfl) h3
 refine (Zqo (walk (s:=s) (q:=q) (nm:=t) (n:=n) (Zm8 hs) (Zm8 hq) (src_lens hsz (j:=1) rfl rfl h1 k1)) hG (repL1 k0 (repL1 k1 (repL1 k2 (repL1 k3 repL0))))).mono fun e W' ⟨he,hb⟩=>?_
 subst he
 exact ⟨_,rfl,hfin W' hb ⟨_,rfl⟩ rfl⟩
end Go.Proofs.YtlekejpogddndaaGreatDoor.zoneOther
end
