/-
  Part 1 of the proof: own lemmas and contracts on plain data. No condition beyond those that each lemma states.
-/
import Derived.Test.YthmgnolcfjiicaaGreatDoorRy0
import Derived.Defers
import Derived.Recover
import Derived.RangeFuncLeaves
import Derived.KernelRfl
set_option linter.all false
set_option maxRecDepth 1000000
set_option maxHeartbeats 4000000
namespace Go.Ab
variable {h:AH}{c g i:AV}{e0 e1 e2 e3 e4 e5 e6 e7 e8:Ent}{f:FuncId}{b:Int}{k k':IntKind}{T ats cells cs l zero:List AV}{bytes len n o off s st sz ty v ver:Nat}
section
section
variable {P : Program} {n0 : Nat}
def Zsf [Rd] {ops:Array Oper}{id:Nat}{al:List AOper}{Q:AX->List AV->AH->Prop}{T:List AV}{h:AH}{i0:Nat}{x:Operand}{f:FuncId}{al':List AOper}{d0:Nat}{c cp:AV}{Pp:AH->Prop}(hm:ops.toList.mapM (ZbB P [] ops)=some al) (hp:panAt P ops al i0=some (x,f,al',d0))
  (h1:adrun P [] h al' T [] λT' ents=>ents=[]/\T'[d0]?=some c) (h2:ACalls P f [c] h λr h''=>r=.pan cp/\Pp h'') (h3 : ∀ T'' h'',Pp h''->Q (.pan cp) T'' h''):AW P n0 (.region id ops true) Q T h:=by
 unfold panAt at hp
 split at hp <;> try (cases hp;done)
 rename_i d1 f1 x1 hal
 split at hp <;> try (cases hp;done)
 rename_i al2 hm2
 split at hp <;> try (cases hp;done)
 rename_i hcond
 cases hp
 obtain⟨hfm,hB,hdst,hgn⟩:=hcond
 obtain⟨o0,ho0,hco⟩:=Zrb _ _ _ _ _ hm hal
 have ho0':ops[i0]?=some o0:=by simpa using ho0
 unfold ZbB at hco
 split at hco <;> try (cases hco;done)
 rename_i aop gd hao hgd
 simp only[Option.some.injEq,AOper.mk.injEq] at hco
 obtain⟨hd0,rfl,rfl⟩:=hco
 have hop : ∃ ts,o0.op=.call { callee:=.value (.func f),args := #[x],argTypes:=ts }:=by
  rcases ZcZ hao with ⟨_,_,hnc,_⟩ | ⟨f',xs,ts,e,ho⟩ | ⟨_,e,_⟩ | ⟨_,_,_,_,_,e,_⟩
  .exact absurd rfl (hnc _ _)
  .cases e;exact⟨ts,ho⟩
  .cases e
  .cases e
 obtain⟨ts,hop⟩:=hop
 have hg : ∀ (j:Nat) (o:Oper),ops[j]?=some o->o.guard=none:=by
  intro j o ho
  have:=List.all_eq_true.1 hgn o (by simpa using Array.mem_of_getElem? ho)
  simpa using this
 simp only[Region.lexB,Bool.and_eq_true] at hB
 have hrep : ∀ (j:Nat) (m:Nat),(Array.replicate m false).getD j false=true->j<0:=by
  intro j m hj
  by_cases h:j<m
  .simp[Array.getD,h] at hj
  .simp[Array.getD,h] at hj
 have hdep : ∀ (j:Nat) (o:Oper),ops[j]?=some o -> ∀ e∈o.after,Region.binds .any e=true->e.on<j:=by
  intro j o ho e he hb
  have hd:(Zbs ops i0 x)[j]?≠none:=by rw[Zc4,ho];simp
  obtain⟨o2,ho2⟩:=Option.ne_none_iff_exists'.1 hd
  obtain⟨o',h1,h2,_⟩:=ZeX ho2
  rw[ho] at h1
  cases h1
  have hj:j<(Zbs ops i0 x).size:=(Array.getElem?_eq_some_iff.1 ho2).1
  exact Zri _ 0 _ (λj hj=>hrep j _ hj) hB.2 j o2 (Nat.zero_le _) (by omega) ho2 e (by rw[h2];exact he) hb
 intro w0 S0 g0 a w g hst
 obtain⟨ys,Tf,ef,hy,rfl,hT⟩:=ZmH (ops:=Zbs ops i0 x) _ _ hm2 T [] h1
 obtain⟨_,hq⟩:=ZmY _ _ _ _ _ _ _ hy
 obtain⟨hq1,hq2⟩:=hq rfl
 let tr:Nat->Yd:=λk=>ys.getD k nilY
 have hyt : ∀ j,(tr j).act=.fr\/(tr j).act=.rd:=by
  intro j
  show (ys.getD j nilY).act=_\/(ys.getD j nilY).act=_
  rw[List.getD_eq_getElem?_getD]
  cases hj:ys[j]? with
  | none=>exact .inl rfl
  | some y=>exact hq1 y (List.mem_of_getElem? hj)
 have hlen:=(ZoK _ _ _ _ _ _ _ hy).1
 have hcc:(tr i0).c=c:=by
  have hdead:(Zbs ops i0 x).toList[i0]?=some { o0 with op:=.move x }:=by
   have:=Zc4 (ops:=ops) (i0:=i0) (x:=x) (j:=i0)
   rw[ho0'] at this
   simpa using this
  refine trB_at _ _ _ _ _ _ _ i0 _ c hy hdead (by simpa using hd0) ?_ hT
  intro o ho
  have:=List.all_eq_true.1 hdst o ho
  simpa using this
 have hlex:=ZlR (P:=P) (ops:=Zbs ops i0 x) (h0:=h) (tr:=tr) (N:=0) (Zbs ops i0 x).toList _ ys 0 T [] Tf [] (λj hj=>by simp) (λj hj=>by rw[Nat.zero_add]) (by rw[hq2];rfl) hy
 simp only[List.append_nil,List.length_nil,Nat.sub_zero,List.replicate_zero,Array.length_toList] at hlex
 have hpair : ∀ i j,i<j->j<(Zbs ops i0 x).size->(∃ n,i∈anc .any (Zbs ops i0 x) j n)\/Compat h (tr i) (tr j):=by
  intro i j _ _
  right
  rcases hyt i with h1 | h1
  .exact ZcC h1
  .rcases hyt j with h2 | h2
   .exact ZbE h2
   .unfold Compat;rw[h1,h2];trivial
 have hclosed : ∀ os:Array Oper,Closed .any os (Array.replicate os.size false):=by
  intro os k o ho hk
  have:k<os.size:=(Array.getElem?_eq_some_iff.1 ho).1
  simp[this] at hk
 have hD:=ZfE (P:=P) (md:=.any) (h0:=h) (tr:=tr) hpair (Zbs ops i0 x).size 0 (Array.replicate (Zbs ops i0 x).size false) T _ (by omega) (by simp) (hclosed _) (by omega) hB.2 hlex
 have hi0:i0<ops.size:=(Array.getElem?_eq_some_iff.1 ho0').1
 refine wpIn_region_any hfm ?_
 rw[ZnW] at hD
 exact Zuc ho0' hop hg hdep hyt hcc h2 h3 ops.size (Array.replicate ops.size false) T a _ g (by simp) (hclosed _) (by simp[Array.getD,hi0]) hst.drew hD
def orPans (o:Option (Operand×FuncId×List AOper×Nat)) (a:AC):AC:=match o with
 | some (x,f,al',d0)=>.orPan a x f al' d0
 | none=>a
def ZgW (P:Program) (ops:Array Oper) (al:List AOper):Option AC :=
 (drawn P ops [] (ZlU P al)).or ((drawn P ops (Zq7 ops al (ZlU P al)) (ZlU P al)).or ((if 2<=(al.filter (Zo2 P)).length then ZjD P ops else none).or ((drawn P ops [] (ZqG al)).or ((drawn P ops (Zq7 ops al (ZqG al)) (ZqG al)).or (ZjD P ops)))))
def comp (P:Program):Code->Option AC
 | .skip=>some .skip
 | .region _ ops draw=>match ops.toList.mapM (ZbB P [] ops) with
  | some al=>if draw=false then some (.reg al) else
   (ZgW P ops al).map (orPans (panOf P ops al))
  | none=>none
 | .seq a b=>match comp P a,comp P b with
  | some x,some y=>some (.seq x y)
  | _,_=>none
 | .cond c a b=>match comp P a,comp P b with
  | some x,some y=>some (.cond c x y)
  | _,_=>none
 | .block id a=>(comp P a).map (.block id)
 | .loop a=>(comp P a).map .loop
 | .exit id=>some (.exit id)
 | .scope a=>comp P a
 | .ret=>some .ret
 | _=>none
def aw (P:Program) (n0:Nat):AC->(AX->List AV->AH->Prop)->List AV->AH->Prop
 | .skip,Q,T,h=>Q .normal T h
 | .reg al,Q,T,h=>arun P (λc T h=>Q (.pan c) T h) al T h (λT h=>Q .normal T h)
 | .drw b q t,Q,T,h => ∃ rs,adrun P rs h b T [] λT ents=>ZcJ P rs q t T (h++ents) (λT h=>Q .normal T h)
 | .drwU q al,Q,T,h=>Zbi P h q al [] T h λT h=>Q .normal T h
 | .orPan a x f al d0,Q,T,h=>aw P n0 a Q T h \/ ∃ (cp:AV) (Pp:AH->Prop) (c:AV),adrun P [] h al T [] (λT' ents=>ents=[]/\T'[d0]?=some c)/\ACalls P f [c] h (λr h''=>r=.pan cp/\Pp h'') /\ ∀ T'' h'',Pp h''->Q (.pan cp) T'' h''
 | .seq a b,Q,T,h=>aw P n0 a (AX.thn (λT h => ∃ T1 h1,ALe n0 T h T1 h1/\aw P n0 b Q T1 h1) Q) T h
 | .cond c a b,Q,T,h=>match Zaf T c with
  | .v (.bool t)=>(t=true->aw P n0 a Q T h)/\(t=false->aw P n0 b Q T h)
  | _=>False
 | .block id a,Q,T,h=>aw P n0 a (AX.blk id Q) T h
 | .loop a,Q,T,h => ∃ (I:Nat->List AV->AH->Prop) (n:Nat),(∃ T1 h1,ALe n0 T h T1 h1/\I n T1 h1) /\ ∀ n T h,I n T h->aw P n0 a (AX.thn (λT' h' => ∃ m,m<n /\ ∃ T1 h1,ALe n0 T' h' T1 h1/\I m T1 h1) Q) T h
 | .exit id,Q,T,h=>Q (.exit id) T h
 | .ret,Q,T,h=>Q .ret T h
def Zgn [Rd] {ops:Array Oper}{id:Nat}{al:List AOper}{ac:AC}{Q:AX->List AV->AH->Prop}(hc:ZgW P ops al=some ac) (hw:aw P n0 ac Q T h):AW P n0 (.region id ops true) Q T h:=by
 unfold ZgW at hc
 have key : ∀ S s,drawn P ops S s=some ac->AW P n0 (.region id ops true) Q T h:=by
  intro S s hd
  unfold drawn at hd
  split at hd <;> try (cases hd;done)
  rename_i al2 hm2
  split at hd <;> try (cases hd;done)
  rename_i hcond
  cases hd
  obtain⟨rs,hw⟩:=hw
  exact Zkk hcond.1 hcond.2.1 hm2 hcond.2.2.1 hcond.2.2.2 hw
 have keyU:ZjD P ops=some ac->AW P n0 (.region id ops true) Q T h:=by
  intro hc
  unfold ZjD at hc
  split at hc <;> try (cases hc;done)
  rename_i al2 hm2
  split at hc <;> try (cases hc;done)
  rename_i hcond
  cases hc
  exact Zkl hcond.1 hcond.2 hm2 hw
 rcases Option.or_eq_some_iff.1 hc with h1 | ⟨_,hc⟩
 .exact key _ _ h1
 rcases Option.or_eq_some_iff.1 hc with h1 | ⟨_,hc⟩
 .exact key _ _ h1
 rcases Option.or_eq_some_iff.1 hc with h1 | ⟨_,hc⟩
 .split at h1
  .exact keyU h1
  .cases h1
 rcases Option.or_eq_some_iff.1 hc with h1 | ⟨_,hc⟩
 .exact key _ _ h1
 rcases Option.or_eq_some_iff.1 hc with h1 | ⟨_,hc⟩
 .exact key _ _ h1
 .exact keyU hc
def ZfM [Rd] : ∀ (c:Code) (ac:AC),comp P c=some ac -> ∀ {Q:AX->List AV->AH->Prop}{T:List AV}{h:AH},aw P n0 ac Q T h->AW P n0 c Q T h:=by
 intro c
 induction c with
 | skip=>intro ac hc Q T h hw;cases hc;exact ZxO hw
 | region id ops draw =>
  intro ac hc Q T h hw
  simp only[comp] at hc
  split at hc <;> try (cases hc;done)
  rename_i al hm
  split at hc
  .rename_i hd;subst hd;cases hc;exact Zoz hm hw
  .rename_i hd
   obtain rfl:draw=true:=by simpa using hd
   rw[Option.map_eq_some_iff] at hc
   obtain⟨ac,hc,rfl⟩:=hc
   cases hp:panOf P ops al with
   | none=>rw[hp] at hw;exact Zgn hc hw
   | some p =>
    obtain⟨x,f,al',d0⟩:=p
    rw[hp] at hw
    rcases hw with hw | ⟨cp,Pp,c,h1,h2,h3⟩
    .exact Zgn hc hw
    .unfold panOf at hp
     split at hp <;> try (cases hp;done)
     rename_i i0 hf0
     exact Zsf hm hp h1 h2 h3
 | seq a b iha ihb =>
  intro ac hc Q T h hw
  simp only[comp] at hc
  split at hc <;> try (cases hc;done)
  rename_i x y hx hy
  cases hc
  refine AW_seq ((iha x hx hw).mono ?_)
  intro z T' h' hq
  cases z <;> simp only[AX.thn] at hq ⊢ <;> first | exact hq | (obtain⟨T1,h1,hle,hq⟩:=hq;exact AW_le hle (ihb y hy hq))
 | cond c a b iha ihb =>
  intro ac hc Q T h hw
  simp only[comp] at hc
  split at hc <;> try (cases hc;done)
  rename_i x y hx hy
  cases hc
  simp only[aw] at hw
  split at hw <;> try (exact hw.elim)
  rename_i t ht
  exact ZxR ht (λe=>iha x hx (hw.1 e)) (λe=>ihb y hy (hw.2 e))
 | block id a iha =>
  intro ac hc Q T h hw
  simp only[comp,Option.map_eq_some_iff] at hc
  obtain⟨x,hx,rfl⟩:=hc
  exact ZrZ (iha x hx hw)
 | loop a iha =>
  intro ac hc Q T h hw
  simp only[comp,Option.map_eq_some_iff] at hc
  obtain⟨x,hx,rfl⟩:=hc
  obtain⟨I,n,h0,hr⟩:=hw
  refine ZxP (λn T h => ∃ T1 h1,ALe n0 T h T1 h1/\I n T1 h1) n h0 ?_
  rintro n T h ⟨T1,h1,hle,hI⟩
  exact AW_le hle (iha x hx (hr n T1 h1 hI))
 | rangeFunc f ps x y iha ihb=>intro ac hc;cases hc
 | exit id=>intro ac hc Q T h hw;cases hc;exact ZxQ hw
 | scope a iha=>intro ac hc Q T h hw;exact AW_scope (iha ac hc hw)
 | label l=>intro ac hc;cases hc
 | goto l=>intro ac hc;cases hc
 | ret=>intro ac hc Q T h hw;cases hc;exact AW_ret hw
 | refuse w=>intro ac hc;cases hc
inductive AR where
 | tmp (t:Nat)
 | cell (t:Nat) (agg:Bool) (sz:Nat)
def Zff (T:List AV) (h:AH):AR->Option AV
 | .tmp t=>T[t]?
 | .cell t agg sz=>match T[t]? with
  | some p=>(Zcx h p).bind (Zcm agg sz)
  | none=>none
def aRes (rs:List AR) (T:List AV) (h:AH):Option AV :=
 match rs.mapM (Zff T h) with
 | some [c]=>some c
 | some cs=>some (.tup cs)
 | none=>none
def Zfs (P:Program):ResultVar->Option AR
 | .tmp t=>some (.tmp t)
 | .cell a t=>match P.underlying t,P.info? t with
  | some d,some i=>some (.cell a (ZdW d) i.size)
  | _,_=>none
def retA (rs:List AR) (R:AE->AH->Prop):AX->List AV->AH->Prop
 | .normal,T,h=>match aRes rs T h with
  | some c=>R (.ret c) h
  | none=>False
 | .ret,T,h=>match aRes rs T h with
  | some c=>R (.ret c) h
  | none=>False
 | .pan c,_,h=>R (.pan c) h
 | .exit _,_,_=>False
def rvS (tmps:Array Value) (r:ResultVar):Sem Value :=
 match r with
 | .tmp t=>pure (tmps.getD t undef)
 | .cell a t=>do loadVar t (<-asAddr (tmps.getD a undef))
def Zo0 (fn:Func) (tmps:Array Value):results fn tmps=(do
  let vs <-fn.results.mapM (rvS tmps)
  pure (if h:vs.size=1 then vs[0] else .tuple vs)):=by
 unfold results
 congr 2
def Znc {r:ResultVar}{ar:AR}(hc:Zfs P r=some ar) {T:List AV}{h:AH}{c:AV}(hv:Zff T h ar=some c) {w:World}{g:Gh}{a:List Value}(hs:SimH w g h) (ht:RepL w g T a) :
  ∃ v,(rvS a.toArray r).run P w=.ok v w/\Rep w g c v:=by
 cases r with
 | tmp t =>
  cases hc
  obtain⟨u,h1,h2⟩:=ht.get (show T[t]?=some c from hv)
  refine⟨u,?_,h2⟩
  have:a.toArray[t]?=some u:=by simpa using h1
  simp[rvS,this]
 | cell b t =>
  simp only[Zfs] at hc
  split at hc <;> try (cases hc;done)
  rename_i d i hd hi
  cases hc
  simp only[Zff] at hv
  split at hv <;> try (cases hv;done)
  rename_i p hp
  simp only[Option.bind_eq_some_iff] at hv
  obtain⟨cs,h1,h2⟩:=hv
  obtain⟨u,h3,h4⟩:=ht.get hp
  obtain⟨bb,off,e,hrc⟩:=ZjJ hs h4 h1
  obtain⟨v,h5,h6⟩:=ZkP (P:=P) hrc h2 (Zcl hd w) (Zbb hi w)
  refine⟨v,?_,h6⟩
  have hu:a.toArray[b]?=some u:=by simpa using h3
  have:a.toArray.getD b undef=.pointer (some ⟨bb,off,none⟩):=by simp[hu,e]
  simp only[rvS,this]
  simpa [asAddr,Instr.loadAt,Instr.sureAddr] using h5
def Zig {T:List AV}{h:AH}{w:World}{g:Gh}{a:List Value}(hs:SimH w g h) (ht:RepL w g T a) : ∀ (rl:List ResultVar) (rs:List AR) (cs:List AV),rl.mapM (Zfs P)=some rs->rs.mapM (Zff T h)=some cs ->
  ∃ vs,(rl.mapM (rvS a.toArray)).run P w=.ok vs w/\RepL w g cs vs
 | [],rs,cs,h1,h2=>by simp at h1;subst h1;simp at h2;subst h2;exact⟨[],by simp,by simp only[RepL]⟩
 | r::rl,rs,cs,h1,h2=>by
  simp only[List.mapM_cons,Option.bind_eq_bind,Option.bind_eq_some_iff,Option.pure_def,Option.some.injEq] at h1
  obtain⟨ar,k1,rs',k2,rfl⟩:=h1
  simp only[List.mapM_cons,Option.bind_eq_bind,Option.bind_eq_some_iff,Option.pure_def,Option.some.injEq] at h2
  obtain⟨c,k3,cs',k4,rfl⟩:=h2
  obtain⟨v,e1,e2⟩:=Znc k1 k3 hs ht
  obtain⟨vs,e3,e4⟩:=Zig hs ht rl rs' cs' k2 k4
  refine⟨v::vs,?_,by simp only[RepL];exact⟨v,vs,rfl,e2,e4⟩⟩
  simp only[List.mapM_cons,Sem.run_bind,e1,Result.andThen_ok,e3,Sem.run_pure]
def ZdT {fn:Func}{rs:List AR}(hrs:fn.results.toList.mapM (Zfs P)=some rs) {T:List AV}{h:AH}{c:AV}(hc:aRes rs T h=some c) {w:World}{g:Gh}{a:List Value}(hs:SimH w g h) (ht:RepL w g T a) :
  ∃ v,(results fn a.toArray).run P w=.ok v w/\Rep w g c v:=by
 unfold aRes at hc
 cases hm:rs.mapM (Zff T h) with
 | none=>simp[hm] at hc
 | some cs =>
  obtain⟨vs,h1,h2⟩:=Zig hs ht fn.results.toList rs cs hrs hm
  have hrun:(results fn a.toArray).run P w=.ok (if h:vs.toArray.size=1 then vs.toArray[0] else .tuple vs.toArray) w:=by
   rw[Zo0]
   rw[Array.mapM_eq_mapM_toList]
   simp only[Sem.run_bind,Sem.run_map]
   rw[h1]
   simp
  have hl:=h2.length
  rw[hm] at hc
  match cs,hc with
  | [c'],hc =>
   cases hc
   simp only[RepL] at h2
   obtain⟨u,us,rfl,h3,rfl⟩:=h2
   exact⟨u,by rw[hrun];simp,h3⟩
  | [],hc =>
   cases hc
   have:vs=[]:=by simpa using hl
   subst this
   exact⟨.tuple #[],by rw[hrun];simp,by simp only[Rep];exact⟨#[],rfl,by simp only[RepL]⟩⟩
  | c1::c2::cs',hc =>
   cases hc
   have hne:¬vs.toArray.size=1:=by simp[hl]
   exact⟨.tuple vs.toArray,by rw[hrun,dif_neg hne],by simp only[Rep];exact⟨_,rfl,by simpa using h2⟩⟩
structure AF where
 code:AC
 res:List AR
 ntmps:Nat
def ZbT (P:Program) (f:FuncId):Option AF :=
 match P.funcs[f]? with
 | some fn=>if fn.name == "runtime.NumGoroutine" then none else match fn.body with
  | some c=>match comp P c,fn.results.toList.mapM (Zfs P) with
   | some ac,some rs=>some ⟨ac,rs,fn.ntmps⟩
   | _,_=>none
  | none=>none
 | none=>none
def ACalls.of_aw {af:AF}(hc:ZbT P f=some af) {args:List AV}{R:AE->AH->Prop}(hw:aw P h.length af.code (retA af.res R) (args++List.replicate (af.ntmps-args.length) .any) h):ACalls P f args h R:=by
 unfold ZbT at hc
 split at hc <;> try (cases hc;done)
 rename_i fn hfn
 split at hc <;> try (cases hc;done)
 rename_i hname
 split at hc <;> try (cases hc;done)
 rename_i c hb
 split at hc <;> try (cases hc;done)
 rename_i ac rs hac hrs
 cases hc
 letI:Rd:=rdN
 refine ACalls.of_AW hfn hb ?_ ((ZfM c ac hac hw).mono ?_)
 .simp only[enters,hfn,hb]
  simp only[Bool.not_eq_true] at hname
  simp[bne,hname]
 .intro x T' h' hq
  cases x <;> simp only[retA,RetQ] at hq ⊢
  .split at hq <;> try (exact hq.elim)
   rename_i r hr
   exact⟨r,λw g a hs ht=>ZdT hrs hr hs ht,hq⟩
  .split at hq <;> try (exact hq.elim)
   rename_i r hr
   exact⟨r,λw g a hs ht=>ZdT hrs hr hs ht,hq⟩
  .exact hq
end
end
variable {af:AF}
section
section
variable {P : Program} {n0 : Nat}
mutual
def lt_mono {n m:Nat}(hnm:n<=m) : ∀ (c:AV),c.lt n=true->c.lt m=true
 | .v _,_=>rfl
 | .any,_=>rfl
 | .sl _ _ _ cs,h=>by simp only[AV.lt] at h ⊢;exact Zec hnm cs h
 | .own id _ _,h=>by simp only[AV.lt,decide_eq_true_eq] at h ⊢;omega
 | .ptr id _ _,h=>by simp only[AV.lt,decide_eq_true_eq] at h ⊢;omega
 | .rp cs,h=>by simp only[AV.lt] at h ⊢;exact Zec hnm cs h
 | .agg cs,h=>by simp only[AV.lt] at h ⊢;exact Zec hnm cs h
 | .tup cs,h=>by simp only[AV.lt] at h ⊢;exact Zec hnm cs h
 | .clo _ cs,h=>by simp only[AV.lt] at h ⊢;exact Zec hnm cs h
 | .bnd _ cs,h=>by simp only[AV.lt] at h ⊢;exact Zec hnm cs h
def Zec {n m:Nat}(hnm:n<=m) : ∀ (cs:List AV),AV.ltL n cs=true->AV.ltL m cs=true
 | [],_=>rfl
 | c::cs,h=>by simp only[AV.ltL,Bool.and_eq_true] at h ⊢;exact⟨lt_mono hnm c h.1,Zec hnm cs h.2⟩
end
def Ent.lt_mono {m:Nat}(hnm:n<=m) {e:Ent}(h:e.lt n=true):e.lt m=true:=by
 cases e <;> simp only[Ent.lt] at h ⊢ <;> exact Zec hnm _ h
def Sub:List AV->List AV->Prop
 | [],[]=>True
 | c::cs,d::ds=>(d=c\/d=.any)/\Sub cs ds
 | _,_=>False
def Sub.refl : ∀ T,Sub T T
 | []=>trivial
 | c::cs=>⟨.inl rfl,Sub.refl cs⟩
def RepL.sub {w:World}{g:Gh} : ∀ {T T1:List AV}{vs:List Value},Sub T T1->RepL w g T vs->RepL w g T1 vs
 | [],[],vs,_,h=>h
 | c::cs,d::ds,vs,hs,h=>by
  simp only[RepL] at h ⊢
  obtain⟨u,us,e,h1,h2⟩:=h
  refine⟨u,us,e,?_,RepL.sub hs.2 h2⟩
  rcases hs.1 with rfl | rfl
  .exact h1
  .simp only[Rep]
 | [],_::_,_,hs,_=>hs.elim
 | _::_,[],_,hs,_=>hs.elim
def ALe.sub {T1:List AV}(hs:Sub T T1):ALe n0 T h T1 h:=λw0 S0 g0 a w g st=>⟨g,st.tmps.sub hs,st.defers,st.sim,st.fr,st.le,st.bd,st.ow⟩
def ALe.refl :ALe n0 T h T h:=λw0 S0 g0 a w g st=>⟨g,st⟩
def ALe.trans {T1 T2:List AV}{h1 h2:AH}(a:ALe n0 T h T1 h1) (b:ALe n0 T1 h1 T2 h2):ALe n0 T h T2 h2:=λw0 S0 g0 x w g st=>by
 obtain⟨g1,s1⟩:=a w0 S0 g0 x w g st
 exact b w0 S0 g0 x w g1 s1
def ALe.cut {x:AH}(hn:n0<=h.length) (hT:AV.ltL h.length T=true) (hh : ∀ e∈h,e.lt h.length=true):ALe n0 T (h++x) T h:=λw0 S0 g0 a w g st =>
 ⟨g.cut h.length,RepL.cut _ _ hT st.tmps,st.defers,st.sim.cut hh,st.fr,st.le.cut (λi v l hl=>Nat.lt_of_lt_of_le (st.bd i v l hl) hn),st.bd,λk hk=>st.ow k hk.of_cut⟩
def ALe.ice {id d:Nat}(hi:h[id]?=some (.mk ver ty s cells)) (hd:T[d]?=some (.own id ver n)) (hl:n*s<=cells.length) :
  ALe n0 T h (T.set d (.sl n s false (cells.take (n*s)))) (h.set id .gone):=λw0 S0 g0 a w g st=>by
 obtain⟨h1,h2,h3⟩:=st.sim.ice hi
 have htm:=RepL.mono (g.le_ice h id) (λ_ _=>rfl) _ _ st.tmps
 obtain⟨u,hu,hr⟩:=st.tmps.get hd
 have hset:=htm.set (k:=d) (h3 n u hl hr)
 have hself:a.tmps.toList.set d u=a.tmps.toList:=by
  apply List.ext_getElem?
  intro j
  by_cases hj:j=d
  .subst hj
   have:j<a.tmps.toList.length:=(List.getElem?_eq_some_iff.1 hu).1
   rw[List.getElem?_set_self this,hu]
  .rw[List.getElem?_set_ne (Ne.symm hj)]
 rw[hself] at hset
 exact⟨g.ice h id,hset,st.defers,h1,st.fr,st.le.trans (g.le_ice h id),st.bd,λk hk=>st.ow k (h2 k hk)⟩
def Zej {id:Nat}{e:Ent}(he : ∀ k o T vs,e ≠ .raw k o T vs) {i k:Nat}{o:Obj}{vs:List Value}(h1:(h.set id e)[i]?=some (.raw k o T vs)):h[i]?=some (.raw k o T vs):=by
 by_cases hi:i=id
 .subst hi
  by_cases hl:i<h.length
  .rw[List.getElem?_set_self hl] at h1;cases h1;exact absurd rfl (he _ _ _ _)
  .rw[List.getElem?_eq_none (by simpa using hl)] at h1;cases h1
 .rw[List.getElem?_set_ne (Ne.symm hi)] at h1;exact h1
def SimH.tell {w:World}{g:Gh}(hs:SimH w g h) {id k:Nat}{c':AV}(hi:h[id]?=some (.mk ver ty s cells)) (hk:cells[k]?=some c) (hc : ∀ u,Rep w g c u->Rep w g c' u) :
  SimH w g (h.set id (.mk ver ty s (cells.set k c'))) /\ ∀ j,Ow g (h.set id (.mk ver ty s (cells.set k c'))) j->Ow g h j:=by
 have hid:id<h.length:=(List.getElem?_eq_some_iff.1 hi).1
 have hget : ∀ {i v t s':Nat} {cs:List AV},(h.set id (.mk ver ty s (cells.set k c')))[i]?=some (.mk v t s' cs) -> ∃ cs',h[i]?=some (.mk v t s' cs')/\(i≠id->cs'=cs)/\(i=id->cs'=cells/\cs=cells.set k c'):=by
  intro i v t s' cs he
  by_cases hii:i=id
  .subst hii
   rw[List.getElem?_set_self hid] at he
   cases he
   exact⟨cells,hi,λh=>absurd rfl h,λ_=>⟨rfl,rfl⟩⟩
  .rw[List.getElem?_set_ne (Ne.symm hii)] at he
   exact⟨cs,he,λ_=>rfl,λh=>absurd h hii⟩
 have how : ∀ i j,OwAt g (h.set id (.mk ver ty s (cells.set k c'))) i j->OwAt g h i j:=by
  rintro i j ⟨v,t,s',cs,b,cap,e1,e2,e3,e4⟩
  obtain⟨cs',f1,_⟩:=hget e1
  exact⟨v,t,s',cs',b,cap,f1,e2,e3,e4⟩
 refine⟨⟨?_,λi j k' h1 h2=>hs.inj i j k' (how i k' h1) (how j k' h2),hs.lt,?_,?_,⟨hs.glob.w,hs.glob.d⟩,λi k o T vs he=>hs.raw i k o T vs (Zej (by simp) he),λi j k ⟨o,T,vs,e1⟩ ⟨o',T',vs',e2⟩=>hs.rinj i j k ⟨o,T,vs,Zej (by simp) e1⟩ ⟨o',T',vs',Zej (by simp) e2⟩,hs.xw (Nat.le_refl _) rfl (λ_=>.inl) (λj hj=>.inl (hj.imp (λ⟨i,hj⟩=>⟨i,how i j hj⟩) (λ⟨i,o,T,vs,e⟩=>⟨i,o,T,vs,Zej (by simp) e⟩)))⟩,λj hj=>hj.imp (λ⟨i,hj⟩=>⟨i,how i j hj⟩) (λ⟨i,o,T,vs,e⟩=>⟨i,o,T,vs,Zej (by simp) e⟩)⟩
 .intro i v t s' cs he
  obtain⟨cs',f1,f2,f3⟩:=hget he
  obtain⟨A,cap,e1,e2,e3⟩:=hs.ent _ _ _ _ _ f1
  refine⟨A,cap,e1,e2,?_⟩
  by_cases hii:i=id
  .obtain⟨rfl,rfl⟩:=f3 hii
   rcases e3 with ⟨h0,h1⟩ | ⟨b,arr,rfl,x1,x2,x3,x4,x5,x6⟩
   .rw[h0] at hk;simp at hk
   .refine .inr ⟨b,arr,rfl,x1,x2,x3,x4,by simpa using x5,?_⟩
    obtain⟨u,hu,hr⟩:=x6.get hk
    have:=x6.set (k:=k) (hc u hr)
    have hself:(arr.toList.take cs'.length).set k u=arr.toList.take cs'.length:=by
     apply List.ext_getElem?
     intro j
     by_cases hj:j=k
     .subst hj
      have:j<(arr.toList.take cs'.length).length:=(List.getElem?_eq_some_iff.1 hu).1
      rw[List.getElem?_set_self this,hu]
     .rw[List.getElem?_set_ne (Ne.symm hj)]
    rw[hself] at this
    simpa using this
  .rw[<-f2 hii];exact e3
 .intro i v l hl
  have:=hs.fresh i v l hl
  refine⟨by simpa using this.1,λv' t s' cs he=>?_⟩
  obtain⟨cs',f1,_⟩:=hget he
  exact this.2 _ _ _ _ f1
 .intro i v l hl he
  by_cases hii:i=id
  .subst hii;rw[List.getElem?_set_self hid] at he;cases he
  .rw[List.getElem?_set_ne (Ne.symm hii)] at he;exact hs.free _ _ _ hl he
def ALe.iceCell {id j v' t' s' k:Nat}(hi:h[id]?=some (.mk ver ty s cells)) (hj:h[j]?=some (.mk v' t' s' cs)) (hne:j≠id) (hk:cs[k]?=some (.own id ver n)) (hl:n*s<=cells.length) :
  ALe n0 T h T ((h.set id .gone).set j (.mk v' t' s' (cs.set k (.sl n s false (cells.take (n*s)))))):=λw0 S0 g0 a w g st=>by
 obtain⟨h1,h2,h3⟩:=st.sim.ice hi
 have htm:=RepL.mono (g.le_ice h id) (λ_ _=>rfl) _ _ st.tmps
 obtain⟨k1,k2⟩:=h1.tell (id:=j) (by rw[List.getElem?_set_ne (Ne.symm hne)];exact hj) hk (λu hu=>h3 n u hl (by
  simp only[Rep] at hu ⊢
  exact hu))
 exact⟨g.ice h id,htm,st.defers,k1,st.fr,st.le.trans (g.le_ice h id),st.bd,λi hi=>st.ow i (h2 i (k2 i hi))⟩
def Zco (hc:ZbT P f=some af):enters P f=true:=by
 unfold ZbT at hc
 split at hc <;> try (cases hc;done)
 rename_i fn hfn
 split at hc <;> try (cases hc;done)
 rename_i hname
 split at hc <;> try (cases hc;done)
 rename_i c hb
 simp only[enters,hfn,hb]
 simp only[Bool.not_eq_true] at hname
 simp[bne,hname]
def ACalls.enter (hc:ZbT P f=some af) {args:List AV}{R:AE->Prop}
  (hw : ∀ n,h.length=n->(∀ e∈h,e.lt n=true)->AV.ltL n args=true->aw P n af.code (retA af.res λx h' => ∃ z,h'=h++z/\x.lt n=true/\R x) (args++List.replicate (af.ntmps-args.length) .any) (h++[])):ACalls P f args h λx h'=>h'=h/\R x :=
 ⟨Zco hc,λw g vs hs ha=>(ACalls.gc_same (ACalls.of_aw hc (by
  have:=hw h.length rfl hs.ltE (RepL.lt (λi v l hl=>(hs.fresh i v l hl).1) _ _ ha)
  rwa [List.append_nil] at this))).2 w g vs hs ha⟩
def ACalls.enterG (hc:ZbT P f=some af) {args:List AV}{R:AE->AH->Prop}
  (hw : ∀ n,h.length=n->(∀ e∈h,e.lt n=true)->AV.ltL n args=true->aw P n af.code (retA af.res λx h' => ∃ y z,h'=y++z/\y.length=n/\(∀ e∈y,e.lt n=true)/\x.lt n=true/\R x y) (args++List.replicate (af.ntmps-args.length) .any) (h++[])):ACalls P f args h R :=
 ⟨Zco hc,λw g vs hs ha=>(ACalls.gc (ACalls.of_aw hc (by
  have:=hw h.length rfl hs.ltE (RepL.lt (λi v l hl=>(hs.fresh i v l hl).1) _ _ ha)
  rwa [List.append_nil] at this))).2 w g vs hs ha⟩
def LoopTo (n0:Nat) {ι:Type}(S:ι->List AV×AH) (I:ι->Prop) (m:ι->Nat) (i:ι) (T:List AV) (h:AH):Prop :=
 ∃ k,k<m i /\ ∃ T1 h1,ALe n0 T h T1 h1 /\ ∃ j,m j=k/\I j/\T1=(S j).1/\h1=(S j).2
def LoopTo.mk {ι:Type}{S:ι->List AV×AH}{I:ι->Prop}{m:ι->Nat}{i:ι}(j:ι) (hm:m j<m i) (hI:I j) (hl:ALe n0 T h (S j).1 (S j).2):LoopTo n0 S I m i T h :=
 ⟨m j,hm,_,_,hl,j,rfl,hI,rfl,rfl⟩
def Zw6 {a:AC}{Q:AX->List AV->AH->Prop}{ι:Type}(S:ι->List AV×AH) (I:ι->Prop) (m:ι->Nat) (i0:ι) (hI:I i0) (h0:ALe n0 T h (S i0).1 (S i0).2)
  (round : ∀ i,I i->aw P n0 a (AX.thn (LoopTo n0 S I m i) Q) (S i).1 (S i).2):aw P n0 (.loop a) Q T h:=by
 refine⟨λn T h => ∃ i,m i=n/\I i/\T=(S i).1/\h=(S i).2,m i0,⟨_,_,h0,i0,rfl,hI,rfl,rfl⟩,?_⟩
 rintro n T h ⟨i,rfl,hi,rfl,rfl⟩
 exact round i hi
end
section
variable {P : Program} {n0 : Nat}
abbrev iv (n:Int):AV:=.v (.int .i64 n)
abbrev bv (b:Bool):AV:=.v (.bool b)
abbrev sv (s:ByteArray):AV:=.v (.string s)
section run
variable {Kp : AV -> List AV -> AH -> Prop} {K : List AV -> AH -> Prop} {rest : List AOper} {T T' : List AV} {h h' h0 ents ents' : AH} {rs : List Nat} {d : Option Nat} {op : AOp} {c : AV}
def noD (o:AOper):Bool:=ZcX o&&!isL o.op
def s_val (hn:ZcX ⟨d,none,op⟩=true) (hv:aval h (Zaf T) op=some c) (hp:aPut T d c=T') (hk:arun P Kp rest T' h K):arun P Kp (⟨d,none,op⟩::rest) T h K:=by
  subst hp
  refine⟨λ_=>?_,λh=>by cases h⟩
  have : (match aval h (Zaf T) op with
      | some c=>arun P Kp rest (aPut T d c) h K
      | none=>match aeff h (Zaf T) op with
        | some (c,h')=>arun P Kp rest (aPut T d c) h' K
        | none=>False):=by rw[hv];exact hk
  cases op <;> first | exact this | (simp[ZcX] at hn;done)
def s_eff (hn:ZcX ⟨d,none,op⟩=true) (hv:aval h (Zaf T) op=none) (he:aeff h (Zaf T) op=some (c,h')) (hp:aPut T d c=T') (hk:arun P Kp rest T' h' K):arun P Kp (⟨d,none,op⟩::rest) T h K:=by
  subst hp
  refine⟨λ_=>?_,λh=>by cases h⟩
  have : (match aval h (Zaf T) op with
      | some c=>arun P Kp rest (aPut T d c) h K
      | none=>match aeff h (Zaf T) op with
        | some (c,h')=>arun P Kp rest (aPut T d c) h' K
        | none=>False):=by rw[hv,he];exact hk
  cases op <;> first | exact this | (simp[ZcX] at hn;done)
def d_val (hn:noD ⟨d,none,op⟩=true) (hv:aval h0 (Zaf T) op=some c) (hp:aPut T d c=T') (hk:adrun P rs h0 rest T' ents K):adrun P rs h0 (⟨d,none,op⟩::rest) T ents K:=by
  subst hp
  refine⟨λ_=>?_,λh=>by cases h⟩
  have : (match aval h0 (Zaf T) op with
      | some c=>adrun P rs h0 rest (aPut T d c) ents K
      | none => ∃ c ent,(aallo (h0.length+ents.length) (Zaf T) op=some (c,ent)\/Zcp (h0.length+ents.length) (Zaf T) op=some (c,ent))/\adrun P rs h0 rest (aPut T d c) (ents++[ent]) K):=by rw[hv];exact hk
  cases op <;> first | exact this | (simp[noD,ZcX,isL] at hn;done)
def ZcI {ent:Ent}{id:Nat}(hn:noD ⟨d,none,op⟩=true) (hv:aval h0 (Zaf T) op=none) (hl:h0.length+ents.length=id) (he:aallo id (Zaf T) op=some (c,ent)) (hp:aPut T d c=T') (hx:ents++[ent]=ents') (hk:adrun P rs h0 rest T' ents' K):adrun P rs h0 (⟨d,none,op⟩::rest) T ents K:=by
  subst hp hx hl
  refine⟨λ_=>?_,λh=>by cases h⟩
  have : (match aval h0 (Zaf T) op with
      | some c=>adrun P rs h0 rest (aPut T d c) ents K
      | none => ∃ c ent,(aallo (h0.length+ents.length) (Zaf T) op=some (c,ent)\/Zcp (h0.length+ents.length) (Zaf T) op=some (c,ent))/\adrun P rs h0 rest (aPut T d c) (ents++[ent]) K):=by rw[hv];exact⟨c,ent,.inl he,hk⟩
  cases op <;> first | exact this | (simp[noD,ZcX,isL] at hn;done)
def d_effI {ent:Ent}{id:Nat}(hn:noD ⟨d,none,op⟩=true) (hv:aval h0 (Zaf T) op=none) (hl:h0.length+ents.length=id) (he:Zcp id (Zaf T) op=some (c,ent)) (hp:aPut T d c=T') (hx:ents++[ent]=ents') (hk:adrun P rs h0 rest T' ents' K):adrun P rs h0 (⟨d,none,op⟩::rest) T ents K:=by
  subst hp hx hl
  refine⟨λ_=>?_,λh=>by cases h⟩
  have : (match aval h0 (Zaf T) op with
      | some c=>adrun P rs h0 rest (aPut T d c) ents K
      | none => ∃ c ent,(aallo (h0.length+ents.length) (Zaf T) op=some (c,ent)\/Zcp (h0.length+ents.length) (Zaf T) op=some (c,ent))/\adrun P rs h0 rest (aPut T d c) (ents++[ent]) K):=by rw[hv];exact⟨c,ent,.inr he,hk⟩
  cases op <;> first | exact this | (simp[noD,ZcX,isL] at hn;done)
def d_ldP {agg:Bool}{id:Nat}{x:Operand}(hx:Zaf T x=.ptr id v off) (he:h0[id]?=some (.mk v ty s cells)) (hc:Zcm agg sz (cells.drop off)=some c) (hm:id∈rs) (hp:aPut T d c=T') (hk:adrun P rs h0 rest T' ents K):adrun P rs h0 (⟨d,none,.loadR agg sz x⟩::rest) T ents K:=by
 subst hp
 refine⟨λ_=>?_,λh=>by cases h⟩
 simp only[adstep,hx]
 exact⟨ty,s,cells,c,he,hc,hm,hk⟩
def k_nil {q:List Bool}(hk:K T h):ZcJ P rs q [] T h K:=by cases q <;> exact hk
def k_val {m:Bool}{q:List Bool}(hn:ZcX ⟨d,none,op⟩=true) (hv:aval h (Zaf T) op=some c) (hp:aPut T d c=T') (hk:ZcJ P rs q rest T' h K):ZcJ P rs (m::q) (⟨d,none,op⟩::rest) T h K:=by
  subst hp
  refine⟨λ_=>?_,λh=>by cases h⟩
  have : (match aval h (Zaf T) op with
      | some c=>ZcJ P rs q rest (aPut T d c) h K
      | none=>match aeff h (Zaf T) op with
        | some (c,h')=>(∀ id∈(bif m then rs else []),h'[id]?=h[id]?)/\ZcJ P rs q rest (aPut T d c) h' K
        | none=>False):=by rw[hv];exact hk
  cases op <;> first | exact this | (simp[ZcX] at hn;done)
def k_eff {m:Bool}{q:List Bool}(hn:ZcX ⟨d,none,op⟩=true) (hv:aval h (Zaf T) op=none) (he:aeff h (Zaf T) op=some (c,h')) (hr : ∀ id∈(bif m then rs else []),h'[id]?=h[id]?) (hp:aPut T d c=T') (hk:ZcJ P rs q rest T' h' K):ZcJ P rs (m::q) (⟨d,none,op⟩::rest) T h K:=by
  subst hp
  refine⟨λ_=>?_,λh=>by cases h⟩
  have : (match aval h (Zaf T) op with
      | some c=>ZcJ P rs q rest (aPut T d c) h K
      | none=>match aeff h (Zaf T) op with
        | some (c,h')=>(∀ id∈(bif m then rs else []),h'[id]?=h[id]?)/\ZcJ P rs q rest (aPut T d c) h' K
        | none=>False):=by rw[hv,he];exact⟨hr,hk⟩
  cases op <;> first | exact this | (simp[ZcX] at hn;done)
def k_call {m:Bool}{q:List Bool}{xs:List Operand}(hx:xs.map (Zaf T)=ats) (hc:ACalls P f ats h λr h2=>r=.ret c/\h2=h') (hr : ∀ id∈(bif m then rs else []),h'[id]?=h[id]?) (hp:aPut T d c=T') (hk:ZcJ P rs q rest T' h' K):ZcJ P rs (m::q) (⟨d,none,.call (.func f) xs⟩::rest) T h K:=by
 subst hp hx
 refine⟨λ_=>?_,λh=>by cases h⟩
 exact⟨c,h',⟨rfl,rfl,hc.mono λr h2 hr=>⟨hr.2,hr.1⟩⟩,hr,hk⟩
def Zg1 {g:Option (Nat×Bool)}{f f':Bool->Prop}(hf : ∀ b,f b->f' b) (h:agd g T f):agd g T f':=by
 unfold agd at *
 split
 .exact hf _ h
 .split <;> rename_i hx <;> simp only[hx] at h <;> first | exact hf _ h | exact h
def Zrk : ∀ {al:List AOper}{q:List Bool}{T:List AV}{h:AH},al.all ZcX=true->arun P Kp al T h K->ZcJ P [] q al T h K
 | [],q,_,_,_,hr=>k_nil hr
 | ⟨d,g,op⟩::al,q,T,h,hn,hr=>by
  simp only[List.all_cons,Bool.and_eq_true] at hn
  simp only[arun] at hr
  simp only[ZcJ]
  refine Zg1 (λb hb=>⟨λe=>?_,λe=>Zrk hn.2 (hb.2 e)⟩) hr
  have h1:=hb.1 e
  have:(match aval h (Zaf T) op with
   | some c=>ZcJ P [] q.tail al (aPut T d c) h K
   | none=>match aeff h (Zaf T) op with
    | some (c,h')=>(∀ id∈(bif q.headD true then ([]:List Nat) else []),h'[id]?=h[id]?)/\ZcJ P [] q.tail al (aPut T d c) h' K
    | none=>False):=by
   have h2:(match aval h (Zaf T) op with
    | some c=>arun P Kp al (aPut T d c) h K
    | none=>match aeff h (Zaf T) op with
     | some (c,h')=>arun P Kp al (aPut T d c) h' K
     | none=>False):=by
    cases op <;> first | exact h1 | (simp[ZcX] at hn;done)
   cases hv:aval h (Zaf T) op with
   | some c=>rw[hv] at h2;exact Zrk hn.2 h2
   | none =>
    rw[hv] at h2
    cases hv2:aeff h (Zaf T) op with
    | some p=>rw[hv2] at h2;exact⟨λ_ hm=>(by cases hq:q.headD true <;> rw[hq] at hm <;> cases hm),Zrk hn.2 h2⟩
    | none=>rw[hv2] at h2;exact h2
  cases op <;> first | exact this | (simp[ZcX] at hn;done)
def s_do {t:Nat}{b:Bool}(ht:T[t]?=some (.v (.bool b))) (hk:arun P Kp (⟨d,none,op⟩::rest) T h K):arun P Kp (⟨d,some (t,b),op⟩::rest) T h K:=by
 have h1:=hk.1 rfl
 simp only[arun,agd,ht]
 cases b <;> exact⟨λ_=>h1,λh=>(by cases h)⟩
def s_no {t:Nat}{b:Bool}(ht:T[t]?=some (.v (.bool (!b)))) (hp:aPut T d (.v undef)=T') (hk:arun P Kp rest T' h K):arun P Kp (⟨d,some (t,b),op⟩::rest) T h K:=by
 subst hp
 simp only[arun,agd,ht]
 cases b <;> exact⟨λh=>(by cases h),λ_=>hk⟩
def s_nu {t:Nat}{b:Bool}{vs:Array Value}(ht:T[t]?=some (.v (.tuple vs))) (hp:aPut T d (.v undef)=T') (hk:arun P Kp rest T' h K):arun P Kp (⟨d,some (t,b),op⟩::rest) T h K:=by
 subst hp
 simp only[arun,agd,ht]
 exact⟨λh=>(by cases h),λ_=>hk⟩
def d_do {t:Nat}{b:Bool}(ht:T[t]?=some (.v (.bool b))) (hk:adrun P rs h0 (⟨d,none,op⟩::rest) T ents K):adrun P rs h0 (⟨d,some (t,b),op⟩::rest) T ents K:=by
 have h1:=hk.1 rfl
 simp only[adrun,agd,ht]
 cases b <;> exact⟨λ_=>h1,λh=>(by cases h)⟩
def d_no {t:Nat}{b:Bool}(ht:T[t]?=some (.v (.bool (!b)))) (hp:aPut T d (.v undef)=T') (hk:adrun P rs h0 rest T' ents K):adrun P rs h0 (⟨d,some (t,b),op⟩::rest) T ents K:=by
 subst hp
 simp only[adrun,agd,ht]
 cases b <;> exact⟨λh=>(by cases h),λ_=>hk⟩
def d_nu {t:Nat}{b:Bool}{vs:Array Value}(ht:T[t]?=some (.v (.tuple vs))) (hp:aPut T d (.v undef)=T') (hk:adrun P rs h0 rest T' ents K):adrun P rs h0 (⟨d,some (t,b),op⟩::rest) T ents K:=by
 subst hp
 simp only[adrun,agd,ht]
 exact⟨λh=>(by cases h),λ_=>hk⟩
def ZkO {f:FuncId}{xs:List Operand}{ats:List AV}{R:AE->AH->Prop}(hx:xs.map (Zaf T)=ats) (hc:ACalls P f ats h R) (hk : ∀ r h',R r h'->match r with
  | .ret c=>arun P Kp rest (aPut T d c) h' K
  | .pan c=>Kp c T h'):arun P Kp (⟨d,none,.call (.func f) xs⟩::rest) T h K:=by
 subst hx
 refine⟨λ_=>?_,λh=>by cases h⟩
 exact⟨rfl,rfl,hc.mono λr h' hr=>hk r h' hr⟩
def Zac {xs:List Operand}(hx:xs.map (Zaf T)=ats) (hc:ACalls P f ats h λr h'=>h'=h/\r=.ret c) (hp:aPut T d c=T') (hk:arun P Kp rest T' h K):arun P Kp (⟨d,none,.call (.func f) xs⟩::rest) T h K:=by
 subst hp
 refine ZkO hx hc ?_
 rintro r h' ⟨rfl,rfl⟩
 exact hk
def ZaB {xs:List Operand}(hx:xs.map (Zaf T)=ats) (hc : ∀ h,HExt h0 h->ACalls P f ats h λr h'=>h'=h/\r=.ret c) (hp:aPut T d c=T') (hk:adrun P rs h0 rest T' ents K):adrun P rs h0 (⟨d,none,.call (.func f) xs⟩::rest) T ents K:=by
 subst hp hx
 refine⟨λ_=>⟨c,λh hh=>⟨rfl,rfl,hc h hh⟩,hk⟩,λh=>by cases h⟩
end run
section vals
variable {h : AH} {T : List AV} {x y i : Operand} {c : AV}
def v_mv (hx:Zaf T x=c):aval h (Zaf T) (.mv x)=some c:=by simp only[aval,hx]
def Zaj {a b k:Operand}(hk:Zaf T k=bv true) (ha:Zaf T a=c):aval h (Zaf T) (.pick k a b)=some c:=by simp only[aval,hk,cond_true,ha]
def Zak {a b k:Operand}(hk:Zaf T k=bv false) (hb:Zaf T b=c):aval h (Zaf T) (.pick k a b)=some c:=by simp only[aval,hk,cond_false,hb]
def Zaa {id:Nat}(hx:Zaf T x=.ptr id v o) (he:h[id]?=some (.mk v ty s cells)) (hc:cells[o]?=some c):aval h (Zaf T) (.load false sz x)=some c:=by
 simp only[aval,hx,Zcx,he,if_true,Option.bind_some]
 have:cells.drop o=c::cells.drop (o+1):=by
  obtain⟨hlt,rfl⟩:=List.getElem?_eq_some_iff.1 hc
  exact List.drop_eq_getElem_cons hlt
 rw[this];rfl
def Zad {id:Nat}(hx:Zaf T x=.ptr id v o) (he:h[id]?=some (.mk v ty s cells)) (hc:(cells.drop o).take sz=cs) (hl:cs.length=sz):aval h (Zaf T) (.load true sz x)=some (.agg cs):=by
 simp only[aval,hx,Zcx,he,if_true,Option.bind_some,Zcm]
 subst hc
 rw[List.length_take] at hl
 rw[if_pos (by omega)]
def Zav {sz:Nat}{cells:List AV}(hx:Zaf T x=.rp cells) (hc:cells[0]?=some c):aval h (Zaf T) (.load false sz x)=some c:=by
 simp only[aval,hx,Zcx,Option.bind_some]
 cases cells with
 | nil=>simp at hc
 | cons a l=>simp at hc;subst hc;rfl
def Zar (hx:Zaf T x=.rp cells) (hc:cells.take sz=cs) (hl:cs.length=sz):aval h (Zaf T) (.load true sz x)=some (.agg cs):=by
 simp only[aval,hx,Zcx,Option.bind_some,Zcm]
 subst hc
 rw[List.length_take] at hl
 rw[if_pos (by omega)]
def Zcj {id:Nat}(hx:Zaf T x=.ptr id v o):aval h (Zaf T) (.nck x)=some (.ptr id v o):=by simp only[aval,hx]
def Zbu {id:Nat}(hx:Zaf T x=.ptr id v o):aval h (Zaf T) (.fa off x)=some (.ptr id v (o+off)):=by simp only[aval,hx]
def ZbU {id:Nat}(hx:Zaf T x=.ptr id v 0):aval h (Zaf T) (.fa off x)=some (.ptr id v off):=by simp only[aval,hx,Nat.zero_add]
def ZaZ {ds:List AV}(hx:Zaf T x=.rp cs) (hd:cs.drop off=ds):aval h (Zaf T) (.fa off x)=some (.rp ds):=by simp only[aval,hx,hd]
def v_fld (hx:Zaf T x=.agg cs) (hc:cs[off]?=some c):aval h (Zaf T) (.fld false off sz x)=some c:=by
 simp only[aval,hx,Zq0]
 have:cs.drop off=c::cs.drop (off+1):=by
  obtain⟨hlt,rfl⟩:=List.getElem?_eq_some_iff.1 hc
  exact List.drop_eq_getElem_cons hlt
 rw[this];rfl
def ZeG {op:BinOp}{a b:Value}(hx:Zaf T x=.v a) (hy:Zaf T y=.v b) (hv:vBin op a b=some c):aval h (Zaf T) (.bin op x y)=some c:=by simp only[aval,hx,hy,hv]
def w64 {e:Int}(h1 : -9223372036854775808<=e) (h2:e<=9223372036854775807):IntKind.i64.wrap e=e:=by rw[IntKind.wrap_i64];omega
def Zb0 {a:Int}(hx:Zaf T x=iv a) (hy:Zaf T y=iv b) (h1 : -9223372036854775808<=a+b) (h2:a+b<=9223372036854775807):aval h (Zaf T) (.bin .add x y)=some (iv (a+b)):=ZeG hx hy (by simp only[vBin,if_true,iBin,w64 h1 h2])
def Za2 {a:Int}(hx:Zaf T x=iv a) (hy:Zaf T y=iv b) (h1 : -9223372036854775808<=a-b) (h2:a-b<=9223372036854775807):aval h (Zaf T) (.bin .sub x y)=some (iv (a-b)):=ZeG hx hy (by simp only[vBin,if_true,iBin,w64 h1 h2])
def Zgg {a:Int}(hx:Zaf T x=iv a) (hy:Zaf T y=iv b) (h1 : -9223372036854775808<=a*b) (h2:a*b<=9223372036854775807):aval h (Zaf T) (.bin .mul x y)=some (iv (a*b)):=ZeG hx hy (by simp only[vBin,if_true,iBin,w64 h1 h2])
def Zhh {a:Int}(hx:Zaf T x=iv a) (hy:Zaf T y=iv b) (h0:0<=a) (hb:0<b) (h2:a<=9223372036854775807):aval h (Zaf T) (.bin .quo x y)=some (iv (a/b)):=ZeG hx hy (by
 have e:a.tdiv b=a/b:=Int.tdiv_eq_ediv_of_nonneg h0
 have h3:a/b<=a:=Int.ediv_le_self _ h0
 have h4:0<=a/b:=Int.ediv_nonneg h0 (by omega)
 simp only[vBin,if_true,iBin,if_neg (show ¬b=0 by omega),e,w64 (show -9223372036854775808<=a/b by omega) (show a/b<=9223372036854775807 by omega)])
def ZgA {a:Int}(hx:Zaf T x=.v (.int k a)) (hy:Zaf T y=.v (.int k b)) (h0:0<=a) (hb:b≠0):aval h (Zaf T) (.bin .rem x y)=some (.v (.int k (a%b))):=ZeG hx hy (by
 have e:a.tmod b=a%b:=Int.tmod_eq_emod_of_nonneg h0
 simp only[vBin,if_true,iBin,if_neg hb,e])
def Zqx {a:Int}(hx:Zaf T x=.v (.int k a)) (hy:Zaf T y=.v (.int k b)) (hb:b≠0):aval h (Zaf T) (.bin .rem x y)=some (.v (.int k (a.tmod b))):=ZeG hx hy (by simp only[vBin,if_true,iBin,if_neg hb])
def ZaJ {a:Int}(hx:Zaf T x=.v (.int k a)) (hy:Zaf T y=.v (.int k b)):aval h (Zaf T) (.bin .lss x y)=some (bv (decide (a<b))):=ZeG hx hy (by simp only[vBin,if_true,iBin])
def ZdO {a:Int}(hx:Zaf T x=.v (.int k a)) (hy:Zaf T y=.v (.int k b)):aval h (Zaf T) (.bin .leq x y)=some (bv (decide (a<=b))):=ZeG hx hy (by simp only[vBin,if_true,iBin])
def Zbr {a:Int}(hx:Zaf T x=.v (.int k a)) (hy:Zaf T y=.v (.int k b)):aval h (Zaf T) (.bin .gtr x y)=some (bv (decide (b<a))):=ZeG hx hy (by simp only[vBin,if_true,iBin,gt_iff_lt])
def Zeo {a:Int}(hx:Zaf T x=.v (.int k a)) (hy:Zaf T y=.v (.int k b)):aval h (Zaf T) (.bin .geq x y)=some (bv (decide (b<=a))):=ZeG hx hy (by simp only[vBin,if_true,iBin,ge_iff_le])
def Za0 {a:Int}(hx:Zaf T x=.v (.int k a)) (hy:Zaf T y=.v (.int k b)):aval h (Zaf T) (.bin .eql x y)=some (bv (decide (a=b))):=ZeG hx hy (by simp only[vBin,if_true,iBin];rfl)
def ZaY {a:Int}(hx:Zaf T x=.v (.int k a)) (hy:Zaf T y=.v (.int k b)):aval h (Zaf T) (.bin .neq x y)=some (bv (decide (a≠b))):=ZeG hx hy (by
 simp only[vBin,if_true,iBin]
 by_cases hab:a=b <;> simp[hab])
def ZbP (a b:ByteArray):(a==b)=decide (a=b):=by
 rw[beq_toListBytes,ByteArray.toList_eq,ByteArray.toList_eq]
 by_cases h:a=b
 .subst h;simp
 .have:a.data≠b.data:=λe=>h (ByteArray.ext e)
  simp[h,this]
def Ze4 {a b:ByteArray}(hx:Zaf T x=sv a) (hy:Zaf T y=sv b):aval h (Zaf T) (.bin .eql x y)=some (bv (decide (a=b))):=ZeG hx hy (by simp only[vBin,sBin,ZbP])
def Zd2 {a b:ByteArray}(hx:Zaf T x=sv a) (hy:Zaf T y=sv b):aval h (Zaf T) (.bin .neq x y)=some (bv (decide (a≠b))):=ZeG hx hy (by
 simp only[vBin,sBin,ZbP]
 by_cases hab:a=b <;> simp[hab])
def v_addS {a b:ByteArray}(hx:Zaf T x=sv a) (hy:Zaf T y=sv b) (hl:a.size+b.size<=9223372036854775807):aval h (Zaf T) (.bin .add x y)=some (sv (a++b)):=ZeG hx hy (by simp only[vBin,sBin,if_pos hl])
def v_eqb {neg a b:Bool}(hx:Zaf T x=bv a) (hy:Zaf T y=bv b):aval h (Zaf T) (.eqb neg x y)=some (bv (bif neg then !(a==b) else a==b)):=by simp only[aval,hx,hy]
def v_eqs {neg b:Bool}{ks:List LK}{ds:List AV}(hx:Zaf T x=.agg cs) (hy:Zaf T y=.agg ds) (he:Za7 ks cs ds=some b):aval h (Zaf T) (.eqs neg ks x y)=some (bv (bif neg then !b else b)):=by simp only[aval,hx,hy,he,Option.map_some]
def v_neg {a:Int}(hx:Zaf T x=iv a) (h1 : -9223372036854775807<=a) (h2:a<=9223372036854775807):aval h (Zaf T) (.un .neg x)=some (iv (-a)):=by simp only[aval,hx,Int.zero_sub,w64 (show -9223372036854775808 <= -a by omega) (show -a<=9223372036854775807 by omega)]
def v_not {p:Prop} [Decidable p] (hx:Zaf T x=bv (decide p)):aval h (Zaf T) (.un .not x)=some (bv (decide (¬p))):=by
 simp only[aval,hx]
 by_cases hp:p <;> simp[hp]
def v_lssS {a b:ByteArray}(hx:Zaf T x=sv a) (hy:Zaf T y=sv b):aval h (Zaf T) (.bin .lss x y)=some (bv (Op.bytesLess a.toList b.toList)):=ZeG hx hy (by simp only[vBin,sBin])
def v_leqS {a b:ByteArray}(hx:Zaf T x=sv a) (hy:Zaf T y=sv b):aval h (Zaf T) (.bin .leq x y)=some (bv (Op.bytesLess a.toList b.toList||a.toList==b.toList)):=ZeG hx hy (by simp only[vBin,sBin])
def v_gtrS {a b:ByteArray}(hx:Zaf T x=sv a) (hy:Zaf T y=sv b):aval h (Zaf T) (.bin .gtr x y)=some (bv (!(Op.bytesLess a.toList b.toList||a.toList==b.toList))):=ZeG hx hy (by simp only[vBin,sBin])
def v_shr {a:Int}(hx:Zaf T x=.v (.int k a)) (hy:Zaf T y=.v (.int k' b)) (hb:¬b<0):aval h (Zaf T) (.bin .shr x y)=some (.v (.int k (a.fdiv (2 ^ (min b.toNat k.bits))))):=ZeG hx hy (by simp only[vBin,if_neg hb])
def v_cvi {a:Int}(hx:Zaf T x=.v (.int k' a)):aval h (Zaf T) (.cvi k x)=some (.v (.int k (k.wrap a))):=by simp only[aval,hx]
def ZoF {a:Int}(hx:Zaf T x=.v (.int k' a)) (h1 : -9223372036854775808<=a) (h2:a<=9223372036854775807):aval h (Zaf T) (.cvi .i64 x)=some (iv a):=by simp only[aval,hx,w64 h1 h2]
def v_ix {s:ByteArray}{j:Int}(hx:Zaf T x=sv s) (hi:Zaf T i=.v (.int k j)) (h0:0<=j) (h1:j<s.size):aval h (Zaf T) (.ix x i)=some (.v (.int .u8 (ZbQ s j.toNat).toNat)):=by simp only[aval,hx,hi,if_pos (And.intro h0 h1)]
def ZaS (hx:Zaf T x=.tup l) (hl:l[n]?=some c):aval h (Zaf T) (.ext x n)=some c:=by simp only[aval,hx,hl]
def ZcK {s:ByteArray}(hx:Zaf T x=sv s):aval h (Zaf T) (.len true x)=some (iv s.size):=by simp only[aval,hx]
def Zaz {full:Bool}(hx:Zaf T x=.sl n st full cs):aval h (Zaf T) (.len false x)=some (iv n):=by simp only[aval,hx]
def Zcy {id:Nat}(hx:Zaf T x=.own id v n):aval h (Zaf T) (.len false x)=some (iv n):=by simp only[aval,hx]
def v_ia {full:Bool}{ds:List AV}{j:Int}(hx:Zaf T x=.sl n st full cs) (hi:Zaf T i=.v (.int k j)) (hst:0<st) (h0:0<=j) (h1:j<n) (hd:(cs.drop (j.toNat*st)).take st=ds):aval h (Zaf T) (.ia st x i)=some (.rp ds):=by
 simp[aval,hx,hi,hst,h0,h1,hd]
def v_iaO {id:Nat}{j:Int}(hx:Zaf T x=.own id v n) (hi:Zaf T i=.v (.int k j)) (he:h[id]?=some (.mk v ty st cells)) (hst:0<st) (h0:0<=j) (h1:j<n) (hl:n*st<=cells.length):aval h (Zaf T) (.ia st x i)=some (.ptr id v (j.toNat*st)):=by
 simp[aval,hx,hi,he,hst,h0,h1,hl]
def Zat {ps:List (Nat×Nat×Operand)}(hf:Zal (Zaf T) ps zero=some cs):aval h (Zaf T) (.build zero ps)=some (.agg cs):=by simp only[aval,hf,Option.map_some]
def v_sls {s:ByteArray}{lo hi:Option Operand}{l u:Int}(hx:Zaf T x=sv s) (hl:ZbC (Zaf T) 0 lo=some l) (hh:ZbC (Zaf T) s.size hi=some u) (h0:0<=l) (h1:l<=u) (h2:u<=s.size):aval h (Zaf T) (.sls x lo hi)=some (sv (s.extract l.toNat u.toNat)):=by
 simp only[aval,hx,hl,hh,if_pos (And.intro h0 (And.intro h1 h2))]
def v_slc {full:Bool}{lo hi:Option Operand}{l u:Int}(hx:Zaf T x=.sl n st full cs) (hl:ZbC (Zaf T) 0 lo=some l) (hh:ZbC (Zaf T) n hi=some u) (h0:0<=l) (h1:l<=u) (h2:u<=n) :
  aval h (Zaf T) (.slc st x lo hi none)=some (.sl (u.toNat-l.toNat) st (full&&decide (u=n)) ((cs.drop (l.toNat*st)).take ((u.toNat-l.toNat)*st))):=by
 simp[aval,hx,hl,hh,h0,h1,h2]
def Zui {f:Nat}{caps:List Operand}(hc:caps.map (Zaf T)=cs):aval h (Zaf T) (.mkbd f caps)=some (.bnd (.func f) cs):=by simp only[aval,hc]
def Zib {f:Nat}{caps:List Operand}(hc:caps.map (Zaf T)=cs):aval h (Zaf T) (.mkfn f caps)=some (.clo (.func f) cs):=by simp only[aval,hc]
def v_cap (hx:Zaf T x=.sl n st true cs):aval h (Zaf T) (.cap x)=some (iv n):=by simp only[aval,hx]
def v_mm {m:Bool}{a:Int}(hx:Zaf T x=.v (.int k a)) (hy:Zaf T y=.v (.int k' b)):aval h (Zaf T) (.mm m x y)=some (.v (.int k (bif m then (if b>a then b else a) else (if b<a then b else a)))):=by simp only[aval,hx,hy]
end vals
section effs
variable {h h' : AH} {T : List AV} {x y : Operand} {c : AV}
def ZaR {id:Nat}{z:List AV}(hl:h.length=id) (hh:h++[.mk 0 ty sz z]=h'):aeff h (Zaf T) (.new ty sz z)=some (.ptr id 0 0,h'):=by subst hl hh;rfl
def ZaM {id:Nat}(hc:Zaq (Zaf T x)=some cs) (hs:cs.length=sz) (hl:h.length=id) (hh:h++[.mk 0 ty sz cs]=h'):aeff h (Zaf T) (.box ty sz x)=some (.ptr id 0 0,h'):=by
 subst hl hh;simp only[aeff,hc,if_pos hs]
def ZcB {id:Nat}{ps:List (Nat×Nat×Operand)}(hf:Zal (Zaf T) ps zero=some cs) (hl:h.length=id) (hh:h++[.mk 0 ty st cs]=h'):aeff h (Zaf T) (.lit ty st len zero ps)=some (.own id 0 len,h'):=by
 subst hl hh;simp only[aeff,hf]
def Zai {id:Nat}{cells':List AV}(hp:Zaf T x=.ptr id v o) (hc:Zaq (Zaf T y)=some cs) (he:h[id]?=some (.mk v ty s cells)) (hs:cs.length=sz) (hle:o+sz<=cells.length) (hlf:cs.all leaf=true) (hst:setCells cells o cs=cells') (hh:h.set id (.mk v ty s cells')=h') :
  aeff h (Zaf T) (.store sz x y)=some (.v undef,h'):=by
 subst hst hh;simp only[aeff,hp,hc,he];rw[if_pos ⟨trivial,hs,hle,hlf⟩]
def Zby {id m:Nat}{news:List AV}(hx:Zcg h sz (Zaf T y)=some (m,news)) (hs:Zaf T x=.own id v n) (he:h[id]?=some (.mk v ty sz cells)) (hl:cells.length=n*sz) (hb:(n+m)*bytes<=140737488355328) (hlf:news.all leaf=true) (hh:h.set id (.mk (v+1) ty sz (cells++news))=h') :
  aeff h (Zaf T) (.app ty sz bytes x y)=some (.own id (v+1) (n+m),h'):=by
 subst hh;simp only[aeff,hx,hs,he];rw[if_pos ⟨trivial,trivial,trivial,hl,.inl hb,hlf⟩]
def e_appz {id:Nat}{k:Int}{kd:IntKind}(hs:Zaf T x=.sl 0 st true cs) (hy:Zaf T y=.v (.int kd k)) (h0:0<k) (hz:0<sz) (hb0:0<bytes) (hb:k*bytes<=140737488355328) (hl:h.length=id) (hh:h++[.mk 0 ty sz []]=h') :
  aeff h (Zaf T) (.appz ty sz bytes x y)=some (.own id 0 k.toNat,h'):=by
 subst hl hh;simp only[aeff,hs,hy,if_pos (And.intro h0 (And.intro hz (And.intro hb0 hb)))]
def e_app0 {id m:Nat}{news:List AV}(hx:Zcg h sz (Zaf T y)=some (m,news)) (hs:Zaf T x=.sl 0 st true cs) (hb:m*bytes<=140737488355328) (hlf:news.all leaf=true) (hl:h.length=id) (hh:h++[.mk 0 ty sz news]=h') :
  aeff h (Zaf T) (.app ty sz bytes x y)=some (.own id 0 m,h'):=by
 subst hl hh;simp only[aeff,hx,hs,if_pos (And.intro hb hlf)]
def Zix {id:Nat}{z:List AV}:aallo id (Zaf T) (.new ty sz z)=some (.ptr id 0 0,.mk 0 ty sz z):=rfl
def l_litI {id:Nat}{ps:List (Nat×Nat×Operand)}(hf:Zal (Zaf T) ps zero=some cs) (hl:cs.length=len*st):Zcp id (Zaf T) (.lit ty st len zero ps)=some (.sl len st false cs,.gone):=by simp only[Zcp,hf,if_pos hl]
def ZeR {id:Nat}{ps:List (Nat×Nat×Operand)}(hf:Zal (Zaf T) ps zero=some cs):aallo id (Zaf T) (.lit ty st len zero ps)=some (.own id 0 len,.mk 0 ty st cs):=by simp only[aallo,hf]
end effs
section code
variable {Q : AX -> List AV -> AH -> Prop} {T : List AV} {h : AH} {a b : AC}
def Zao {al:List AOper}(hr:arun P (λc T h=>Q (.pan c) T h) al T h (λT h=>Q .normal T h)):aw P n0 (.reg al) Q T h:=hr
def w_drw {bl tl:List AOper}{q:List Bool}{rs:List Nat}(hr:adrun P rs h bl T [] λT ents=>ZcJ P rs q tl T (h++ents) (λT h=>Q .normal T h)):aw P n0 (.drw bl q tl) Q T h:=⟨rs,hr⟩
def Zab (hr:aw P n0 a (AX.thn (λT h => ∃ T1 h1,ALe n0 T h T1 h1/\aw P n0 b Q T1 h1) Q) T h):aw P n0 (.seq a b) Q T h:=hr
def Zag {id:Nat}(hr:aw P n0 a (AX.blk id Q) T h):aw P n0 (.block id a) Q T h:=hr
def Za6 {c:Operand}(hc:Zaf T c=bv true) (hy:aw P n0 a Q T h):aw P n0 (.cond c a b) Q T h:=by
 simp only[aw,hc]
 exact⟨λ_=>hy,λe=>(by cases e)⟩
def ZaV {c:Operand}(hc:Zaf T c=bv false) (hn:aw P n0 b Q T h):aw P n0 (.cond c a b) Q T h:=by
 simp only[aw,hc]
 exact⟨λe=>(by cases e),λ_=>hn⟩
def Zae {rs:List AR}{R:AE->AH->Prop}(hr:aRes rs T h=some c) (hR:R (.ret c) h):retA rs R .ret T h:=by simp only[retA,hr];exact hR
def w_end {rs:List AR}{R:AE->AH->Prop}(hr:aRes rs T h=some c) (hR:R (.ret c) h):retA rs R .normal T h:=by simp only[retA,hr];exact hR
end code
end
section
variable {g i j o p q r t u v w y z A B C D E F G H I J K L M N O P Q R S U V W X Y Z α β γ δ ε ζ η θ ι κ μ ν ξ π ρ σ τ υ φ χ ψ ω b60 b61 b62 b63 b64 b65 b66 b67 b68 b69 c d : AV} {l m : List AV}
class Lk (T:List AV) (o:Operand) (c:outParam AV):Prop where
  h:Zaf T o=c
class Pt (T:List AV) (d:Option Nat) (c:AV) (U:outParam (List AV)):Prop where
  h:aPut T d c=U
class Gt (T:List AV) (n:Nat) (c:outParam AV):Prop where
  h:T[n]?=some c
def lk {o:Operand}[i:Lk T o c]:Zaf T o=c:=i.h
def pt {U:List AV}{d:Option Nat}[i:Pt T d c U]:aPut T d c=U:=i.h
def gt [i:Gt T n c]:T[n]?=some c:=i.h
section
variable {A B D E F G H I J K M N O P Q R c:AV}{l m:List AV}{n:Nat}
instance:Lk (A::l) (.tmp 0) A:=⟨rfl⟩
instance:Pt (A::l) (some 0) c (c::l):=⟨rfl⟩
instance:Gt (A::l) 0 A:=⟨rfl⟩
instance:Lk (A::B::l) (.tmp 1) B:=⟨rfl⟩
instance:Pt (A::B::l) (some 1) c (A::c::l):=⟨rfl⟩
instance:Gt (A::B::l) 1 B:=⟨rfl⟩
instance:Lk (A::B::D::l) (.tmp 2) D:=⟨rfl⟩
instance:Pt (A::B::D::l) (some 2) c (A::B::c::l):=⟨rfl⟩
instance:Gt (A::B::D::l) 2 D:=⟨rfl⟩
instance:Lk (A::B::D::E::l) (.tmp 3) E:=⟨rfl⟩
instance:Pt (A::B::D::E::l) (some 3) c (A::B::D::c::l):=⟨rfl⟩
instance:Gt (A::B::D::E::l) 3 E:=⟨rfl⟩
instance:Lk (A::B::D::E::F::l) (.tmp 4) F:=⟨rfl⟩
instance:Pt (A::B::D::E::F::l) (some 4) c (A::B::D::E::c::l):=⟨rfl⟩
instance:Gt (A::B::D::E::F::l) 4 F:=⟨rfl⟩
instance:Lk (A::B::D::E::F::G::l) (.tmp 5) G:=⟨rfl⟩
instance:Pt (A::B::D::E::F::G::l) (some 5) c (A::B::D::E::F::c::l):=⟨rfl⟩
instance:Gt (A::B::D::E::F::G::l) 5 G:=⟨rfl⟩
instance:Lk (A::B::D::E::F::G::H::l) (.tmp 6) H:=⟨rfl⟩
instance:Pt (A::B::D::E::F::G::H::l) (some 6) c (A::B::D::E::F::G::c::l):=⟨rfl⟩
instance:Gt (A::B::D::E::F::G::H::l) 6 H:=⟨rfl⟩
instance:Lk (A::B::D::E::F::G::H::I::l) (.tmp 7) I:=⟨rfl⟩
instance:Pt (A::B::D::E::F::G::H::I::l) (some 7) c (A::B::D::E::F::G::H::c::l):=⟨rfl⟩
instance:Gt (A::B::D::E::F::G::H::I::l) 7 I:=⟨rfl⟩
instance:Lk (A::B::D::E::F::G::H::I::J::l) (.tmp 8) J:=⟨rfl⟩
instance:Pt (A::B::D::E::F::G::H::I::J::l) (some 8) c (A::B::D::E::F::G::H::I::c::l):=⟨rfl⟩
instance:Gt (A::B::D::E::F::G::H::I::J::l) 8 J:=⟨rfl⟩
instance:Lk (A::B::D::E::F::G::H::I::J::K::l) (.tmp 9) K:=⟨rfl⟩
instance:Pt (A::B::D::E::F::G::H::I::J::K::l) (some 9) c (A::B::D::E::F::G::H::I::J::c::l):=⟨rfl⟩
instance:Gt (A::B::D::E::F::G::H::I::J::K::l) 9 K:=⟨rfl⟩
instance:Lk (A::B::D::E::F::G::H::I::J::K::M::l) (.tmp 10) M:=⟨rfl⟩
instance:Pt (A::B::D::E::F::G::H::I::J::K::M::l) (some 10) c (A::B::D::E::F::G::H::I::J::K::c::l):=⟨rfl⟩
instance:Gt (A::B::D::E::F::G::H::I::J::K::M::l) 10 M:=⟨rfl⟩
instance:Lk (A::B::D::E::F::G::H::I::J::K::M::N::l) (.tmp 11) N:=⟨rfl⟩
instance:Pt (A::B::D::E::F::G::H::I::J::K::M::N::l) (some 11) c (A::B::D::E::F::G::H::I::J::K::M::c::l):=⟨rfl⟩
instance:Gt (A::B::D::E::F::G::H::I::J::K::M::N::l) 11 N:=⟨rfl⟩
instance:Lk (A::B::D::E::F::G::H::I::J::K::M::N::O::l) (.tmp 12) O:=⟨rfl⟩
instance:Pt (A::B::D::E::F::G::H::I::J::K::M::N::O::l) (some 12) c (A::B::D::E::F::G::H::I::J::K::M::N::c::l):=⟨rfl⟩
instance:Gt (A::B::D::E::F::G::H::I::J::K::M::N::O::l) 12 O:=⟨rfl⟩
instance:Lk (A::B::D::E::F::G::H::I::J::K::M::N::O::P::l) (.tmp 13) P:=⟨rfl⟩
instance:Pt (A::B::D::E::F::G::H::I::J::K::M::N::O::P::l) (some 13) c (A::B::D::E::F::G::H::I::J::K::M::N::O::c::l):=⟨rfl⟩
instance:Gt (A::B::D::E::F::G::H::I::J::K::M::N::O::P::l) 13 P:=⟨rfl⟩
instance:Lk (A::B::D::E::F::G::H::I::J::K::M::N::O::P::Q::l) (.tmp 14) Q:=⟨rfl⟩
instance:Pt (A::B::D::E::F::G::H::I::J::K::M::N::O::P::Q::l) (some 14) c (A::B::D::E::F::G::H::I::J::K::M::N::O::P::c::l):=⟨rfl⟩
instance:Gt (A::B::D::E::F::G::H::I::J::K::M::N::O::P::Q::l) 14 Q:=⟨rfl⟩
instance:Lk (A::B::D::E::F::G::H::I::J::K::M::N::O::P::Q::R::l) (.tmp 15) R:=⟨rfl⟩
instance:Pt (A::B::D::E::F::G::H::I::J::K::M::N::O::P::Q::R::l) (some 15) c (A::B::D::E::F::G::H::I::J::K::M::N::O::P::Q::c::l):=⟨rfl⟩
instance:Gt (A::B::D::E::F::G::H::I::J::K::M::N::O::P::Q::R::l) 15 R:=⟨rfl⟩
instance (priority := high) [i:Lk l (.tmp n) c]:Lk (A::B::D::E::F::G::H::I::J::K::M::N::O::P::Q::R::l) (.tmp (n+16)) c:=⟨i.h⟩
instance (priority := high) [i:Pt l (some n) c m]:Pt (A::B::D::E::F::G::H::I::J::K::M::N::O::P::Q::R::l) (some (n+16)) c (A::B::D::E::F::G::H::I::J::K::M::N::O::P::Q::R::m):=⟨by have h:=i.h;show _=_;simp only [aPut] at h ⊢;rw [<-h];rfl⟩
instance (priority := high) [i:Gt l n c]:Gt (A::B::D::E::F::G::H::I::J::K::M::N::O::P::Q::R::l) (n+16) c:=⟨i.h⟩
end
def lk0:Zaf (g::l) (.tmp 0)=g:=rfl
def pt0:aPut (g::l) (some 0) c=c::l:=rfl
def gt0:(g::l)[0]?=some g:=rfl
def lk1:Zaf (g::i::l) (.tmp 1)=i:=rfl
def pt1:aPut (g::i::l) (some 1) c=g::c::l:=rfl
def gt1:(g::i::l)[1]?=some i:=rfl
def pt2:aPut (g::i::j::l) (some 2) c=g::i::c::l:=rfl
def gt2:(g::i::j::l)[2]?=some j:=rfl
def lk3:Zaf (g::i::j::o::l) (.tmp 3)=o:=rfl
def pt3:aPut (g::i::j::o::l) (some 3) c=g::i::j::c::l:=rfl
def gt3:(g::i::j::o::l)[3]?=some o:=rfl
def lk4:Zaf (g::i::j::o::p::l) (.tmp 4)=p:=rfl
def pt4:aPut (g::i::j::o::p::l) (some 4) c=g::i::j::o::c::l:=rfl
def gt4:(g::i::j::o::p::l)[4]?=some p:=rfl
def pt5:aPut (g::i::j::o::p::q::l) (some 5) c=g::i::j::o::p::c::l:=rfl
def gt5:(g::i::j::o::p::q::l)[5]?=some q:=rfl
def lk6:Zaf (g::i::j::o::p::q::r::l) (.tmp 6)=r:=rfl
def pt6:aPut (g::i::j::o::p::q::r::l) (some 6) c=g::i::j::o::p::q::c::l:=rfl
def gt6:(g::i::j::o::p::q::r::l)[6]?=some r:=rfl
def lk7:Zaf (g::i::j::o::p::q::r::t::l) (.tmp 7)=t:=rfl
def pt7:aPut (g::i::j::o::p::q::r::t::l) (some 7) c=g::i::j::o::p::q::r::c::l:=rfl
def gt7:(g::i::j::o::p::q::r::t::l)[7]?=some t:=rfl
def pt8:aPut (g::i::j::o::p::q::r::t::u::l) (some 8) c=g::i::j::o::p::q::r::t::c::l:=rfl
def gt8:(g::i::j::o::p::q::r::t::u::l)[8]?=some u:=rfl
def pt9:aPut (g::i::j::o::p::q::r::t::u::v::l) (some 9) c=g::i::j::o::p::q::r::t::u::c::l:=rfl
def gt9:(g::i::j::o::p::q::r::t::u::v::l)[9]?=some v:=rfl
def pt10:aPut (g::i::j::o::p::q::r::t::u::v::w::l) (some 10) c=g::i::j::o::p::q::r::t::u::v::c::l:=rfl
def gt10:(g::i::j::o::p::q::r::t::u::v::w::l)[10]?=some w:=rfl
def pt11:aPut (g::i::j::o::p::q::r::t::u::v::w::y::l) (some 11) c=g::i::j::o::p::q::r::t::u::v::w::c::l:=rfl
def gt11:(g::i::j::o::p::q::r::t::u::v::w::y::l)[11]?=some y:=rfl
def pt12:aPut (g::i::j::o::p::q::r::t::u::v::w::y::z::l) (some 12) c=g::i::j::o::p::q::r::t::u::v::w::y::c::l:=rfl
def lk13:Zaf (g::i::j::o::p::q::r::t::u::v::w::y::z::A::l) (.tmp 13)=A:=rfl
def pt13:aPut (g::i::j::o::p::q::r::t::u::v::w::y::z::A::l) (some 13) c=g::i::j::o::p::q::r::t::u::v::w::y::z::c::l:=rfl
def lk14:Zaf (g::i::j::o::p::q::r::t::u::v::w::y::z::A::B::l) (.tmp 14)=B:=rfl
def pt14:aPut (g::i::j::o::p::q::r::t::u::v::w::y::z::A::B::l) (some 14) c=g::i::j::o::p::q::r::t::u::v::w::y::z::A::c::l:=rfl
def lk16:Zaf (g::i::j::o::p::q::r::t::u::v::w::y::z::A::B::C::D::l) (.tmp 16)=D:=rfl
def pt18:aPut (g::i::j::o::p::q::r::t::u::v::w::y::z::A::B::C::D::E::F::l) (some 18) c=g::i::j::o::p::q::r::t::u::v::w::y::z::A::B::C::D::E::c::l:=rfl
def gt18:(g::i::j::o::p::q::r::t::u::v::w::y::z::A::B::C::D::E::F::l)[18]?=some F:=rfl
def lk19:Zaf (g::i::j::o::p::q::r::t::u::v::w::y::z::A::B::C::D::E::F::G::l) (.tmp 19)=G:=rfl
def pt19:aPut (g::i::j::o::p::q::r::t::u::v::w::y::z::A::B::C::D::E::F::G::l) (some 19) c=g::i::j::o::p::q::r::t::u::v::w::y::z::A::B::C::D::E::F::c::l:=rfl
def lk21:Zaf (g::i::j::o::p::q::r::t::u::v::w::y::z::A::B::C::D::E::F::G::H::I::l) (.tmp 21)=I:=rfl
def pt21:aPut (g::i::j::o::p::q::r::t::u::v::w::y::z::A::B::C::D::E::F::G::H::I::l) (some 21) c=g::i::j::o::p::q::r::t::u::v::w::y::z::A::B::C::D::E::F::G::H::c::l:=rfl
def lk22:Zaf (g::i::j::o::p::q::r::t::u::v::w::y::z::A::B::C::D::E::F::G::H::I::J::l) (.tmp 22)=J:=rfl
def pt22:aPut (g::i::j::o::p::q::r::t::u::v::w::y::z::A::B::C::D::E::F::G::H::I::J::l) (some 22) c=g::i::j::o::p::q::r::t::u::v::w::y::z::A::B::C::D::E::F::G::H::I::c::l:=rfl
def lk23:Zaf (g::i::j::o::p::q::r::t::u::v::w::y::z::A::B::C::D::E::F::G::H::I::J::K::l) (.tmp 23)=K:=rfl
def pt23:aPut (g::i::j::o::p::q::r::t::u::v::w::y::z::A::B::C::D::E::F::G::H::I::J::K::l) (some 23) c=g::i::j::o::p::q::r::t::u::v::w::y::z::A::B::C::D::E::F::G::H::I::J::c::l:=rfl
def lk26:Zaf (g::i::j::o::p::q::r::t::u::v::w::y::z::A::B::C::D::E::F::G::H::I::J::K::L::M::N::l) (.tmp 26)=N:=rfl
def pt26:aPut (g::i::j::o::p::q::r::t::u::v::w::y::z::A::B::C::D::E::F::G::H::I::J::K::L::M::N::l) (some 26) c=g::i::j::o::p::q::r::t::u::v::w::y::z::A::B::C::D::E::F::G::H::I::J::K::L::M::c::l:=rfl
def hs0 (hn:h.length=n:=by assumption) {e:Ent}{l:AH}:(h++(e0::l)).set (n+0) e=h++(e::l):=by subst hn;simp
def hl0 (hn:h.length=n:=by assumption):(h++[]).length=n+0:=by subst hn;simp
def ha0 { e:Ent}:(h++[])++[e]=h++[e]:=by simp
def hs1 (hn:h.length=n:=by assumption) {e:Ent}{l:AH}:(h++(e0::e1::l)).set (n+1) e=h++(e0::e::l):=by subst hn;simp
def hl1 (hn:h.length=n:=by assumption) :(h++[e0]).length=n+1:=by subst hn;simp
def ha1 {e:Ent}:(h++[e0])++[e]=h++[e0,e]:=by simp
def hs2 (hn:h.length=n:=by assumption) {e:Ent}{l:AH}:(h++(e0::e1::e2::l)).set (n+2) e=h++(e0::e1::e::l):=by subst hn;simp
def hl2 (hn:h.length=n:=by assumption) :(h++[e0,e1]).length=n+2:=by subst hn;simp
def ha2 {e:Ent}:(h++[e0,e1])++[e]=h++[e0,e1,e]:=by simp
def hs3 (hn:h.length=n:=by assumption) {e:Ent}{l:AH}:(h++(e0::e1::e2::e3::l)).set (n+3) e=h++(e0::e1::e2::e::l):=by subst hn;simp
def hl3 (hn:h.length=n:=by assumption) :(h++[e0,e1,e2]).length=n+3:=by subst hn;simp
def ha3 {e:Ent}:(h++[e0,e1,e2])++[e]=h++[e0,e1,e2,e]:=by simp
def hs4 (hn:h.length=n:=by assumption) {e:Ent}{l:AH}:(h++(e0::e1::e2::e3::e4::l)).set (n+4) e=h++(e0::e1::e2::e3::e::l):=by subst hn;simp
def hl4 (hn:h.length=n:=by assumption) :(h++[e0,e1,e2,e3]).length=n+4:=by subst hn;simp
def ha4 {e:Ent}:(h++[e0,e1,e2,e3])++[e]=h++[e0,e1,e2,e3,e]:=by simp
def hg5 (hn:h.length=n) {l:AH}:(h++(e0::e1::e2::e3::e4::e5::l))[n+5]?=some e5:=by subst hn;simp
def hs5 (hn:h.length=n:=by assumption) {e:Ent}{l:AH}:(h++(e0::e1::e2::e3::e4::e5::l)).set (n+5) e=h++(e0::e1::e2::e3::e4::e::l):=by subst hn;simp
def hl5 (hn:h.length=n:=by assumption) :(h++[e0,e1,e2,e3,e4]).length=n+5:=by subst hn;simp
def ha5 {e:Ent}:(h++[e0,e1,e2,e3,e4])++[e]=h++[e0,e1,e2,e3,e4,e]:=by simp
def hg6 (hn:h.length=n) {l:AH}:(h++(e0::e1::e2::e3::e4::e5::e6::l))[n+6]?=some e6:=by subst hn;simp
def hs6 (hn:h.length=n:=by assumption) {e:Ent}{l:AH}:(h++(e0::e1::e2::e3::e4::e5::e6::l)).set (n+6) e=h++(e0::e1::e2::e3::e4::e5::e::l):=by subst hn;simp
def hl6 (hn:h.length=n:=by assumption) :(h++[e0,e1,e2,e3,e4,e5]).length=n+6:=by subst hn;simp
def ha6 {e:Ent}:(h++[e0,e1,e2,e3,e4,e5])++[e]=h++[e0,e1,e2,e3,e4,e5,e]:=by simp
def hg7 (hn:h.length=n) {l:AH}:(h++(e0::e1::e2::e3::e4::e5::e6::e7::l))[n+7]?=some e7:=by subst hn;simp
def hs7 (hn:h.length=n:=by assumption) {e:Ent}{l:AH}:(h++(e0::e1::e2::e3::e4::e5::e6::e7::l)).set (n+7) e=h++(e0::e1::e2::e3::e4::e5::e6::e::l):=by subst hn;simp
def hl7 (hn:h.length=n:=by assumption) :(h++[e0,e1,e2,e3,e4,e5,e6]).length=n+7:=by subst hn;simp
def ha7 {e:Ent}:(h++[e0,e1,e2,e3,e4,e5,e6])++[e]=h++[e0,e1,e2,e3,e4,e5,e6,e]:=by simp
def hg8 (hn:h.length=n) {l:AH}:(h++(e0::e1::e2::e3::e4::e5::e6::e7::e8::l))[n+8]?=some e8:=by subst hn;simp
def hs8 (hn:h.length=n:=by assumption) {e:Ent}{l:AH}:(h++(e0::e1::e2::e3::e4::e5::e6::e7::e8::l)).set (n+8) e=h++(e0::e1::e2::e3::e4::e5::e6::e7::e::l):=by subst hn;simp
def hl8 (hn:h.length=n:=by assumption) :(h++[e0,e1,e2,e3,e4,e5,e6,e7]).length=n+8:=by subst hn;simp
def ha8 {e:Ent}:(h++[e0,e1,e2,e3,e4,e5,e6,e7])++[e]=h++[e0,e1,e2,e3,e4,e5,e6,e7,e]:=by simp
def hg9 (hn:h.length=n) {e9:Ent}{l:AH}:(h++(e0::e1::e2::e3::e4::e5::e6::e7::e8::e9::l))[n+9]?=some e9:=by subst hn;simp
def dp0 :(l).drop 0=l:=rfl
def dp1 :(g::l).drop 1=l:=rfl
def dp2 :(g::i::l).drop 2=l:=rfl
def dp3 {j:AV}:(g::i::j::l).drop 3=l:=rfl
def dp4 {j o:AV}:(g::i::j::o::l).drop 4=l:=rfl
def dp7 {j o p q r:AV}:(g::i::j::o::p::q::r::l).drop 7=l:=rfl
def lki {n:Int}:Zaf T (.const (.int k n))=.v (.int k n):=rfl
def lkb {b:Bool}:Zaf T (.const (.bool b))=bv b:=rfl
def lks {s:ByteArray}:Zaf T (.const (.string s))=sv s:=rfl
def lkn :Zaf T (.const (.slice none 0 0))=.sl 0 0 true []:=rfl
def lkf :Zaf T (.func f)=.v (.func (.func f) #[] #[]):=rfl
def ptn :aPut T none c=T:=rfl
def mp0 :([]:List Operand).map (Zaf T)=[]:=rfl
def mp1 {x:Operand}{a:AV}{xs:List Operand}(h:Zaf T x=a) (hs:xs.map (Zaf T)=ats):(x::xs).map (Zaf T)=a::ats:=by rw[List.map_cons,h,hs]
class Mp (T:List AV) (x:List Operand) (a:outParam (List AV)):Prop where
  h:x.map (Zaf T)=a
def mp {x:List Operand}{a:List AV}[i:Mp T x a]:x.map (Zaf T)=a:=i.h
instance {T:List AV}:Mp T [] []:=⟨rfl⟩
instance {T:List AV}{o:Operand}{x:List Operand}{c:AV}{a:List AV}[i:Lk T o c][j:Mp T x a]:Mp T (o::x) (c::a):=⟨mp1 i.h j.h⟩
instance {T:List AV}{k:IntKind}{n:Int}:Lk T (.const (.int k n)) (.v (.int k n)):=⟨rfl⟩
instance {T:List AV}{b:Bool}:Lk T (.const (.bool b)) (bv b):=⟨rfl⟩
instance {T:List AV}{s:ByteArray}:Lk T (.const (.string s)) (sv s):=⟨rfl⟩
instance {T:List AV}:Lk T (.const (.slice none 0 0)) (.sl 0 0 true []):=⟨rfl⟩
instance {T:List AV}{f:FuncId}:Lk T (.func f) (.v (.func (.func f) #[] #[])):=⟨rfl⟩
end
end
section
section
variable {P : Program} {n0 : Nat}
def AX.thn_mono {N N':List AV->AH->Prop}{Q Q':AX->List AV->AH->Prop}(hn : ∀ T h,N T h->N' T h) (hq : ∀ x T h,Q x T h->Q' x T h) : ∀ x T h,AX.thn N Q x T h->AX.thn N' Q' x T h:=by
 intro x T h hx
 cases x <;> simp only[AX.thn] at hx ⊢ <;> first | exact hn _ _ hx | exact hq _ _ _ hx
def ZsK {f:AV}{xs:List AV}{h:AH}{R R':AE->AH->Prop}(hr : ∀ r h,R r h->R' r h) (hc:Zey P f xs h R):Zey P f xs h R':=by
 unfold Zey at *
 split
 .exact⟨hc.1,hc.2.1,hc.2.2.mono hr⟩
 .exact⟨hc.1,hc.2.1,λw g vs hs ha=>by
   obtain⟨f,t,a,b,h1,h2⟩:=hc.2.2 w g vs hs ha
   exact⟨f,t,a,b,h1,h2.mono λ_ _ ⟨x,h',g',h1,h2,h3,h4,h5,h6⟩=>⟨x,h',g',h1,h2,h3,h4,h5,hr _ _ h6⟩⟩⟩
 .exact hc.mono hr
 .exact hc.mono hr
 .rename_i h1 h0 h2 h3
  split at hc
  .exact absurd rfl (h1 _ _ _)
  .exact absurd rfl (h0 _ _ _)
  .exact absurd rfl (h2 _ _)
  .exact absurd rfl (h3 _ _)
  .exact hc
def ZsI {Kp Kp':AV->List AV->AH->Prop}{K K':List AV->AH->Prop}(hp : ∀ c T h,Kp c T h->Kp' c T h) (hk : ∀ T h,K T h->K' T h) {o:AOper}{T:List AV}{h:AH}(hs:astep P Kp o T h K):astep P Kp' o T h K':=by
 unfold astep at *
 split
 .rename_i heq
  rw[heq] at hs
  refine ZsK ?_ hs
  intro r h' hr
  cases r <;> first | exact hk _ _ hr | exact hp _ _ _ hr
 .rename_i heq
  rw[heq] at hs
  dsimp only at hs
  split at hs
  .exact hp _ _ _ hs
  .exact hs.elim
 .rename_i heq
  rw[heq] at hs
  dsimp only at hs
  split at hs <;> rename_i hx
  .exact λb hb=>hk _ _ (hs b hb)
  .exact hs.elim
 .rename_i h1 h2 h3
  have hs':(match aval h (Zaf T) o.op with
   | some c=>K (aPut T o.dst c) h
   | none=>match aeff h (Zaf T) o.op with
    | some (c,h')=>K (aPut T o.dst c) h'
    | none=>False):=by
   split at hs
   .rename_i heq;exact absurd heq (h1 _ _)
   .rename_i heq;exact absurd heq (h2 _)
   .rename_i heq;exact absurd heq (h3 _ _)
   .exact hs
  cases hv:aval h (Zaf T) o.op with
  | some c=>rw[hv] at hs';exact hk _ _ hs'
  | none =>
   rw[hv] at hs'
   cases hv2:aeff h (Zaf T) o.op with
   | some p=>rw[hv2] at hs';exact hk _ _ hs'
   | none=>rw[hv2] at hs';exact hs'
def ZjM {Kp Kp':AV->List AV->AH->Prop}{K K':List AV->AH->Prop}(hp : ∀ c T h,Kp c T h->Kp' c T h) (hk : ∀ T h,K T h->K' T h) : ∀ (l:List AOper) (T:List AV) (h:AH),arun P Kp l T h K->arun P Kp' l T h K'
 | [],T,h,hr=>hk _ _ hr
 | o::l,T,h,hr=>Zg1 (λb ⟨h1,h2⟩=>⟨λe=>ZsI hp (λT h hr=>ZjM hp hk l T h hr) (h1 e),λe=>ZjM hp hk l _ _ (h2 e)⟩) hr
def ZpS {rs:List Nat}{K K':List AV->AH->Prop}(hk : ∀ T h,K T h->K' T h) {h0:AH}{o:AOper}{T:List AV}{ents:AH}(hs:adstep P rs h0 o T ents K):adstep P rs h0 o T ents K':=by
 unfold adstep at *
 split
 .rename_i heq
  rw[heq] at hs
  obtain⟨c,h1,h2⟩:=hs
  exact⟨c,h1,hk _ _ h2⟩
 .rename_i agg sz x heq
  rw[heq] at hs
  dsimp only at hs
  split at hs <;> rename_i hx
  .split at hs <;> rename_i hy
   .exact hk _ _ hs
   .exact hs.elim
  .obtain⟨ty,s,cells,c,h1,h2,h3,h4⟩:=hs
   exact⟨ty,s,cells,c,h1,h2,h3,hk _ _ h4⟩
  .exact hs.elim
 .rename_i h1 h1b
  have hs':(match aval h0 (Zaf T) o.op with
   | some c=>K (aPut T o.dst c) ents
   | none => ∃ c ent,(aallo (h0.length+ents.length) (Zaf T) o.op=some (c,ent)\/Zcp (h0.length+ents.length) (Zaf T) o.op=some (c,ent))/\K (aPut T o.dst c) (ents++[ent])):=by
   split at hs
   .rename_i heq;exact absurd heq (h1 _ _)
   .rename_i heq;exact absurd heq (h1b _ _ _)
   .exact hs
  cases hv:aval h0 (Zaf T) o.op with
  | some c=>rw[hv] at hs';exact hk _ _ hs'
  | none =>
   rw[hv] at hs'
   obtain⟨c,ent,h1,h2⟩:=hs'
   exact⟨c,ent,h1,hk _ _ h2⟩
def Zex {rs:List Nat}{K K':List AV->AH->Prop}(hk : ∀ T h,K T h->K' T h) {h0:AH} : ∀ (l:List AOper) (T:List AV) (h:AH),adrun P rs h0 l T h K->adrun P rs h0 l T h K'
 | [],T,h,hr=>hk _ _ hr
 | o::l,T,h,hr=>Zg1 (λb ⟨h1,h2⟩=>⟨λe=>ZpS (λT h hr=>Zex hk l T h hr) (h1 e),λe=>Zex hk l _ _ (h2 e)⟩) hr
def ZpQ {rs:List Nat}{K K':List AV->AH->Prop}(hk : ∀ T h,K T h->K' T h) {o:AOper}{T:List AV}{h:AH}(hs:Zge P rs o T h K):Zge P rs o T h K':=by
 unfold Zge at *
 split
 .rename_i heq
  rw[heq] at hs
  obtain⟨c,h',h1,h2,h3⟩:=hs
  exact⟨c,h',h1,h2,hk _ _ h3⟩
 .rename_i heq;rw[heq] at hs;exact hs
 .rename_i heq;rw[heq] at hs;exact hs
 .rename_i h1 h2 h3
  have hs':(match aval h (Zaf T) o.op with
   | some c=>K (aPut T o.dst c) h
   | none=>match aeff h (Zaf T) o.op with
    | some (c,h')=>(∀ id∈rs,h'[id]?=h[id]?)/\K (aPut T o.dst c) h'
    | none=>False):=by
   split at hs
   .rename_i heq;exact absurd heq (h1 _ _)
   .rename_i heq;exact absurd heq (h2 _)
   .rename_i heq;exact absurd heq (h3 _ _)
   .exact hs
  cases hv:aval h (Zaf T) o.op with
  | some c=>rw[hv] at hs';exact hk _ _ hs'
  | none =>
   rw[hv] at hs'
   cases hv2:aeff h (Zaf T) o.op with
   | some p=>rw[hv2] at hs';exact⟨hs'.1,hk _ _ hs'.2⟩
   | none=>rw[hv2] at hs';exact hs'
def ZhL {rs:List Nat}{K K':List AV->AH->Prop}(hk : ∀ T h,K T h->K' T h) : ∀ (q:List Bool) (l:List AOper) (T:List AV) (h:AH),ZcJ P rs q l T h K->ZcJ P rs q l T h K'
 | q,[],T,h,hr=>by cases q <;> exact hk _ _ hr
 | q,o::l,T,h,hr=>Zg1 (λb ⟨h1,h2⟩=>⟨λe=>ZpQ (λT h hr=>ZhL hk q.tail l T h hr) (h1 e),λe=>ZhL hk q.tail l _ _ (h2 e)⟩) hr
def ZpM {K K':Bool×List Nat->List AV->AH->Prop}(hk : ∀ t T h,K t T h->K' t T h) {h0:AH}{o:AOper}{T:List AV}{h:AH}(hs:austep P h0 o T h K):austep P h0 o T h K':=by
 unfold austep at *
 split
 .rename_i heq
  rw[heq] at hs
  rcases hs with ⟨c,a,b⟩ | ⟨c,a,b,d⟩ | ⟨c,n,i,e,a,b,d,k⟩
  .exact .inl ⟨c,a,hk _ _ _ b⟩
  .exact .inr (.inl ⟨c,a,b,hk _ _ _ d⟩)
  .exact .inr (.inr ⟨c,n,i,e,a,b,d,hk _ _ _ k⟩)
 .rename_i heq;rw[heq] at hs;exact hs
 .rename_i heq;rw[heq] at hs;exact hs
 .rename_i heq;rw[heq] at hs;exact hs
 .rename_i h1 h2 h3 h4
  split at hs
  .rename_i heq;exact absurd heq (h1 _ _)
  .rename_i heq;exact absurd heq (h2 _)
  .rename_i heq;exact absurd heq (h3 _ _)
  .rename_i heq;exact absurd heq (h4 _ _ _)
  .rcases hs with ⟨c,a,b⟩ | ⟨c,a,b,d⟩ | ⟨c,n,i,e,a,b⟩ | ⟨c,e,a,b⟩
   .exact .inl ⟨c,a,hk _ _ _ b⟩
   .exact .inr (.inl ⟨c,a,b,hk _ _ _ d⟩)
   .exact .inr (.inr (.inl ⟨c,n,i,e,a,hk _ _ _ b⟩))
   .exact .inr (.inr (.inr ⟨c,e,a,hk _ _ _ b⟩))
def Zgv {K K':List AV->AH->Prop}(hk : ∀ T h,K T h->K' T h) {h0:AH} : ∀ (q:List (List Nat)) (l:List AOper) (tc:List (Bool×List Nat)) (T:List AV) (h:AH),Zbi P h0 q l tc T h K->Zbi P h0 q l tc T h K'
 | q,[],tc,T,h,hr=>by cases q <;> exact hk _ _ hr
 | q,o::l,tc,T,h,hr=>Zg1 (λb ⟨h1,h2⟩=>⟨λe=>ZpM (λt T h hr=>⟨hr.1,Zgv hk q.tail l _ T h hr.2⟩) (h1 e),λe=>Zgv hk q.tail l _ _ _ (h2 e)⟩) hr
def aw_mono : ∀ (c:AC) {Q Q':AX->List AV->AH->Prop},(∀ x T h,Q x T h->Q' x T h) -> ∀ T h,aw P n0 c Q T h->aw P n0 c Q' T h:=by
 intro c
 induction c with
 | skip=>intro Q Q' hq T h hw;exact hq _ _ _ hw
 | reg al=>intro Q Q' hq T h hw;exact ZjM (λc T h hk=>hq _ _ _ hk) (λT h hk=>hq _ _ _ hk) _ _ _ hw
 | drw b q t =>
  intro Q Q' hq T h hw
  obtain⟨rs,hw⟩:=hw
  exact⟨rs,Zex (λT h hk=>ZhL (λT h hk=>hq _ _ _ hk) _ _ _ _ hk) _ _ _ hw⟩
 | drwU q al=>intro Q Q' hq T h hw;exact Zgv (λT h hk=>hq _ _ _ hk) _ _ _ _ _ hw
 | orPan a x f al d0 iha =>
  intro Q Q' hq T h hw
  rcases hw with hw | ⟨cp,Pp,c,h1,h2,h3⟩
  .exact .inl (iha hq _ _ hw)
  .exact .inr ⟨cp,Pp,c,h1,h2,λT'' h'' hp=>hq _ _ _ (h3 T'' h'' hp)⟩
 | seq a b iha ihb =>
  intro Q Q' hq T h hw
  exact iha (AX.thn_mono (λT h ⟨T1,h1,hl,hk⟩=>⟨T1,h1,hl,ihb hq _ _ hk⟩) hq) _ _ hw
 | cond c a b iha ihb =>
  intro Q Q' hq T h hw
  simp only[aw] at hw ⊢
  split at hw <;> rename_i hx <;> try (exact hw.elim)
  exact⟨λe=>iha hq _ _ (hw.1 e),λe=>ihb hq _ _ (hw.2 e)⟩
 | block id a iha =>
  intro Q Q' hq T h hw
  refine iha ?_ _ _ hw
  intro x T h hx
  cases x <;> simp only[AX.blk] at hx ⊢ <;> try (exact hq _ _ _ hx)
  split at hx
  .rename_i e;rw[if_pos e];exact hq _ _ _ hx
  .rename_i e;rw[if_neg e];exact hq _ _ _ hx
 | loop a iha =>
  intro Q Q' hq T h hw
  obtain⟨I,n,h0,hr⟩:=hw
  exact⟨I,n,h0,λn T h hI=>iha (AX.thn_mono (λ_ _ hk=>hk) hq) _ _ (hr n T h hI)⟩
 | exit id=>intro Q Q' hq T h hw;exact hq _ _ _ hw
 | ret=>intro Q Q' hq T h hw;exact hq _ _ _ hw
def Wk (c d:AV):Prop := ∀ (w:World) (g:Gh) (v:Value),Rep w g c v->Rep w g d v
def Wk.refl (c:AV):Wk c c:=λ_ _ _ h=>h
def Wk.any (c:AV):Wk c .any:=λ_ _ _ _=>by simp only[Rep]
def Wk.trans {a b c:AV}(h:Wk a b) (k:Wk b c):Wk a c:=λw g v x=>k w g v (h w g v x)
def Wk.nil {st st':Nat}{full:Bool}:Wk (.sl 0 st full []) (.sl 0 st' full []):=λw g v h=>by
 simp only[Rep] at h ⊢
 obtain⟨_,A,cap,h1,h2,h3,h4,h5,_⟩:=h
 exact⟨by simp,A,cap,h1,h2,h3,h4,h5,λh=>absurd rfl h⟩
def Wk.full {n st:Nat}{full:Bool}{cs:List AV}:Wk (.sl n st full cs) (.sl n st false cs):=λw g v h=>by
 simp only[Rep] at h ⊢
 obtain⟨h0,A,cap,h1,h2,h3,h4,h5,h6⟩:=h
 exact⟨h0,A,cap,h1,h2,h3,λh=>(by cases h),h5,h6⟩
def Wk.nilF {st st':Nat}{full:Bool}:Wk (.sl 0 st full []) (.sl 0 st' false []):=Wk.nil.trans Wk.full
def WkL:List AV->List AV->Prop
 | [],[]=>True
 | c::cs,d::ds=>Wk c d/\WkL cs ds
 | _,_=>False
def WkL.refl : ∀ l,WkL l l
 | []=>trivial
 | c::cs=>⟨Wk.refl c,WkL.refl cs⟩
def RepL.wk {w:World}{g:Gh} : ∀ {cs ds:List AV}{vs:List Value},WkL cs ds->RepL w g cs vs->RepL w g ds vs
 | [],[],vs,_,h=>h
 | c::cs,d::ds,vs,hs,h=>by
  simp only[RepL] at h ⊢
  obtain⟨u,us,e,h1,h2⟩:=h
  exact⟨u,us,e,hs.1 _ _ _ h1,RepL.wk hs.2 h2⟩
 | [],_::_,_,hs,_=>hs.elim
 | _::_,[],_,hs,_=>hs.elim
def Wk.agg {cs ds:List AV}(h:WkL cs ds):Wk (.agg cs) (.agg ds):=λw g v hr=>by
 simp only[Rep] at hr ⊢
 obtain⟨vs,e,hc⟩:=hr
 exact⟨vs,e,hc.wk h⟩
def Wk.tup {cs ds:List AV}(h:WkL cs ds):Wk (.tup cs) (.tup ds):=λw g v hr=>by
 simp only[Rep] at hr ⊢
 obtain⟨vs,e,hc⟩:=hr
 exact⟨vs,e,hc.wk h⟩
def ALe.wk {T T1:List AV}{h:AH}(hs:WkL T T1):ALe n0 T h T1 h:=λw0 S0 g0 a w g st=>⟨g,st.tmps.wk hs,st.defers,st.sim,st.fr,st.le,st.bd,st.ow⟩
def ACalls.wk {f:FuncId}{as1 bs:List AV}{h:AH}{R:AE->AH->Prop}(hw:WkL as1 bs) (hc:ACalls P f bs h R):ACalls P f as1 h R:=⟨hc.1,λw g vs hs ha=>hc.2 w g vs hs (ha.wk hw)⟩
section code
variable {Kp : AV -> List AV -> AH -> Prop} {K N : List AV -> AH -> Prop} {Q : AX -> List AV -> AH -> Prop} {T : List AV} {h : AH} {a b : AC} {i j : Nat}
def Zam (hk:K T h):arun P Kp [] T h K:=hk
def ZaH {rs:List Nat}{h0:AH}(hk:K T h):adrun P rs h0 [] T h K:=hk
def Zay (hq:Q .normal T h):aw P n0 .skip Q T h:=hq
def Zax (hq:Q (.exit i) T h):aw P n0 (.exit i) Q T h:=hq
def Zbh (hq:Q .ret T h):aw P n0 .ret Q T h:=hq
def Zan (hr:aw P n0 b Q T h):AX.thn (λT h => ∃ T1 h1,ALe n0 T h T1 h1/\aw P n0 b Q T1 h1) Q .normal T h:=⟨T,h,ALe.refl,hr⟩
def ZaN {T1:List AV}{h1:AH}(hl:ALe n0 T h T1 h1) (hr:aw P n0 b Q T1 h1):AX.thn (λT h => ∃ T1 h1,ALe n0 T h T1 h1/\aw P n0 b Q T1 h1) Q .normal T h:=⟨T1,h1,hl,hr⟩
def Zaw (hr:N T h):AX.thn N Q .normal T h:=hr
def Zau (hr:Q .normal T h):AX.blk i Q .normal T h:=hr
def Zas (hr:Q (.exit i) T h):AX.thn N Q (.exit i) T h:=hr
def ZaK (hr:Q .normal T h):AX.blk i Q (.exit i) T h:=by simp only[AX.blk,if_true];exact hr
def x_pas (hij:j≠i) (hr:Q (.exit j) T h):AX.blk i Q (.exit j) T h:=by simp only[AX.blk,if_neg hij];exact hr
def Zah (hr:Q .ret T h):AX.thn N Q .ret T h:=hr
def Zap (hr:Q .ret T h):AX.blk i Q .ret T h:=hr
def ZaA {c:Operand}{t:Bool}(hc:Zaf T c=bv t) (hy:t=true->aw P n0 a Q T h) (hn:t=false->aw P n0 b Q T h):aw P n0 (.cond c a b) Q T h:=by
 simp only[aw,hc]
 exact⟨hy,hn⟩
def ZiN {t:Nat}{c:AV}(ht:T[t]?=some c):T.set t c=T:=by
 apply List.ext_getElem?
 intro j
 by_cases hj:j=t
 .subst hj
  have:j<T.length:=(List.getElem?_eq_some_iff.1 ht).1
  rw[List.getElem?_set_self this,ht]
 .rw[List.getElem?_set_ne (Ne.symm hj)]
def Zbd {t:Nat}{p:Bool}{T1 T2:List AV}{al:List AOper}(ht:T[t]?=some (bv p)) (hp1:aPut T (some t) (bv true)=T1) (hp2:aPut T (some t) (bv false)=T2) (hy:p=true->arun P Kp al T1 h K) (hn:p=false->arun P Kp al T2 h K):arun P Kp al T h K:=by
 have hs:=ZiN ht
 cases p
 .rw[<-hs];have:=hn rfl;rw[<-hp2] at this;exact this
 .rw[<-hs];have:=hy rfl;rw[<-hp1] at this;exact this
def Zmx {rs:List Nat}{h0:AH}{t:Nat}{p:Bool}{T1 T2:List AV}{al:List AOper}(ht:T[t]?=some (bv p)) (hp1:aPut T (some t) (bv true)=T1) (hp2:aPut T (some t) (bv false)=T2) (hy:p=true->adrun P rs h0 al T1 h K) (hn:p=false->adrun P rs h0 al T2 h K):adrun P rs h0 al T h K:=by
 have hs:=ZiN ht
 cases p
 .rw[<-hs];have:=hn rfl;rw[<-hp2] at this;exact this
 .rw[<-hs];have:=hy rfl;rw[<-hp1] at this;exact this
def Zeh {t:Nat}{p b:Bool}{T1:List AV}{al:List AOper}(ht:T[t]?=some (bv p)) (hb:p=b) (hp1:aPut T (some t) (bv b)=T1) (hy:arun P Kp al T1 h K):arun P Kp al T h K:=by
 have hs:=ZiN ht
 subst hb
 rw[<-hs];rw[<-hp1] at hy;exact hy
def Zfr {rs:List Nat}{h0:AH}{t:Nat}{p b:Bool}{T1:List AV}{al:List AOper}(ht:T[t]?=some (bv p)) (hb:p=b) (hp1:aPut T (some t) (bv b)=T1) (hy:adrun P rs h0 al T1 h K):adrun P rs h0 al T h K:=by
 have hs:=ZiN ht
 subst hb
 rw[<-hs];rw[<-hp1] at hy;exact hy
def Zeg {c:Operand}{p:Bool}(hc:Zaf T c=bv p) (hp:p=true) (hy:aw P n0 a Q T h):aw P n0 (.cond c a b) Q T h:=Za6 (by rw[hc,hp]) hy
def Zcr {c:Operand}{p:Bool}(hc:Zaf T c=bv p) (hp:p=false) (hy:aw P n0 b Q T h):aw P n0 (.cond c a b) Q T h:=ZaV (by rw[hc,hp]) hy
def w_seqc {ι:Type}(S:ι->List AV×AH) (J:ι->Prop) (ha:aw P n0 a (AX.thn (λT h => ∃ i,J i/\ALe n0 T h (S i).1 (S i).2) Q) T h) (hb : ∀ i,J i->aw P n0 b Q (S i).1 (S i).2):aw P n0 (.seq a b) Q T h :=
 aw_mono a (AX.thn_mono (λT h ⟨i,hi,hl⟩=>⟨_,_,hl,hb i hi⟩) (λ_ _ _ hq=>hq)) T h ha
def ZdS:List AV->List (Nat×AV)->List AV
 | T,[]=>T
 | T,(k,c)::ps=>ZdS (T.set k c) ps
def ZeK:AH->List (Nat×Ent)->AH
 | E,[]=>E
 | E,(k,e)::ps=>ZeK (E.set k e) ps
def Zfg {b:AC}{E:AH}{h0:AH}{ι:Type}(f:ι->List (Nat×AV)) (g:ι->List (Nat×Ent)) (J:ι->Prop) (ha:aw P n0 a (AX.thn (λT' h' => ∃ i,J i/\ALe n0 T' h' (ZdS T (f i)) (h0++ZeK E (g i))) Q) T (h0++E)) (hb : ∀ i,J i->aw P n0 b Q (ZdS T (f i)) (h0++ZeK E (g i))):aw P n0 (.seq a b) Q T (h0++E) :=
 w_seqc (λi=>(ZdS T (f i),h0++ZeK E (g i))) J ha hb
def Zd1 {E:AH}{h0:AH}{ι:Type}(f:ι->List (Nat×AV)) (g:ι->List (Nat×Ent)) (I:ι->Prop) (m:ι->Nat) (i0:ι) (hI:I i0) (hl:ALe n0 T (h0++E) (ZdS T (f i0)) (h0++ZeK E (g i0)))
  (round : ∀ i,I i->aw P n0 a (AX.thn (LoopTo n0 (λi=>(ZdS T (f i),h0++ZeK E (g i))) I m i) Q) (ZdS T (f i)) (h0++ZeK E (g i))):aw P n0 (.loop a) Q T (h0++E) :=
 Zw6 (λi=>(ZdS T (f i),h0++ZeK E (g i))) I m i0 hI hl round
def LoopTo.to {ι:Type}{f:ι->List (Nat×AV)}{g:ι->List (Nat×Ent)}{T0:List AV}{h0 E:AH}{I:ι->Prop}{m:ι->Nat}{i:ι}{T:List AV}{h:AH}(j:ι) (hm:m j<m i) (hI:I j) (hl:ALe n0 T h (ZdS T0 (f j)) (h0++ZeK E (g j))):LoopTo n0 (λi=>(ZdS T0 (f i),h0++ZeK E (g i))) I m i T h :=
 LoopTo.mk j hm hI hl
def ALe.back {T T1:List AV}{h0 E E1 x:AH}{k:Nat}(hs:WkL T T1) (he:E=E1++x) (hk:h0.length+E1.length=k) (hn:n0<=k) (hT:AV.ltL k T1=true) (hh : ∀ e∈h0,e.lt k=true) (hE:E1.all (Ent.lt k)=true):ALe n0 T (h0++E) T1 (h0++E1):=by
 subst he hk
 refine (ALe.wk hs).trans ?_
 have hl:(h0++E1).length=h0.length+E1.length:=by simp
 rw[<-List.append_assoc]
 refine ALe.cut (by rw[hl];exact hn) (by rw[hl];exact hT) ?_
 rw[hl]
 intro e he
 rcases List.mem_append.1 he with h1 | h1
 .exact hh e h1
 .exact List.all_eq_true.1 hE e h1
def ALe.same {T T1:List AV}{h h1:AH}(hs:WkL T T1) (he:h=h1):ALe n0 T h T1 h1:=by subst he;exact ALe.wk hs
def wk1 {c d:AV}{cs ds:List AV}(h:d=c) (hs:WkL cs ds):WkL (c::cs) (d::ds):=⟨by subst h;exact Wk.refl _,hs⟩
def wka {c:AV}{cs ds:List AV}(hs:WkL cs ds):WkL (c::cs) (.any::ds):=⟨Wk.any _,hs⟩
def wkw {c d:AV}{cs ds:List AV}(h:Wk c d) (hs:WkL cs ds):WkL (c::cs) (d::ds):=⟨h,hs⟩
def wk0:WkL [] []:=trivial
def ivx {a b:Int}(h:a=b):iv a=iv b:=by rw[h]
def hga {l:AH}{n k:Nat}{e:Ent}(hn:h.length=n) (hk:l[k]?=some e):(h++l)[n+k]?=some e:=by subst hn;rw[List.getElem?_append_right (by omega),Nat.add_sub_cancel_left,hk]
def ltw {n m:Nat}(h:n<=m) {l:AH}(hl : ∀ e∈l,e.lt n=true) : ∀ e∈l,e.lt m=true:=λe he=>Ent.lt_mono h (hl e he)
end code
section run
variable {Kp : AV -> List AV -> AH -> Prop} {K : List AV -> AH -> Prop} {rest : List AOper} {T T' : List AV} {h h' h0 ents ents' : AH} {d : Option Nat} {op : AOp} {c : AV}
def ZuX {neg:Bool}{x:Operand}{n st:Nat}{full:Bool}{cs:List AV}{T1:Bool->List AV}(hx:Zaf T x=.sl n st full cs) (hp : ∀ b,aPut T d (bv b)=T1 b) (hk : ∀ b,(0<n->b=neg)->arun P Kp rest (T1 b) h K):arun P Kp (⟨d,none,.eqn neg x⟩::rest) T h K:=by
 refine⟨λ_=>?_,λh=>by cases h⟩
 simp only[astep,hx]
 intro b hb
 rw[hp]
 exact hk b hb
def Zgk {f:FuncId}{x:Operand}{xs:List Operand}{as1:List AV}(hf:Zaf T x=.v (.func (.func f) #[] #[])) (hx:xs.map (Zaf T)=as1) (hc:ACalls P f as1 h λr h'=>h'=h/\r=.ret c) (hp:aPut T d c=T') (hk:arun P Kp rest T' h K):arun P Kp (⟨d,none,.call x xs⟩::rest) T h K:=by
 subst hp hx
 refine⟨λ_=>?_,λh=>by cases h⟩
 simp only[astep,hf,Zey]
 refine⟨trivial,trivial,hc.mono ?_⟩
 rintro r h' ⟨rfl,rfl⟩
 exact hk
def Zl1 {f:FuncId}{x:Operand}{xs:List Operand}{as1 caps:List AV}(hf:Zaf T x=.clo (.func f) caps) (hx:xs.map (Zaf T)=as1) (hc:ACalls P f (as1++caps) h λr h'=>h'=h/\r=.ret c) (hp:aPut T d c=T') (hk:arun P Kp rest T' h K):arun P Kp (⟨d,none,.call x xs⟩::rest) T h K:=by
 subst hp hx
 refine⟨λ_=>?_,λh=>by cases h⟩
 simp only[astep,hf,Zey]
 refine hc.mono ?_
 rintro r h' ⟨rfl,rfl⟩
 exact hk
def s_callh {f:FuncId}{xs:List Operand}{as1:List AV}(hx:xs.map (Zaf T)=as1) (hc:ACalls P f as1 h λr h''=>r=.ret c/\h''=h') (hp:aPut T d c=T') (hk:arun P Kp rest T' h' K):arun P Kp (⟨d,none,.call (.func f) xs⟩::rest) T h K:=by
 subst hp
 refine ZkO hx hc ?_
 rintro r h' ⟨rfl,rfl⟩
 exact hk
def ZoU {f:FuncId}{xs:List Operand}{as1 cells:List AV}{ty st id m:Nat}{H:Nat->AH}{T1:Nat->List AV}(hx:xs.map (Zaf T)=as1) (hc:ACalls P f as1 h λr h'' => ∃ v,r=.ret (.own h.length v m)/\h''=h++[.mk v ty st cells]) (hl:h.length=id) (hh : ∀ v,h++[.mk v ty st cells]=H v) (hp : ∀ v,aPut T d (.own id v m)=T1 v) (hk : ∀ v,arun P Kp rest (T1 v) (H v) K):arun P Kp (⟨d,none,.call (.func f) xs⟩::rest) T h K:=by
 subst hl
 refine ZkO hx hc ?_
 rintro r h' ⟨v,rfl,rfl⟩
 have:=hk v
 rw[<-hp,<-hh] at this
 exact this
def ZoV {f:FuncId}{xs:List Operand}{as1:List AV}{e e2:Ent}{id id2:Nat}{h1:AH}(hx:xs.map (Zaf T)=as1) (hc:ACalls P f as1 h λr h''=>r=.ret c/\h''=(h.set id e).set id2 e2) (hh:h.set id e=h1) (hh2:h1.set id2 e2=h') (hp:aPut T d c=T') (hk:arun P Kp rest T' h' K):arun P Kp (⟨d,none,.call (.func f) xs⟩::rest) T h K:=by
 subst hp hh2 hh
 refine ZkO hx hc ?_
 rintro r h' ⟨rfl,rfl⟩
 exact hk
def Zi9 {f:FuncId}{xs:List Operand}{as1:List AV}{e:Ent}{id:Nat}(hx:xs.map (Zaf T)=as1) (hc:ACalls P f as1 h λr h''=>r=.ret c/\h''=h.set id e) (hh:h.set id e=h') (hp:aPut T d c=T') (hk:arun P Kp rest T' h' K):arun P Kp (⟨d,none,.call (.func f) xs⟩::rest) T h K:=by
 subst hp hh
 refine ZkO hx hc ?_
 rintro r h' ⟨rfl,rfl⟩
 exact hk
def Zl2 {f:FuncId}{x:Operand}{xs:List Operand}{as1 first:List AV}(hf:Zaf T x=.bnd (.func f) first) (hx:xs.map (Zaf T)=as1) (hc:ACalls P f (first++as1) h λr h''=>r=.ret c/\h''=h') (hp:aPut T d c=T') (hk:arun P Kp rest T' h' K):arun P Kp (⟨d,none,.call x xs⟩::rest) T h K:=by
 subst hp hx
 refine⟨λ_=>?_,λh=>by cases h⟩
 simp only[astep,hf,Zey]
 refine hc.mono ?_
 rintro r h' ⟨rfl,rfl⟩
 exact hk
end run
section more
variable {Q : AX -> List AV -> AH -> Prop} {T : List AV} {h : AH} {a : AC}
def Zgu {c:AC}{h1:AH}(he:h1=h) (hw:aw P n0 c Q T h1):aw P n0 c Q T h:=by subst he;exact hw
def Zhg {ι:Type}(f:ι->List (Nat×AV)) (H:ι->AH) (I:ι->Prop) (m:ι->Nat) (i0:ι) (hI:I i0) (hl:ALe n0 T h (ZdS T (f i0)) (H i0))
  (round : ∀ i,I i->aw P n0 a (AX.thn (LoopTo n0 (λi=>(ZdS T (f i),H i)) I m i) Q) (ZdS T (f i)) (H i)):aw P n0 (.loop a) Q T h :=
 Zw6 (λi=>(ZdS T (f i),H i)) I m i0 hI hl round
def ZnJ {h E:AH}{id:Nat}{e:Ent}(hid:id<h.length):(h.set id e++E)[id]?=some e:=by
 rw[List.getElem?_append_left (by simpa using hid),List.getElem?_set_self hid]
def hx_set {h E:AH}{id:Nat}{e e':Ent}(hid:id<h.length):(h.set id e++E).set id e'=h.set id e'++E:=by
 rw[List.set_append_left _ _ (by simpa using hid),List.set_set]
def ZhB {h:AH}{id:Nat}{e:Ent}(he:h[id]?=some e):h.set id e=h:=by
 apply List.ext_getElem?
 intro j
 by_cases hj:j=id
 .subst hj
  have:j<h.length:=(List.getElem?_eq_some_iff.1 he).1
  rw[List.getElem?_set_self this,he]
 .rw[List.getElem?_set_ne (Ne.symm hj)]
def hx_len {h:AH}{id n:Nat}{e:Ent}(hn:h.length=n):(h.set id e).length=n:=by simpa using hn
def Zpo {h:AH}{id n:Nat}{e:Ent}(hlt : ∀ x∈h,x.lt n=true) (he:e.lt n=true) : ∀ x∈h.set id e,x.lt n=true:=by
 intro x hx
 rcases List.mem_or_eq_of_mem_set hx with h1 | rfl
 .exact hlt x h1
 .exact he
def ALe.iceR {T T':List AV}{h h':AH}{id ver ty s d n:Nat}{cells cs:List AV}(hi:h[id]?=some (.mk ver ty s cells)) (hd:T[d]?=some (.own id ver n)) (hc:cells.take (n*s)=cs) (hl:n*s<=cells.length) (hp:aPut T (some d) (.sl n s false cs)=T') (hh:h.set id .gone=h'):ALe n0 T h T' h':=by
 subst hp hh hc
 exact ALe.ice hi hd hl
def ALe.iceCellR {T:List AV}{h h1 h2:AH}{id j ver ty s n k v' t' s':Nat}{cells cs cs' ds:List AV}(hi:h[id]?=some (.mk ver ty s cells)) (hj:h[j]?=some (.mk v' t' s' cs)) (hne:j≠id) (hk:cs[k]?=some (.own id ver n)) (hc:cells.take (n*s)=ds) (hl:n*s<=cells.length) (hp:aPut cs (some k) (.sl n s false ds)=cs') (e1:h.set id .gone=h1) (e2:h1.set j (.mk v' t' s' cs')=h2):ALe n0 T h T h2:=by
 subst e2 e1 hp hc
 exact ALe.iceCell hi hj hne hk hl
def ALe.iceCellN {T:List AV}{h h1 h2:AH}{id j ver ty s n n' k v' t' s':Nat}{cells cs cs' ds:List AV}(hi:h[id]?=some (.mk ver ty s cells)) (hj:h[j]?=some (.mk v' t' s' cs)) (hne:j≠id) (hk:cs[k]?=some (.own id ver n)) (hc:cells.take (n*s)=ds) (hl:n*s<=cells.length) (hn:n=n') (hp:aPut cs (some k) (.sl n' s false ds)=cs') (e1:h.set id .gone=h1) (e2:h1.set j (.mk v' t' s' cs')=h2):ALe n0 T h T h2:=by
 subst hn
 exact ALe.iceCellR hi hj hne hk hc hl hp e1 e2
def ALe.iceN {T T':List AV}{h h':AH}{id ver ty s d n n':Nat}{cells cs:List AV}(hi:h[id]?=some (.mk ver ty s cells)) (hd:T[d]?=some (.own id ver n)) (hc:cells.take (n*s)=cs) (hl:n*s<=cells.length) (hn:n=n') (hp:aPut T (some d) (.sl n' s false cs)=T') (hh:h.set id .gone=h'):ALe n0 T h T' h':=by
 subst hn
 exact ALe.iceR hi hd hc hl hp hh
def SimH.tell1 {w:World}{g:Gh}{h:AH}(hs:SimH w g h) {id ver ty s k:Nat}{cells:List AV}{c c':AV}(hi:h[id]?=some (.mk ver ty s cells)) (hk:cells[k]?=some c)
  (hc : ∀ b cap u,g.loc id ver=some (some ⟨b,0,none⟩,cap)->w.cell? ⟨b,k,none⟩=some u->Rep w g c u->Rep w g c' u) :
  SimH w g (h.set id (.mk ver ty s (cells.set k c'))) /\ ∀ j,Ow g (h.set id (.mk ver ty s (cells.set k c'))) j->Ow g h j:=by
 have hid:id<h.length:=(List.getElem?_eq_some_iff.1 hi).1
 have hget : ∀ {i v t s':Nat} {cs:List AV},(h.set id (.mk ver ty s (cells.set k c')))[i]?=some (.mk v t s' cs) -> ∃ cs',h[i]?=some (.mk v t s' cs')/\(i≠id->cs'=cs)/\(i=id->v=ver/\cs'=cells/\cs=cells.set k c'):=by
  intro i v t s' cs he
  by_cases hii:i=id
  .subst hii
   rw[List.getElem?_set_self hid] at he
   cases he
   exact⟨cells,hi,λh=>absurd rfl h,λ_=>⟨rfl,rfl,rfl⟩⟩
  .rw[List.getElem?_set_ne (Ne.symm hii)] at he
   exact⟨cs,he,λ_=>rfl,λh=>absurd h hii⟩
 have how : ∀ i j,OwAt g (h.set id (.mk ver ty s (cells.set k c'))) i j->OwAt g h i j:=by
  rintro i j ⟨v,t,s',cs,b,cap,e1,e2,e3,e4⟩
  obtain⟨cs',f1,_⟩:=hget e1
  exact⟨v,t,s',cs',b,cap,f1,e2,e3,e4⟩
 refine⟨⟨?_,λi j k' h1 h2=>hs.inj i j k' (how i k' h1) (how j k' h2),hs.lt,?_,?_,⟨hs.glob.w,hs.glob.d⟩,λi k o T vs he=>hs.raw i k o T vs (Zej (by simp) he),λi j k ⟨o,T,vs,e1⟩ ⟨o',T',vs',e2⟩=>hs.rinj i j k ⟨o,T,vs,Zej (by simp) e1⟩ ⟨o',T',vs',Zej (by simp) e2⟩,hs.xw (Nat.le_refl _) rfl (λ_=>.inl) (λj hj=>.inl (hj.imp (λ⟨i,hj⟩=>⟨i,how i j hj⟩) (λ⟨i,o,T,vs,e⟩=>⟨i,o,T,vs,Zej (by simp) e⟩)))⟩,λj hj=>hj.imp (λ⟨i,hj⟩=>⟨i,how i j hj⟩) (λ⟨i,o,T,vs,e⟩=>⟨i,o,T,vs,Zej (by simp) e⟩)⟩
 .intro i v t s' cs he
  obtain⟨cs',f1,f2,f3⟩:=hget he
  obtain⟨A,cap,e1,e2,e3⟩:=hs.ent _ _ _ _ _ f1
  refine⟨A,cap,e1,e2,?_⟩
  by_cases hii:i=id
  .obtain⟨rfl,rfl,rfl⟩:=f3 hii
   rcases e3 with ⟨h0,h1⟩ | ⟨b,arr,rfl,x1,x2,x3,x4,x5,x6⟩
   .rw[h0] at hk;simp at hk
   .refine .inr ⟨b,arr,rfl,x1,x2,x3,x4,by simpa using x5,?_⟩
    obtain⟨u,hu,hr⟩:=x6.get hk
    have hcell:w.cell? ⟨b,k,none⟩=some u:=by
     rw[cell_of_row w b k arr t (0,0) x3]
     rw[List.getElem?_take] at hu
     split at hu
     .simpa using hu
     .cases hu
    subst hii
    have:=x6.set (k:=k) (hc b cap u e1 hcell hr)
    have hself:(arr.toList.take cs'.length).set k u=arr.toList.take cs'.length:=by
     apply List.ext_getElem?
     intro j
     by_cases hj:j=k
     .subst hj
      have:j<(arr.toList.take cs'.length).length:=(List.getElem?_eq_some_iff.1 hu).1
      rw[List.getElem?_set_self this,hu]
     .rw[List.getElem?_set_ne (Ne.symm hj)]
    rw[hself] at this
    simpa using this
  .rw[<-f2 hii];exact e3
 .intro i v l hl
  have:=hs.fresh i v l hl
  refine⟨by simpa using this.1,λv' t s' cs he=>?_⟩
  obtain⟨cs',f1,_⟩:=hget he
  exact this.2 _ _ _ _ f1
 .intro i v l hl he
  by_cases hii:i=id
  .subst hii;rw[List.getElem?_set_self hid] at he;cases he
  .rw[List.getElem?_set_ne (Ne.symm hii)] at he;exact hs.free _ _ _ hl he
def Zdv {h E:AH}{i j:Nat}{e f:Ent}(hne:i≠j) (hi:i<h.length):((h.set i e).set j f++E)[i]?=some e:=by
 rw[List.getElem?_append_left (by simpa using hi),List.getElem?_set_ne (Ne.symm hne),List.getElem?_set_self hi]
def Zdu {h E:AH}{i j:Nat}{e f:Ent}(hj:j<h.length):((h.set i e).set j f++E)[j]?=some f:=by
 rw[List.getElem?_append_left (by simpa using hj),List.getElem?_set_self (by simpa using hj)]
def ZgR {h E:AH}{i j:Nat}{e f e':Ent}(hne:i≠j) (hi:i<h.length):((h.set i e).set j f++E).set i e'=(h.set i e').set j f++E:=by
 rw[List.set_append_left _ _ (by simpa using hi),List.set_comm _ _ (Ne.symm hne),List.set_set]
def ZeT {h E:AH}{i j:Nat}{e f f':Ent}(hj:j<h.length):((h.set i e).set j f++E).set j f'=(h.set i e).set j f'++E:=by
 rw[List.set_append_left _ _ (by simpa using hj),List.set_set]
def ZfJ {h:AH}{i j:Nat}{e f:Ent}(he:h[i]?=some e) (hf:h[j]?=some f):(h.set i e).set j f=h:=by
 rw[ZhB he,ZhB hf]
def ZaX {h:AH}{i j n:Nat}{e f:Ent}(hn:h.length=n):((h.set i e).set j f).length=n:=by simpa using hn
def Zew {h:AH}{i j n:Nat}{e f:Ent}(hlt : ∀ x∈h,x.lt n=true) (he:e.lt n=true) (hf:f.lt n=true) : ∀ x∈(h.set i e).set j f,x.lt n=true:=Zpo (Zpo hlt he) hf
def Zdj {h E:AH}{i:Nat}{e:Ent}(he:h[i]?=some e):(h++E)[i]?=some e:=by
 rw[List.getElem?_append_left (List.getElem?_eq_some_iff.1 he).1];exact he
def ALe.icePtr {T T':List AV}{h h':AH}{id ver ty s d:Nat}{cells:List AV}(hi:h[id]?=some (.mk ver ty s cells)) (hd:T[d]?=some (.ptr id ver 0)) (hne:cells≠[]) (hp:aPut T (some d) (.rp cells)=T') (hh:h.set id .gone=h'):ALe n0 T h T' h':=λw0 S0 g0 a w g st=>by
 subst hp hh
 obtain⟨h1,h2,_⟩:=st.sim.ice hi
 have htm:=RepL.mono (g.le_ice h id) (λ_ _=>rfl) _ _ st.tmps
 obtain⟨u,hu,hr⟩:=st.tmps.get hd
 simp only[Rep] at hr
 obtain⟨b,cap,e1,rfl⟩:=hr
 obtain⟨A,cap',f1,_,f3⟩:=st.sim.ent _ _ _ _ _ hi
 rw[e1] at f1
 simp only[Option.some.injEq,Prod.mk.injEq] at f1
 obtain⟨rfl,rfl⟩:=f1
 rcases f3 with ⟨h0,_⟩ | ⟨b',arr,e,hc0,hdd,hb,hsz,hle,hrl⟩
 .exact absurd h0 hne
 .cases e
  have hset:=htm.set (k:=d) (c:=.rp cells) (u:=.pointer (some ⟨b,0,none⟩)) (by
   simp only[Rep]
   refine⟨b,0,rfl,.inr ⟨ver,ty,s,cells,_,cap,hi,e1,hc0,rfl⟩,RepC.of_row hb _ _ ?_⟩
   have:=RepL.mono (g.le_ice h id) (λ_ _=>rfl) _ _ hrl
   simpa using this)
  have hself:a.tmps.toList.set d (.pointer (some ⟨b,0,none⟩))=a.tmps.toList:=by
   apply List.ext_getElem?
   intro j
   by_cases hj:j=d
   .subst hj
    have:j<a.tmps.toList.length:=(List.getElem?_eq_some_iff.1 hu).1
    rw[List.getElem?_set_self this,hu]
   .rw[List.getElem?_set_ne (Ne.symm hj)]
  rw[hself] at hset
  exact⟨g.ice h id,hset,st.defers,h1,st.fr,st.le.trans (g.le_ice h id),st.bd,λk hk=>st.ow k (h2 k hk)⟩
def ALe.own0Cell {T:List AV}{h h1:AH}{j v' t' s' k st st' ty id:Nat}{cs ds cs':List AV}(hj:h[j]?=some (.mk v' t' s' cs)) (hk:cs[k]?=some (.sl 0 st true ds)) (hl:h.length=id) (hp:aPut cs (some k) (.own id 0 0)=cs') (he:(h++[Ent.mk 0 ty st' []]:AH).set j (Ent.mk v' t' s' cs')=h1):ALe n0 T h T h1:=λw0 S0 g0 a w g s=>by
 subst hl he hp
 obtain⟨A1,cap1,l1,l2,l3⟩:=s.sim.ent _ _ _ _ _ hj
 have hjl:j<h.length:=(List.getElem?_eq_some_iff.1 hj).1
 rcases l3 with ⟨h0,_⟩ | ⟨b,arr,rfl,x1,x2,x3,x4,x5,x6⟩
 .rw[h0] at hk;simp at hk
 obtain⟨u,hu,hr⟩:=x6.get hk
 have hcell:w.cell? ⟨b,k,none⟩=some u:=by
  rw[cell_of_row w b k arr t' (0,0) x3]
  rw[List.getElem?_take] at hu
  split at hu
  .simpa using hu
  .cases hu
 simp only[Rep] at hr
 obtain⟨_,A,cap,rfl,_,_,hc,_,_⟩:=hr
 obtain rfl:cap=0:=(hc trivial).symm
 obtain⟨q1,q2,q3⟩:=s.sim.add0 (w':=w) A ty st' (λ_ _=>rfl) (Nat.le_refl _)
 have htm:=RepL.mono q2 (λ_ _=>rfl) _ _ s.tmps
 obtain⟨r1,r2⟩:=q1.tell1 (id:=j) (c':=.own h.length 0 0) (by rw[List.getElem?_append_left hjl];exact hj) hk (by
  intro b' cap' u' e1 e2 _
  have:=q2.loc _ _ _ l1
  rw[this] at e1
  simp only[Option.some.injEq,Prod.mk.injEq,Addr.mk.injEq] at e1
  obtain⟨⟨rfl,_⟩,_⟩:=e1
  rw[hcell] at e2
  cases e2
  exact Zb1 (Nat.le_refl _) (by simp[maxLen]))
 exact⟨_,htm,s.defers,r1,s.fr,s.le.trans q2,s.bd,λi hi=>(q3 i (r2 i hi)).elim (s.ow i) (λh=>.inr (Nat.le_trans s.fr.size h))⟩
def ALe.own0 {T:List AV}{d st st' ty:Nat}{cs:List AV}(hd:T[d]?=some (.sl 0 st true cs)):ALe n0 T h (T.set d (.own h.length 0 0)) (h++[.mk 0 ty st' []]):=λw0 S0 g0 a w g s=>by
 obtain⟨u,hu,hr⟩:=s.tmps.get hd
 simp only[Rep] at hr
 obtain⟨_,A,cap,rfl,_,_,hc,_,_⟩:=hr
 obtain rfl:cap=0:=(hc trivial).symm
 obtain⟨h1,h2,h3⟩:=s.sim.add0 (w':=w) A ty st' (λ_ _=>rfl) (Nat.le_refl _)
 have htm:=RepL.mono h2 (λ_ _=>rfl) _ _ s.tmps
 have hset:=htm.set (k:=d) (c:=.own h.length 0 0) (u:=.slice A 0 0) (Zb1 (Nat.le_refl _) (by simp[maxLen]))
 have hself:a.tmps.toList.set d (.slice A 0 0)=a.tmps.toList:=by
  apply List.ext_getElem?
  intro j
  by_cases hj:j=d
  .subst hj
   have:j<a.tmps.toList.length:=(List.getElem?_eq_some_iff.1 hu).1
   rw[List.getElem?_set_self this,hu]
  .rw[List.getElem?_set_ne (Ne.symm hj)]
 rw[hself] at hset
 exact⟨_,hset,s.defers,h1,s.fr,s.le.trans h2,s.bd,λk hk=>(h3 k hk).elim (s.ow k) (λh=>.inr (Nat.le_trans s.fr.size h))⟩
def ALe.own0' {T T':List AV}{h h':AH}{d st st' ty id:Nat}{cs:List AV}(hd:T[d]?=some (.sl 0 st true cs)) (hl:h.length=id) (hp:aPut T (some d) (.own id 0 0)=T') (hh:h++[.mk 0 ty st' []]=h'):ALe n0 T h T' h':=by
 subst hl hp hh
 exact ALe.own0 hd
end more
end
section
variable {P : Program} {n0 : Nat}
mutual
/-- how long slices are -/
def AV.bd:AV->Prop
 | .sl n _ _ cs=>n<=9223372036854775807/\AV.bdL cs
 | .own _ _ n=>n<=9223372036854775807
 | .rp cs=>AV.bdL cs
 | .agg cs=>AV.bdL cs
 | .tup cs=>AV.bdL cs
 | .clo _ cs=>AV.bdL cs
 | .bnd _ cs=>AV.bdL cs
 | _=>True
def AV.bdL:List AV->Prop
 | []=>True
 | c::cs=>AV.bd c/\AV.bdL cs
end
mutual
def Rep.bd {w:World}{g:Gh} : ∀ (c:AV) (y:Value),Rep w g c y->c.bd
 | .v x,y,_=>by simp only[AV.bd]
 | .any,y,_=>by simp only[AV.bd]
 | .sl n st full cells,y,h=>by
  simp only[Rep] at h
  obtain⟨_,A,cap,h1,h2,h3,h4,h5,h6⟩:=h
  simp only[AV.bd]
  refine⟨by simp only[maxLen] at h3;omega,?_⟩
  by_cases hc:cells=[]
  .subst hc;simp only[AV.bdL]
  .obtain⟨b,off,_,_,h7⟩:=h6 hc
   exact RepC.bd cells b off h7
 | .own id ver n,y,h=>by
  simp only[Rep] at h
  obtain⟨A,cap,h1,h2,h3,_⟩:=h
  simp only[AV.bd]
  simp only[maxLen] at h3
  omega
 | .ptr id ver off,y,h=>by simp only[AV.bd]
 | .rp cells,y,h=>by
  simp only[Rep] at h
  obtain⟨b,off,e,hd,hc⟩:=h
  simp only[AV.bd]
  exact RepC.bd cells b off hc
 | .agg cells,y,h=>by
  simp only[Rep] at h
  obtain⟨vs,e,hc⟩:=h
  simp only[AV.bd]
  exact RepL.bd cells _ hc
 | .tup cells,y,h=>by
  simp only[Rep] at h
  obtain⟨vs,e,hc⟩:=h
  simp only[AV.bd]
  exact RepL.bd cells _ hc
 | .clo fn cells,y,h=>by
  simp only[Rep] at h
  obtain⟨vs,e,hc⟩:=h
  simp only[AV.bd]
  exact RepL.bd cells _ hc
 | .bnd fn cells,y,h=>by
  simp only[Rep] at h
  obtain⟨vs,e,hc⟩:=h
  simp only[AV.bd]
  exact RepL.bd cells _ hc
def RepC.bd {w:World}{g:Gh} : ∀ (cs:List AV) (b off:Nat),RepC w g cs b off->AV.bdL cs
 | [],_,_,_=>by simp only[AV.bdL]
 | c::cs,b,off,h=>by
  simp only[RepC] at h
  obtain⟨⟨u,h1,h2⟩,h3⟩:=h
  simp only[AV.bdL]
  exact⟨Rep.bd c u h2,RepC.bd cs b (off+1) h3⟩
def RepL.bd {w:World}{g:Gh} : ∀ (cs:List AV) (vs:List Value),RepL w g cs vs->AV.bdL cs
 | [],_,_=>by simp only[AV.bdL]
 | c::cs,vs,h=>by
  simp only[RepL] at h
  obtain⟨u,us,e,h1,h2⟩:=h
  simp only[AV.bdL]
  exact⟨Rep.bd c u h1,RepL.bd cs us h2⟩
end
def ACalls.into {f:FuncId}{af:AF}(hc:ZbT P f=some af) {args T0:List AV}{h:AH}{R:AE->Prop}(hT:args++List.replicate (af.ntmps-args.length) .any=T0)
  (hw : ∀ n,h.length=n->(∀ e∈h,e.lt n=true)->AV.ltL n args=true->AV.bdL args->aw P n af.code (retA af.res λx h' => ∃ z,h'=h++z/\x.lt n=true/\R x) T0 (h++[])):ACalls P f args h λx h'=>h'=h/\R x:=by
 subst hT
 exact⟨Zco hc,λw g vs hs ha=>(ACalls.enter (R:=R) hc λn h1 h2 h3=>hw n h1 h2 h3 (RepL.bd _ _ ha)).2 w g vs hs ha⟩
def ACalls.intoG {f:FuncId}{af:AF}(hc:ZbT P f=some af) {args T0:List AV}{h:AH}{R:AE->AH->Prop}(hT:args++List.replicate (af.ntmps-args.length) .any=T0)
  (hw : ∀ n,h.length=n->(∀ e∈h,e.lt n=true)->AV.ltL n args=true->AV.bdL args->aw P n af.code (retA af.res λx h' => ∃ y z,h'=y++z/\y.length=n/\(∀ e∈y,e.lt n=true)/\x.lt n=true/\R x y) T0 (h++[])):ACalls P f args h R:=by
 subst hT
 exact⟨Zco hc,λw g vs hs ha=>(ACalls.enterG (R:=R) hc λn h1 h2 h3=>hw n h1 h2 h3 (RepL.bd _ _ ha)).2 w g vs hs ha⟩
def ACalls.intoN {f:FuncId}{af:AF}(hc:ZbT P f=some af) {args T0:List AV}{h:AH}{R:AE->AH->Prop}(hT:args++List.replicate (af.ntmps-args.length) .any=T0)
  (hw : ∀ n,h.length=n->(∀ e∈h,e.lt n=true)->AV.ltL n args=true->AV.bdL args->aw P n af.code (retA af.res R) T0 (h++[])):ACalls P f args h R:=by
 subst hT
 refine⟨Zco hc,λw g vs hs ha=>(ACalls.of_aw (R:=R) hc ?_).2 w g vs hs ha⟩
 have:=hw h.length rfl hs.ltE (RepL.lt (λi v l hl=>(hs.fresh i v l hl).1) _ _ ha) (RepL.bd _ _ ha)
 rwa [List.append_nil] at this
def ACalls.weak {f:FuncId}{args:List AV}{h:AH}{res:AV}(hc:ACalls P f args h λx h'=>h'=h /\ ∃ c,x=.ret c/\Wk c res):ACalls P f args h λx h'=>h'=h/\x=.ret res:=by
 refine⟨hc.1,λw g vs hs ha=>(hc.2 w g vs hs ha).mono ?_⟩
 rintro e w' ⟨x,h',g',h1,h2,h3,h4,h5,rfl,c,rfl,hw⟩
 refine⟨.ret res,_,g',?_,h2,h3,h4,h5,rfl,rfl⟩
 cases e <;> simp only[EndR] at h1 ⊢
 exact hw _ _ _ h1
def rtw {n:Nat}{h E:AH}{c res:AV}(hl:c.lt n=true) (he:Wk c res) : ∃ z,h++E=h++z/\(AE.ret c).lt n=true /\ ∃ d,AE.ret c=.ret d/\Wk d res:=⟨E,rfl,hl,c,rfl,he⟩
def rt {n:Nat}{h E:AH}{c res:AV}(hl:c.lt n=true) (he:c=res) : ∃ z,h++E=h++z/\(AE.ret c).lt n=true/\AE.ret c=.ret res:=⟨E,rfl,hl,by rw[he]⟩
section
variable {T : List AV} {h : AH} {x y i : Operand} {c : AV}
def cvl {cs:List AV}(hx:Zaf T x=c) (hc:Zaq c=some cs):Zaq (Zaf T x)=some cs:=by rw[hx];exact hc
def oi {τ:Operand->AV}{d:Int}{k:IntKind}{j:Int}(hx:τ x=.v (.int k j)):ZbC τ d (some x)=some j:=by simp only[ZbC,hx]
def on_ {τ:Operand->AV}{d:Int}:ZbC τ d none=some d:=rfl
def ZaF {b:Bool}(hx:Zaf T x=bv b):aval h (Zaf T) (.un .not x)=some (bv (!b)):=by simp only[aval,hx]
def Zic {b:Bool}{ks:List LK}{cs ds:List AV}(hx:Zaf T x=.agg cs) (hy:Zaf T y=.agg ds) (he:Za7 ks cs ds=some b):aval h (Zaf T) (.eqs false ks x y)=some (bv b):=v_eqs hx hy he
def Zga {p:Prop} [Decidable p] {ks:List LK}{cs ds:List AV}(hx:Zaf T x=.agg cs) (hy:Zaf T y=.agg ds) (he:Za7 ks cs ds=some (decide p)):aval h (Zaf T) (.eqs true ks x y)=some (bv (decide (¬p))):=by
 rw[v_eqs hx hy he]
 by_cases hp:p <;> simp[hp]
def Zqy {a b:Bool}(hx:Zaf T x=bv a) (hy:Zaf T y=bv b):aval h (Zaf T) (.eqb true x y)=some (bv (decide (a≠b))):=by
 rw[v_eqb hx hy]
 cases a <;> cases b <;> rfl
def Zgj {m st sz:Nat}{full:Bool}{cs:List AV}(hx:Zaf T x=.sl m st full cs) (hl:cs.length=m*sz):Zcg h sz (Zaf T x)=some (m,cs):=by
 simp only[Zcg,hx,Zd7,if_pos hl]
def Zbm {id v m ty st sz:Nat}{cells cs:List AV}(hx:Zaf T x=.own id v m) (he:h[id]?=some (.mk v ty st cells)) (hs:st=sz) (hc:cells.take (m*sz)=cs) (hl:m*sz<=cells.length):Zcg h sz (Zaf T x)=some (m,cs):=by
 subst hc hs
 have:(cells.take (m*st)).length=m*st:=by rw[List.length_take];omega
 simp only[Zcg,hx,Zd7,he,if_pos (And.intro trivial hl),if_pos this]
def rows {α:Type}(f:α->List AV) (l:List α):List AV:=l.flatMap f
def Zbp {α:Type}{f:α->List AV}{st:Nat}(hf : ∀ x,(f x).length=st) : ∀ l,(rows f l).length=l.length*st
 | []=>by simp[rows]
 | x::l=>by
  have:=Zbp hf l
  simp only[rows] at this
  simp only[rows,List.flatMap_cons,List.length_append,hf,this,List.length_cons,Nat.add_mul,Nat.one_mul]
  omega
def ZgK {α:Type}{f:α->List AV}{st:Nat}(hf : ∀ x,(f x).length=st) : ∀ (k:Nat) (l:List α),(rows f l).drop (k*st)=rows f (l.drop k)
 | 0,l=>by simp
 | k+1,[]=>by simp[rows]
 | k+1,x::l=>by
  have:=ZgK hf k l
  simp only[rows] at this
  simp only[rows,List.flatMap_cons,List.drop_succ_cons]
  rw[Nat.add_mul,Nat.one_mul,Nat.add_comm,<-List.drop_drop,<-hf x,List.drop_left,hf x]
  exact this
def Zja {α:Type}{f:α->List AV}{st:Nat}(hf : ∀ x,(f x).length=st) : ∀ (k:Nat) (l:List α),(rows f l).take (k*st)=rows f (l.take k)
 | 0,l=>by simp[rows]
 | k+1,[]=>by simp[rows]
 | k+1,x::l=>by
  have:=Zja hf k l
  simp only[rows] at this
  simp only[rows,List.flatMap_cons,List.take_succ_cons]
  rw[Nat.add_mul,Nat.one_mul,List.take_append,hf x,<-this]
  rw[List.take_of_length_le (by rw[hf x];omega),show k*st+st-st=k*st by omega]
def Zgl {α:Type}{f:α->List AV}{st:Nat}(hf : ∀ x,(f x).length=st) {l:List α}{k:Nat}(hk:k<l.length):((rows f l).drop (k*st)).take st=f l[k]:=by
 rw[ZgK hf,List.drop_eq_getElem_cons hk]
 simp only[rows,List.flatMap_cons]
 rw[<-hf l[k],List.take_left]
def ZaG {α:Type}{f:α->List AV}(l m:List α):rows f (l++m)=rows f l++rows f m:=by simp[rows]
def Zbw {α:Type}{f:α->List AV}(x:α):rows f [x]=f x:=by simp[rows]
def ZcV {α:Type}{f:α->List AV}(hf : ∀ n x,AV.ltL n (f x)=true) {n:Nat} : ∀ l,AV.ltL n (rows f l)=true
 | []=>rfl
 | x::l=>by
  have:=ZcV hf (n:=n) l
  simp only[rows] at this
  simp only[rows,List.flatMap_cons]
  have key : ∀ a b:List AV,AV.ltL n a=true->AV.ltL n b=true->AV.ltL n (a++b)=true:=by
   intro a
   induction a with
   | nil=>intro b _ hb;exact hb
   | cons c cs ih=>intro b ha hb;simp only[AV.ltL,List.cons_append,Bool.and_eq_true] at ha ⊢;exact⟨ha.1,ih b ha.2 hb⟩
  exact key _ _ (hf n x) this
def ZdU {α:Type}{f:α->List AV}(hf : ∀ x,(f x).all leaf=true) : ∀ l,(rows f l).all leaf=true
 | []=>rfl
 | x::l=>by
  have:=ZdU hf l
  simp only[rows] at this
  simp only[rows,List.flatMap_cons,List.all_append,hf x,this,Bool.and_self]
def ZaE {α:Type}{f:α->List AV}{st n k:Nat}{full:Bool}{l:List α}{j:Int}{kd:IntKind}{ds:List AV}(hx:Zaf T x=.sl n st full (rows f l)) (hi:Zaf T i=.v (.int kd j)) (hf : ∀ x,(f x).length=st) (hst:0<st) (hj:j=(k:Int)) (hk:k<l.length) (hn:n=l.length) (hd:f l[k]=ds):aval h (Zaf T) (.ia st x i)=some (.rp ds):=by
 subst hj hn hd
 exact v_ia hx hi hst (by omega) (by omega) (by rw[Int.toNat_natCast];exact Zgl hf hk)
def v_lo {α:Type}{f:α->List AV}{st n k:Nat}{full:Bool}{l:List α}{j:Int}{kd:IntKind}{lo:Operand}(hx:Zaf T x=.sl n st full (rows f l)) (hi:Zaf T lo=.v (.int kd j)) (hf : ∀ x,(f x).length=st) (hj:j=(k:Int)) (hk:k<=l.length) (hn:n=l.length) :
  aval h (Zaf T) (.slc st x (some lo) none none)=some (.sl (l.drop k).length st full (rows f (l.drop k))):=by
 subst hj hn
 rw[v_slc hx (oi hi) on_ (by omega) (by omega) (by omega)]
 simp only[Int.toNat_natCast,decide_true,Bool.and_true,ZgK hf,List.length_drop]
 congr 2
 rw[List.take_of_length_le]
 rw[Zbp hf,List.length_drop]
 exact Nat.le_refl _
def v_hi {α:Type}{f:α->List AV}{st n k:Nat}{full:Bool}{l:List α}{j:Int}{kd:IntKind}{hi:Operand}(hx:Zaf T x=.sl n st full (rows f l)) (hi':Zaf T hi=.v (.int kd j)) (hf : ∀ x,(f x).length=st) (hj:j=(k:Int)) (hk:k<=l.length) (hn:n=l.length) :
  aval h (Zaf T) (.slc st x none (some hi) none)=some (.sl (l.take k).length st (full&&decide (k=l.length)) (rows f (l.take k))):=by
 subst hj hn
 rw[v_slc hx on_ (oi hi') (by omega) (by omega) (by omega)]
 simp only[Int.toNat_natCast,Nat.zero_mul,Int.toNat_zero,List.drop_zero,Nat.sub_zero,Zja hf,List.length_take,Nat.min_eq_left hk]
 have:decide ((k:Int)=(l.length:Int))=decide (k=l.length):=by
  simp only[decide_eq_decide];omega
 rw[this]
def v_lh {α:Type}{f:α->List AV}{st n k m:Nat}{full:Bool}{l:List α}{j u:Int}{kd kd':IntKind}{lo hi:Operand}(hx:Zaf T x=.sl n st full (rows f l)) (hj':Zaf T lo=.v (.int kd j)) (hi':Zaf T hi=.v (.int kd' u)) (hf : ∀ x,(f x).length=st) (hj:j=(k:Int)) (hu:u=(m:Int)) (hk:k<=m) (hm:m<=l.length) (hn:n=l.length) :
  aval h (Zaf T) (.slc st x (some lo) (some hi) none)=some (.sl ((l.take m).drop k).length st (full&&decide (m=l.length)) (rows f ((l.take m).drop k))):=by
 subst hj hn hu
 rw[v_slc hx (oi hj') (oi hi') (by omega) (by omega) (by omega)]
 simp only[Int.toNat_natCast,List.length_drop,List.length_take,Nat.min_eq_left hm]
 have:decide ((m:Int)=(l.length:Int))=decide (m=l.length):=by
  simp only[decide_eq_decide];omega
 rw[this,ZgK hf,Zja hf,<-List.drop_take]
def v_hiO {st id v n m:Nat}{j:Int}{kd:IntKind}{hi:Operand}(hx:Zaf T x=.own id v n) (hi':Zaf T hi=.v (.int kd j)) (hj:j=(m:Int)) (hm:m<=n):aval h (Zaf T) (.slc st x none (some hi) none)=some (.own id v m):=by
 subst hj
 simp only[aval,hx,oi hi']
 rw[if_pos (by omega),Int.toNat_natCast]
def ZaW {α:Type}{f:α->List AV}{st n k id v ty:Nat}{l:List α}{j:Int}{kd:IntKind}(hx:Zaf T x=.own id v n) (hi:Zaf T i=.v (.int kd j)) (he:h[id]?=some (.mk v ty st (rows f l))) (hf : ∀ x,(f x).length=st) (hst:0<st) (hj:j=(k:Int)) (hk:k<l.length) (hn:n=l.length):aval h (Zaf T) (.ia st x i)=some (.ptr id v (k*st)):=by
 subst hj hn
 rw[v_iaO hx hi he hst (by omega) (by omega) (by rw[Zbp hf];exact Nat.le_refl _),Int.toNat_natCast]
def Zfh {α:Type}{f:α->List AV}{sz k id v ty s:Nat}{l:List α}{cs:List AV}(hx:Zaf T x=.ptr id v (k*sz)) (he:h[id]?=some (.mk v ty s (rows f l))) (hf : ∀ x,(f x).length=sz) (hk:k<l.length) (hc:f l[k]=cs):aval h (Zaf T) (.load true sz x)=some (.agg cs) :=
 Zad hx he (by rw[Zgl hf hk,hc]) (by rw[<-hc,hf])
def ZeF {α:Type}{f:α->List AV}{k id v ty s:Nat}{l:List α}(hx:Zaf T x=.ptr id v (k*1)) (he:h[id]?=some (.mk v ty s (rows f l))) (hf : ∀ x,(f x).length=1) (hk:k<l.length) (hc:f l[k]=[c]):aval h (Zaf T) (.load false 1 x)=some c:=by
 refine Zaa hx he ?_
 have h1:=Zgl hf hk
 rw[hc] at h1
 have:=congrArg (·[0]?) h1
 simpa [List.getElem?_drop] using this
def Zif (f1:List AV) : ∀ (cs a b:List AV),cs.length=a.length->setCells (f1++(a++b)) f1.length cs=f1++(cs++b)
 | [],[],b,_=>rfl
 | [],_::_,_,h=>by simp at h
 | _::_,[],_,h=>by simp at h
 | c::cs,x::a,b,h=>by
  simp only[setCells]
  have h1:(f1++(x::a++b)).set f1.length c=(f1++[c])++(a++b):=by simp
  rw[h1]
  have h2:f1.length+1=(f1++[c]).length:=by simp
  rw[h2,Zif (f1++[c]) cs a b (by simpa using h)]
  simp
def Zl7 {α:Type}{f:α->List AV}{st:Nat}(hf : ∀ x,(f x).length=st) {l:List α}{k:Nat}(hk:k<l.length) (x:α):setCells (rows f l) (k*st) (f x)=rows f (l.set k x):=by
 have h1:rows f l=rows f (l.take k)++(f l[k]++rows f (l.drop (k+1))):=by
  have:l=l.take k++(l[k]::l.drop (k+1)):=by rw[<-List.drop_eq_getElem_cons hk,List.take_append_drop]
  calc rows f l=rows f (l.take k++(l[k]::l.drop (k+1))):=by rw[<-this]
   _=_:=by rw[ZaG];simp only[rows,List.flatMap_cons]
 have h2:(rows f (l.take k)).length=k*st:=by rw[Zbp hf,List.length_take,Nat.min_eq_left (by omega)]
 rw[h1,<-h2,Zif _ _ _ _ (by rw[hf,hf])]
 have h3:l.set k x=l.take k++(x::l.drop (k+1)):=by
  rw[List.set_eq_take_append_cons_drop,if_pos hk]
 rw[h3,ZaG]
 simp[rows]
def ZgV {α:Type}{f:α->List AV}{sz k id v ty s:Nat}{l:List α}{y:Operand}{z:α}{h':AH}(hx:Zaf T x=.ptr id v (k*sz)) (hc:Zaq (Zaf T y)=some (f z)) (he:h[id]?=some (.mk v ty s (rows f l))) (hf : ∀ x,(f x).length=sz) (hlf:(f z).all leaf=true) (hk:k<l.length) (hh:h.set id (.mk v ty s (rows f (l.set k z)))=h') :
  aeff h (Zaf T) (.store sz x y)=some (.v undef,h') :=
 Zai hx hc he (hf z) (by rw[Zbp hf];have:=Nat.mul_le_mul_right sz hk;rw[Nat.succ_mul] at this;exact this) hlf (Zl7 hf hk z) hh
def ZdH {s:ByteArray}{k:Nat}(hk:k<s.size):ZbQ s k=s[k]:=by
 unfold ZbQ
 rw[List.getD_eq_getElem?_getD,List.getElem?_eq_getElem (by simpa using hk)]
 rfl
def ZpJ {s:ByteArray}:s=⟨#[]⟩↔s.size=0:=by
 constructor
 .rintro rfl;rfl
 .intro h
  apply ByteArray.ext
  exact Array.size_eq_zero_iff.1 h
def v_eqlE {s:ByteArray}(hx:Zaf T x=sv s):aval h (Zaf T) (.bin .eql x (.const (.string ⟨#[]⟩)))=some (bv (decide (s.size=0))):=by
 rw[Ze4 hx lks]
 have:decide (s=(⟨#[]⟩:ByteArray))=decide (s.size=0):=by simp only[decide_eq_decide];exact ZpJ
 rw[this]
def rr_t {t:Nat}(ht:T[t]?=some c):Zff T h (.tmp t)=some c:=ht
def rr_c {t id v o ty s sz:Nat}{agg:Bool}{cells:List AV}(ht:T[t]?=some (.ptr id v o)) (he:h[id]?=some (.mk v ty s cells)) (hl:Zcm agg sz (cells.drop o)=some c):Zff T h (.cell t agg sz)=some c:=by
 simp only[Zff,ht,Zcx,he,if_true,Option.bind_some,hl]
def ld0 {sz:Nat}{l:List AV}{o:Nat}(hc:l[o]?=some c):Zcm false sz (l.drop o)=some c:=by
 have:l.drop o=c::l.drop (o+1):=by
  obtain⟨hlt,rfl⟩:=List.getElem?_eq_some_iff.1 hc
  exact List.drop_eq_getElem_cons hlt
 rw[this];rfl
def ld1 {sz:Nat}{l cs:List AV}{o:Nat}(hc:(l.drop o).take sz=cs) (hl:cs.length=sz):Zcm true sz (l.drop o)=some (.agg cs):=by
 subst hc
 rw[List.length_take] at hl
 simp only[Zcm]
 rw[if_pos (by omega)]
def rm0:([]:List AR).mapM (Zff T h)=some []:=rfl
def rm1 {r:AR}{rs:List AR}{cs:List AV}(h1:Zff T h r=some c) (h2:rs.mapM (Zff T h)=some cs):(r::rs).mapM (Zff T h)=some (c::cs):=by
 simp only[List.mapM_cons,h1,h2];rfl
def rs1 {r:AR}(h1:Zff T h r=some c):aRes [r] T h=some c:=by simp only[aRes,rm1 h1 rm0]
def rsn {rs:List AR}{c1 c2:AV}{cs:List AV}(hm:rs.mapM (Zff T h)=some (c1::c2::cs)):aRes rs T h=some (.tup (c1::c2::cs)):=by simp only[aRes,hm]
def rs0:aRes [] T h=some (.tup []):=rfl
end
section
variable {Kp : AV -> List AV -> AH -> Prop} {K : List AV -> AH -> Prop} {Q : AX -> List AV -> AH -> Prop} {T : List AV} {h h0 E E' ents : AH}
def ZaD {bl tl:List AOper}{q:List Bool}(hr:adrun P [] (h0++E) bl T [] λT ents=>arun P (λc T h=>Q (.pan c) T h) tl T (h0++(E++ents)) (λT h=>Q .normal T h)) (hn:tl.all ZcX=true:=by rfl):aw P n0 (.drw bl q tl) Q T (h0++E):=by
 refine w_drw (rs:=[]) (Zex ?_ _ _ _ hr)
 intro T ents hk
 rw[List.append_assoc];exact Zrk hn hk
def Zuf (rs:List Nat) {bl tl:List AOper}{q:List Bool}(hr:adrun P rs (h0++E) bl T [] λT ents=>ZcJ P rs q tl T (h0++(E++ents)) (λT h=>Q .normal T h)):aw P n0 (.drw bl q tl) Q T (h0++E):=by
 refine w_drw (rs:=rs) (Zex ?_ _ _ _ hr)
 intro T ents hk
 rw[List.append_assoc];exact hk
def Zph {rs:List Nat}{q:List Bool}{tl:List AOper}(hr:ZcJ P rs q tl T (h0++E) K):ZcJ P rs q tl T (h0++(E++[])) K:=by rw[List.append_nil];exact hr
def ZaU {tl:List AOper}(hr:arun P Kp tl T (h0++E) K):arun P Kp tl T (h0++(E++[])) K:=by rw[List.append_nil];exact hr
def ZcH {tl:List AOper}(he:E++ents=E') (hr:arun P Kp tl T (h0++E') K):arun P Kp tl T (h0++(E++ents)) K:=by rw[he];exact hr
def hlk {n k:Nat}(hn:h.length=n) (hk:E.length+ents.length=k):(h++E).length+ents.length=n+k:=by subst hn hk;simp;omega
end
end
section
variable {K : List AV -> AH -> Prop} {Q : AX -> List AV -> AH -> Prop} {T T' : List AV} {h h' h0 : AH} {q : List (List Nat)} {tc : List (Bool × List Nat)} {rest : List AOper} {d : Option Nat} {op : AOp} {c : AV} {P : Program} {n0 : Nat}
def w_orl {a:AC}{x:Operand}{f:FuncId}{al:List AOper}{d0:Nat}(hr:aw P n0 a Q T h):aw P n0 (.orPan a x f al d0) Q T h:=.inl hr
def Zf9 {al:List AOper}(hr:Zbi P h q al [] T h λT h=>Q .normal T h):aw P n0 (.drwU q al) Q T h:=hr
def Zno (op:AOp):Bool:=match op with
 | .call _ _=>false
 | .panic _=>false
 | .eqn _ _=>false
 | .loadR _ _ _=>false
 | _=>true
def ZfA {gd : Option (Nat × Bool)} {K : Bool × List Nat -> List AV -> AH -> Prop} (hn : Zno op = true) (hk : (∃ c, aval [] (Zaf T) op = some c /\ K (false, []) (aPut T d c) h) \/
      (∃ c,aval h0 (Zaf T) op=some c/\HExt h0 h/\K (true,List.range h0.length) (aPut T d c) h) \/
      (∃ c need id e2,aupd h (Zaf T) op=some (c,need,id,e2)/\K (false,need.map (·.1)) (aPut T d c) (h.set id e2)) \/
      ∃ c ent,(aallo h.length (Zaf T) op=some (c,ent)\/Zcp h.length (Zaf T) op=some (c,ent))/\K (false,[h.length]) (aPut T d c) (h++[ent])):austep P h0 ⟨d,gd,op⟩ T h K:=by
  cases op <;> first | exact hk | cases hn
def Zkp (hk:K T h):Zbi P h0 q [] tc T h K:=hk
def u_fr (hn:Zno op=true) (hv:aval [] (Zaf T) op=some c) (hp:aPut T d c=T') (hk:Zbi P h0 q.tail rest (tc++[(false,[])]) T' h K):Zbi P h0 q (⟨d,none,op⟩::rest) tc T h K:=by
 subst hp
 exact⟨λ_=>ZfA hn (.inl ⟨c,hv,λi _=>.inr λx _=>by simp,hk⟩),λh=>by cases h⟩
def u_rd (hn:Zno op=true) (hv:aval h0 (Zaf T) op=some c) (hx:HExt h0 h) (hc : ∀ i∈q.headD [],Zfe (tc.getD i (false,[])) (true,List.range h0.length)) (hp:aPut T d c=T') (hk:Zbi P h0 q.tail rest (tc++[(true,List.range h0.length)]) T' h K):Zbi P h0 q (⟨d,none,op⟩::rest) tc T h K:=by
 subst hp
 exact⟨λ_=>ZfA hn (.inr (.inl ⟨c,hv,hx,hc,hk⟩)),λh=>by cases h⟩
def u_st {sz id v off:Nat}{p x:Operand}(he:aeff h (Zaf T) (.store sz p x)=some (c,h')) (hp':Zaf T p=.ptr id v off) (hc : ∀ i∈q.headD [],Zfe (tc.getD i (false,[])) (false,[id])) (hp:aPut T d c=T') (hk:Zbi P h0 q.tail rest (tc++[(false,[id])]) T' h' K):Zbi P h0 q (⟨d,none,.store sz p x⟩::rest) tc T h K:=by
 subst hp
 refine⟨λ_=>ZfA rfl (.inr (.inr (.inl ?_))),λh=>by cases h⟩
 simp only[aeff,hp'] at he
 split at he <;> try (cases he;done)
 rename_i e1 cs hid hcs
 cases hid
 split at he <;> try (cases he;done)
 rename_i v' ty s cells hcell
 split at he <;> try (cases he;done)
 rename_i hcond
 cases he
 exact⟨_,[(_,.mk v' ty s cells)],_,_,by simp only[aupd,hp',hcs,hcell];rw[if_pos hcond],hc,hk⟩
def u_ap {ty sz bytes id v n:Nat}{s x:Operand}{t:List Nat}(he:aeff h (Zaf T) (.app ty sz bytes s x)=some (c,h')) (hs:Zaf T s=.own id v n) (ht:id::(Zhl h (Zaf T x)).map (·.1)=t) (hc : ∀ i∈q.headD [],Zfe (tc.getD i (false,[])) (false,t)) (hp:aPut T d c=T') (hk:Zbi P h0 q.tail rest (tc++[(false,t)]) T' h' K):Zbi P h0 q (⟨d,none,.app ty sz bytes s x⟩::rest) tc T h K:=by
 subst hp ht
 refine⟨λ_=>ZfA rfl (.inr (.inr (.inl ?_))),λh=>by cases h⟩
 simp only[aeff,hs] at he
 split at he <;> try (cases he;done)
 rename_i m news hsrc
 split at he <;> try (cases he;done)
 rename_i v' ty' st cells hcell
 split at he <;> try (cases he;done)
 rename_i hcond
 cases he
 exact⟨_,(_,.mk v' ty' st cells)::Zhl h (Zaf T x),_,_,by simp only[aupd,hs,hsrc,hcell];rw[if_pos hcond],hc,hk⟩
def u_al {id:Nat} (hk1:(match op with | .new _ _ _=>true | .box _ _ _=>true | .lit _ _ _ _ _=>true | _=>false)=true) (he:aeff h (Zaf T) op=some (c,h')) (hl:h.length=id) (hc : ∀ i∈q.headD [],Zfe (tc.getD i (false,[])) (false,[id])) (hp:aPut T d c=T') (hk:Zbi P h0 q.tail rest (tc++[(false,[id])]) T' h' K):Zbi P h0 q (⟨d,none,op⟩::rest) tc T h K:=by
 subst hp hl
 cases op <;> simp only at hk1 <;> try (cases hk1;done)
 all_goals refine⟨λ_=>ZfA rfl (.inr (.inr (.inr ?_))),λh=>by cases h⟩
 all_goals simp only[aeff] at he
 .cases he
  exact⟨_,_,.inl rfl,hc,hk⟩
 .split at he <;> try (cases he;done)
  rename_i cs hcs
  split at he <;> try (cases he;done)
  rename_i hsz
  cases he
  exact⟨_,_,.inl (by simp only[aallo,hcs];rw[if_pos hsz]),hc,hk⟩
 .split at he <;> try (cases he;done)
  rename_i cs hcs
  cases he
  exact⟨_,_,.inl (by simp only[aallo,hcs]),hc,hk⟩
def hx_l {E F E':AH}(he:E++F=E'):HExt (h++E) (h++E'):=by subst he;rw[<-List.append_assoc];exact HExt.append _ _
def Zul {f:FuncId}{xs:List Operand}{as1:List AV}(hx:xs.map (Zaf T)=as1) (hc : ∀ h,ACalls P f as1 h λr h'=>h'=h/\r=.ret c) (hp:aPut T d c=T') (hk:Zbi P h0 q.tail rest (tc++[(false,[])]) T' h K):Zbi P h0 q (⟨d,none,.call (.func f) xs⟩::rest) tc T h K:=by
 subst hp hx
 unfold Zbi agd
 refine⟨λ_=>?_,λh=>by cases h⟩
 exact .inl ⟨c,λh=>⟨rfl,rfl,hc h⟩,λi hi=>.inr λx hx hx2=>by simp at hx2,hk⟩
def Zuk {f:FuncId}{xs:List Operand}{as1:List AV}{n:Nat}(hx:xs.map (Zaf T)=as1) (hc : ∀ h,HExt h0 h->ACalls P f as1 h λr h'=>h'=h/\r=.ret c) (hE:HExt h0 h) (hl:h0.length=n) (hh : ∀ i∈q.headD [],Zfe (tc.getD i (false,[])) (true,List.range n)) (hp:aPut T d c=T') (hk:Zbi P h0 q.tail rest (tc++[(true,List.range n)]) T' h K):Zbi P h0 q (⟨d,none,.call (.func f) xs⟩::rest) tc T h K:=by
 subst hp hl hx
 unfold Zbi agd
 refine⟨λ_=>?_,λh=>by cases h⟩
 exact .inr (.inl ⟨c,λh hE=>⟨rfl,rfl,hc h hE⟩,hE,hh,hk⟩)
def Zhi {f:FuncId}{xs:List Operand}{as1:List AV}{id:Nat}{e e2:Ent}(hx:xs.map (Zaf T)=as1) (he:h[id]?=some e) (hc : ∀ h,h[id]?=some e->ACalls P f as1 h λr h'=>r=.ret c/\h'=h.set id e2) (hh : ∀ i∈q.headD [],Zfe (tc.getD i (false,[])) (false,[id])) (hs:h.set id e2=h') (hp:aPut T d c=T') (hk:Zbi P h0 q.tail rest (tc++[(false,[id])]) T' h' K):Zbi P h0 q (⟨d,none,.call (.func f) xs⟩::rest) tc T h K:=by
 subst hp hs hx
 unfold Zbi agd
 refine⟨λ_=>?_,λh=>by cases h⟩
 exact .inr (.inr ⟨c,[(id,e)],id,e2,λh hn=>⟨rfl,rfl,(hc h (hn (id,e) (by simp))).mono λr h' hr=>⟨hr.2,hr.1⟩⟩,λp hp=>by simp at hp;subst hp;exact he,⟨e,by simp⟩,hh,hk⟩)
def Zfi {n:Nat}(hn:Zno op=true) (hv:aval h0 (Zaf T) op=some c) (hx:HExt h0 h) (hl:h0.length=n) (hc : ∀ i∈q.headD [],Zfe (tc.getD i (false,[])) (true,List.range n)) (hp:aPut T d c=T') (hk:Zbi P h0 q.tail rest (tc++[(true,List.range n)]) T' h K):Zbi P h0 q (⟨d,none,op⟩::rest) tc T h K:=by
 subst hl;exact u_rd hn hv hx hc hp hk
def u_apS {ty sz bytes id v n m st:Nat}{full:Bool}{cs:List AV}{s x:Operand}(he:aeff h (Zaf T) (.app ty sz bytes s x)=some (c,h')) (hs:Zaf T s=.own id v n) (hy:Zaf T x=.sl m st full cs) (hc : ∀ i∈q.headD [],Zfe (tc.getD i (false,[])) (false,[id])) (hp:aPut T d c=T') (hk:Zbi P h0 q.tail rest (tc++[(false,[id])]) T' h' K):Zbi P h0 q (⟨d,none,.app ty sz bytes s x⟩::rest) tc T h K :=
 u_ap he hs (by rw[hy];rfl) hc hp hk
end
end
section
section
def lt' {p:Prop}(h:p:=by first | rfl | (simp only[AV.lt,AV.ltL,Ent.lt,List.all_cons,List.all_nil,Bool.and_true,Bool.and_self,decide_true];done) | (simp[AV.lt,AV.ltL,Ent.lt, *];done) | (simp[AV.lt,AV.ltL,Ent.lt, *];omega)):p:=h
def rT' {n:Nat}{h E:AH}{c res:AV}(he:c=res) (hl:c.lt n=true:=by exact lt') : ∃ z,h++E=h++z/\(AE.ret c).lt n=true/\AE.ret c=.ret res:=rt hl he
def rtW' {n:Nat}{h E:AH}{c res:AV}(he:Wk c res) (hl:c.lt n=true:=by exact lt') : ∃ z,h++E=h++z/\(AE.ret c).lt n=true /\ ∃ d,AE.ret c=.ret d/\Wk d res:=rtw hl he
def wA' {cs ds:List AV}(h:WkL cs ds:=by repeat (first | exact wk0 | refine wka ?_ | refine wk1 rfl ?_ | refine wk1 (by first | exact ivx (by omega) | (simp;done)) ?_)):WkL cs ds:=h
def z' {α:Type}{x b:α}{l:List α}:(x::l).set 0 b=b::l:=rfl
def s' {α:Type}{x b:α}{n:Nat}{l:List α}:(x::l).set (n+1) b=x::l.set n b:=rfl
def la' {α:Type}{x:α}{l m:List α}:(x::l)++m=x::(l++m):=rfl
def ln' {α:Type}{m:List α}:[]++m=m:=rfl
def rn' (a:Nat):Nat->List (Nat×AV)
 | 0=>[]
 | k+1=>(a,.any)::rn' (a+1) k
def tA':List AV->Nat->List AV
 | _,0=>[]
 | x::l,m+1=>x::tA' l m
 | [],m+1=>.any::tA' [] m
def Zie : ∀ (l:List AV) (m:Nat),l.length<=m->l++List.replicate (m-l.length) .any=tA' l m
 | [],0,_=>rfl
 | [],m+1,_=>by
  have:=Zie [] m (Nat.zero_le _)
  simp only[List.nil_append,List.length_nil,Nat.sub_zero] at this ⊢
  rw[List.replicate_succ,this];rfl
 | x::l,0,h=>by simp at h
 | x::l,m+1,h=>by
  have:=Zie l m (by simpa using h)
  simp only[List.cons_append,List.length_cons,Nat.add_sub_add_right,this];rfl
variable {P : Program} {f : FuncId} {c : AC} {rs : List AR} {m : Nat} {args : List AV} {h : AH}
def tI' {R:AE->Prop}(hc:ZbT P f=some ⟨c,rs,m⟩) (hw : ∀ n,h.length=n->(∀ e∈h,e.lt n=true)->AV.ltL n args=true->AV.bdL args->aw P n c (retA rs λx h' => ∃ z,h'=h++z/\x.lt n=true/\R x) (tA' args m) (h++[])) (hl:Nat.ble args.length m=true:=by rfl):ACalls P f args h λx h'=>h'=h/\R x :=
 ACalls.into hc (Zie _ _ (Nat.le_of_ble_eq_true hl)) hw
def tW' {res:AV}(hc:ZbT P f=some ⟨c,rs,m⟩) (hw : ∀ n,h.length=n->(∀ e∈h,e.lt n=true)->AV.ltL n args=true->AV.bdL args->aw P n c (retA rs λx h' => ∃ z,h'=h++z/\x.lt n=true /\ ∃ c,x=.ret c/\Wk c res) (tA' args m) (h++[])) (hl:Nat.ble args.length m=true:=by rfl):ACalls P f args h λx h'=>h'=h/\x=.ret res :=
 ACalls.weak (tI' hc hw hl)
def tN' {R:AE->AH->Prop}(hc:ZbT P f=some ⟨c,rs,m⟩) (hw : ∀ n,h.length=n->(∀ e∈h,e.lt n=true)->AV.ltL n args=true->AV.bdL args->aw P n c (retA rs R) (tA' args m) (h++[])) (hl:Nat.ble args.length m=true:=by rfl):ACalls P f args h R :=
 ACalls.intoN hc (Zie _ _ (Nat.le_of_ble_eq_true hl)) hw
def tJ' {R:AE->AH->Prop}(hc:ZbT P f=some ⟨c,rs,m⟩) (hw : ∀ n,h.length=n->(∀ e∈h,e.lt n=true)->AV.ltL n args=true->AV.bdL args->aw P n c (retA rs λx h' => ∃ y z,h'=y++z/\y.length=n/\(∀ e∈y,e.lt n=true)/\x.lt n=true/\R x y) (tA' args m) (h++[])) (hl:Nat.ble args.length m=true:=by rfl):ACalls P f args h R :=
 ACalls.intoG hc (Zie _ _ (Nat.le_of_ble_eq_true hl)) hw
end
section
variable {P : Program} {n0 : Nat} {T T1 : List AV} {a : AC} {Q : AX -> List AV -> AH -> Prop}
def bkE' {h0 E E1 x:AH}{N:Nat}(K:Nat) (hn:h0.length=N) (hh : ∀ e∈h0,e.lt N=true) (hs:WkL T T1) (he:E=E1++x:=by rfl) (hT:AV.ltL (N+K) T1=true:=by exact lt') (hE:E1.all (Ent.lt (N+K))=true:=by exact lt') (hK:E1.length=K:=by rfl) (h0':n0<=N+K:=by omega):ALe n0 T (h0++E) T1 (h0++E1) :=
 ALe.back hs he (by rw[hn,hK]) h0' hT (ltw (Nat.le_add_right _ _) hh) hE
def bk' {h0 E E1 x:AH}{N:Nat}(K:Nat) (hn:h0.length=N) (hh : ∀ e∈h0,e.lt N=true) (he:E=E1++x:=by rfl) (hs:WkL T T1:=by exact wA') (hT:AV.ltL (N+K) T1=true:=by exact lt') (hE:E1.all (Ent.lt (N+K))=true:=by exact lt') (hK:E1.length=K:=by rfl) (h0':n0<=N+K:=by omega):ALe n0 T (h0++E) T1 (h0++E1) :=
 bkE' K hn hh hs he hT hE hK h0'
def lU' {ι:Type}{S:ι->List AV×AH}{I:ι->Prop}{m:ι->Nat}{i:ι}{h:AH}(j:ι) (hI:I j) (hl:ALe n0 T h (S j).1 (S j).2) (hm:m j<m i:=by first | omega | (dsimp only;omega)):LoopTo n0 S I m i T h:=LoopTo.mk j hm hI hl
def lT' {ι:Type}{S:ι->List AV×AH}{I:ι->Prop}{m:ι->Nat}{i:ι}{h:AH}(j:ι) (hI:I j) (hm:m j<m i:=by first | omega | (dsimp only;omega)) (hl:ALe n0 T h (S j).1 (S j).2:=by (try dsimp only);(try simp only[ZdS,ZeK,z',s',rn',la',ln',Nat.reduceAdd]);exact ALe.same wA' rfl):LoopTo n0 S I m i T h:=LoopTo.mk j hm hI hl
def cT' {ι:Type}{J:ι->Prop}{A:ι->List AV}{B:ι->AH}{h:AH}(j:ι) (hI:J j) (hl:ALe n0 T h (A j) (B j):=by (try dsimp only);(try simp only[ZdS,ZeK,z',s',rn',la',ln',Nat.reduceAdd]);exact ALe.same wA' rfl) : ∃ i,J i/\ALe n0 T h (A i) (B i):=⟨j,hI,hl⟩
def w_lp {E:AH}{h0:AH}{ι:Type}(f:ι->List (Nat×AV)) (g:ι->List (Nat×Ent)) (I:ι->Prop) (m:ι->Nat) (i0:ι) (hI:I i0)
  (round : ∀ i,I i->aw P n0 a (AX.thn (LoopTo n0 (λi=>(ZdS T (f i),h0++ZeK E (g i))) I m i) Q) (ZdS T (f i)) (h0++ZeK E (g i))) (hl:ALe n0 T (h0++E) (ZdS T (f i0)) (h0++ZeK E (g i0)):=by (try simp only[ZdS,ZeK,z',s',rn',la',ln',Nat.reduceAdd]);exact ALe.same wA' rfl):aw P n0 (.loop a) Q T (h0++E):=Zd1 f g I m i0 hI hl round
end
section
variable {K : List AV -> AH -> Prop} {Q : AX -> List AV -> AH -> Prop} {T T' : List AV} {h : AH} {Kp : AV -> List AV -> AH -> Prop} {rest : List AOper} {d : Option Nat} {c : AV} {P : Program} {n0 : Nat} {a b : AC} {al : List AOper}
def mv' {x:Operand}(hx:Zaf T x=c) (hp:aPut T d c=T') (hk:arun P Kp rest T' h K):arun P Kp (⟨d,none,.mv x⟩::rest) T h K:=s_val rfl (v_mv hx) hp hk
def sn' (hr:aw P n0 b Q T h):arun P Kp [] T h (λT h=>AX.thn (λT h => ∃ T1 h1,ALe n0 T h T1 h1/\aw P n0 b Q T1 h1) Q .normal T h):=Zam (Zan hr)
def wr' (hr:arun P (λc T h=>AX.thn (λT h => ∃ T1 h1,ALe n0 T h T1 h1/\aw P n0 b Q T1 h1) Q (.pan c) T h) al T h (λT h=>AX.thn (λT h => ∃ T1 h1,ALe n0 T h T1 h1/\aw P n0 b Q T1 h1) Q .normal T h)):aw P n0 (.seq (.reg al) b) Q T h:=Zab (Zao hr)
def cd' {c:Operand}{v:Bool}{p q:Prop}(hc:Zaf T c=bv v) (hy:p->aw P n0 a Q T h) (hn:q->aw P n0 b Q T h) (h1:v=true->p:=by first | exact λe=>of_decide_eq_true e | exact λe=>e) (h2:v=false->q:=by first | exact λe=>of_decide_eq_false e | exact λe=>e):aw P n0 (.cond c a b) Q T h:=ZaA hc (λe=>hy (h1 e)) (λe=>hn (h2 e))
def V' {op:AOp}(hv:aval h (Zaf T) op=some c) (hp:aPut T d c=T') (hk:arun P Kp rest T' h K) (hn:ZcX ⟨d,none,op⟩=true:=by rfl):arun P Kp (⟨d,none,op⟩::rest) T h K:=s_val hn hv hp hk
def E' {op:AOp}{h':AH}(he:aeff h (Zaf T) op=some (c,h')) (hp:aPut T d c=T') (hk:arun P Kp rest T' h' K) (hn:ZcX ⟨d,none,op⟩=true:=by rfl) (hv:aval h (Zaf T) op=none:=by rfl):arun P Kp (⟨d,none,op⟩::rest) T h K:=s_eff hn hv he hp hk
def D' {op:AOp}{rs:List Nat}{h0:AH}{ents:AH}(hv:aval h0 (Zaf T) op=some c) (hp:aPut T d c=T') (hk:adrun P rs h0 rest T' ents K) (hn:noD ⟨d,none,op⟩=true:=by rfl):adrun P rs h0 (⟨d,none,op⟩::rest) T ents K:=d_val hn hv hp hk
def sp' {t:Nat}{v:Bool}{p q:Prop}{T1 T2:List AV}(ht:T[t]?=some (bv v)) (hp1:aPut T (some t) (bv true)=T1) (hp2:aPut T (some t) (bv false)=T2) (hy:p->arun P Kp al T1 h K) (hn:q->arun P Kp al T2 h K) (h1:v=true->p:=by first | exact λe=>of_decide_eq_true e | exact λe=>e) (h2:v=false->q:=by first | exact λe=>of_decide_eq_false e | exact λe=>e):arun P Kp al T h K:=Zbd ht hp1 hp2 (λe=>hy (h1 e)) (λe=>hn (h2 e))
def dq' {rs:List Nat}{h0:AH}{t:Nat}{v:Bool}{p q:Prop}{T1 T2:List AV}(ht:T[t]?=some (bv v)) (hp1:aPut T (some t) (bv true)=T1) (hp2:aPut T (some t) (bv false)=T2) (hy:p->adrun P rs h0 al T1 h K) (hn:q->adrun P rs h0 al T2 h K) (h1:v=true->p:=by first | exact λe=>of_decide_eq_true e | exact λe=>e) (h2:v=false->q:=by first | exact λe=>of_decide_eq_false e | exact λe=>e):adrun P rs h0 al T h K:=Zmx ht hp1 hp2 (λe=>hy (h1 e)) (λe=>hn (h2 e))
def nb' {n m:Nat}(h:Nat.ble n m=true):n<=m:=Nat.le_of_ble_eq_true h
@[reducible] def Mv (d x:Nat):AOper:=⟨some d,none,.mv (.tmp x)⟩
@[reducible] def Nk (d x:Nat):AOper:=⟨some d,none,.nck (.tmp x)⟩
@[reducible] def Fa (d k x:Nat):AOper:=⟨some d,none,.fa k (.tmp x)⟩
@[reducible] def Ld (d x:Nat):AOper:=⟨some d,none,.load false 1 (.tmp x)⟩
@[reducible] def Ex (d x k:Nat):AOper:=⟨some d,none,.ext (.tmp x) k⟩
@[reducible] def Oo (d:Nat) (o:AOp):AOper:=⟨some d,none,o⟩
@[reducible] def Ot (d g:Nat) (o:AOp):AOper:=⟨some d,some (g,true),o⟩
@[reducible] def Of (d g:Nat) (o:AOp):AOper:=⟨some d,some (g,false),o⟩
@[reducible] def Ci (n:Int):Operand:=.const (.int .i64 n)
@[reducible] def Ss:AV:=.v (.string ⟨#[]⟩)
end
def rz {T:List AV}{h:AH}{t:Nat}{c:AV}[i:Gt T t c]:aRes [.tmp t] T h=some c:=rs1 (rr_t i.h)
def ry {T:List AV}{h:AH}{t s:Nat}{c d:AV}[i:Gt T t c][j:Gt T s d]:aRes [.tmp t,.tmp s] T h=some (.tup [c,d]):=rsn (rm1 (rr_t i.h) (rm1 (rr_t j.h) rm0))
def rx {T:List AV}{h:AH}{t s r:Nat}{c d e:AV}[i:Gt T t c][j:Gt T s d][k:Gt T r e]:aRes [.tmp t,.tmp s,.tmp r] T h=some (.tup [c,d,e]):=rsn (rm1 (rr_t i.h) (rm1 (rr_t j.h) (rm1 (rr_t k.h) rm0)))
def gx {h l:AH}{n k:Nat}{e:Ent}(hn:h.length=n:=by assumption)(hk:l[k]?=some e:=by rfl):(h++l)[n+k]?=some e:=hga hn hk
def cv {T:List AV}{x:Operand}{c:AV}{cs:List AV}[i:Lk T x c](h:Zaq c=some cs:=by rfl):Zaq (Zaf T x)=some cs:=cvl i.h h
def mw {P:Program}{Kp:AV->List AV->AH->Prop}{rest:List AOper}{T U:List AV}{h:AH}{K:List AV->AH->Prop}{d:Option Nat}{c:AV}{x:Operand}[i:Lk T x c][j:Pt T d c U](hk:arun P Kp rest U h K):arun P Kp (⟨d,none,.mv x⟩::rest) T h K:=mv' i.h j.h hk
def Vw {P:Program}{Kp:AV->List AV->AH->Prop}{rest:List AOper}{T U:List AV}{h:AH}{K:List AV->AH->Prop}{d:Option Nat}{c:AV}{op:AOp}(hv:aval h (Zaf T) op=some c)[j:Pt T d c U](hk:arun P Kp rest U h K)(hn:ZcX ⟨d,none,op⟩=true:=by rfl):arun P Kp (⟨d,none,op⟩::rest) T h K:=V' hv j.h hk hn
def Dw {P:Program}{rest:List AOper}{T U:List AV}{K:List AV->AH->Prop}{d:Option Nat}{c:AV}{op:AOp}{rs:List Nat}{h0:AH}{ents:AH}(hv:aval h0 (Zaf T) op=some c)[j:Pt T d c U](hk:adrun P rs h0 rest U ents K)(hn:noD ⟨d,none,op⟩=true:=by rfl):adrun P rs h0 (⟨d,none,op⟩::rest) T ents K:=D' hv j.h hk hn
def _root_.om {p:Prop}(h:p:=by omega):p:=h
def vm {T:List AV}{h:AH}{x:Operand}{c:AV}[i:Lk T x c]:aval h (Zaf T) (.mv x)=some c:=v_mv lk
def so {P:Program}{Kp:AV->List AV->AH->Prop}{rest:List AOper}{T U:List AV}{h:AH}{K:List AV->AH->Prop}{d:Option Nat}{op:AOp}{t:Nat}{b:Bool}[i:Gt T t (.v (.bool (!b)))][j:Pt T d (.v undef) U](hk:arun P Kp rest U h K):arun P Kp (⟨d,some (t,b),op⟩::rest) T h K:=s_no gt pt hk
def sd {P:Program}{Kp:AV->List AV->AH->Prop}{rest:List AOper}{T:List AV}{h:AH}{K:List AV->AH->Prop}{d:Option Nat}{op:AOp}{t:Nat}{b:Bool}[i:Gt T t (.v (.bool b))](hk:arun P Kp (⟨d,none,op⟩::rest) T h K):arun P Kp (⟨d,some (t,b),op⟩::rest) T h K:=s_do gt hk
def uf {P:Program}{h0:AH}{q:List (List Nat)}{rest:List AOper}{tc:List (Bool×List Nat)}{T U:List AV}{h:AH}{K:List AV->AH->Prop}{d:Option Nat}{c:AV}{op:AOp}(hv:aval [] (Zaf T) op=some c)[j:Pt T d c U](hk:Zbi P h0 q.tail rest (tc++[(false,[])]) U h K)(hn:Zno op=true:=by rfl):Zbi P h0 q (⟨d,none,op⟩::rest) tc T h K:=u_fr hn hv pt hk
def ad {P:Program}{Kp:AV->List AV->AH->Prop}{rest:List AOper}{T U:List AV}{h:AH}{K:List AV->AH->Prop}{d:Option Nat}{x y:Operand}{a b:Int}[i:Lk T x (iv a)][k:Lk T y (iv b)][j:Pt T d (iv (a+b)) U](hk:arun P Kp rest U h K)(h1 : -9223372036854775808<=a+b:=by omega)(h2:a+b<=9223372036854775807:=by omega):arun P Kp (⟨d,none,.bin .add x y⟩::rest) T h K:=V' (Zb0 i.h k.h h1 h2) pt hk
def fq {P:Program}{Kp:AV->List AV->AH->Prop}{rest:List AOper}{T U:List AV}{h:AH}{K:List AV->AH->Prop}{d:Option Nat}{x:Operand}{off id v:Nat}[i:Lk T x (.ptr id v 0)][j:Pt T d (.ptr id v off) U](hk:arun P Kp rest U h K):arun P Kp (⟨d,none,.fa off x⟩::rest) T h K:=Vw (ZbU i.h) hk
def dg {P:Program}{rest:List AOper}{T U:List AV}{K:List AV->AH->Prop}{d:Option Nat}{x:Operand}{rs:List Nat}{h0 ents:AH}{off id v:Nat}[i:Lk T x (.ptr id v 0)][j:Pt T d (.ptr id v off) U](hk:adrun P rs h0 rest U ents K):adrun P rs h0 (⟨d,none,.fa off x⟩::rest) T ents K:=Dw (ZbU i.h) hk
def dn {P:Program}{rest:List AOper}{T U:List AV}{K:List AV->AH->Prop}{d:Option Nat}{op:AOp}{rs:List Nat}{h0 ents:AH}{t:Nat}{b:Bool}[i:Gt T t (.v (.bool (!b)))][j:Pt T d (.v undef) U](hk:adrun P rs h0 rest U ents K):adrun P rs h0 (⟨d,some (t,b),op⟩::rest) T ents K:=d_no gt pt hk
def dO {P:Program}{rest:List AOper}{T:List AV}{K:List AV->AH->Prop}{d:Option Nat}{op:AOp}{rs:List Nat}{h0 ents:AH}{t:Nat}{b:Bool}[i:Gt T t (.v (.bool b))](hk:adrun P rs h0 (⟨d,none,op⟩::rest) T ents K):adrun P rs h0 (⟨d,some (t,b),op⟩::rest) T ents K:=d_do gt hk
def nb {n m:Nat}(h:Nat.ble n m=true:=by rfl):n<=m:=Nat.le_of_ble_eq_true h
def nh {p:Prop}(h:p:=by first | (simp [Zfe];done) | (simp [Zfe];omega) | (simp [Zfe] <;> (try intros) <;> omega)):p:=h
def ro {p:Prop}(h:p:=by first | rfl | omega):p:=h
def tb':(∀ l,tA' l 0=[])/\(∀ x l m,tA' (x::l) (m+1)=x::tA' l m)/\(∀ m,tA' [] (m+1)=.any::tA' [] m)/\(AV.bdL []=True)/\(∀ c l,AV.bdL (c::l)=(AV.bd c/\AV.bdL l))/\(∀ p:Prop,(p/\True)=p)/\(∀ p:Prop,(True/\p)=p)/\(∀ n a b l,AV.bd (.sl n a b l)=(n<=9223372036854775807/\AV.bdL l))/\(∀ a b n,AV.bd (.own a b n)=(n<=9223372036854775807))/\(∀ l,AV.bd (.rp l)=AV.bdL l)/\(∀ l,AV.bd (.agg l)=AV.bdL l)/\(∀ l,AV.bd (.tup l)=AV.bdL l)/\(∀ f l,AV.bd (.clo f l)=AV.bdL l)/\(∀ v,AV.bd (.v v)=True)/\(AV.bd .any=True)/\(∀ a b c,AV.bd (.ptr a b c)=True):=⟨λl=>by cases l<;>rfl,λ_ _ _=>rfl,λ_=>rfl,by simp only [AV.bdL],λ_ _=>by simp only [AV.bdL],λ_=>and_true _,λ_=>true_and _,λ_ _ _ _=>by simp only [AV.bd],λ_ _ _=>by simp only [AV.bd],λ_=>by simp only [AV.bd],λ_=>by simp only [AV.bd],λ_=>by simp only [AV.bd],λ_ _=>by simp only [AV.bd],λ_=>by simp only [AV.bd],by simp only [AV.bd],λ_ _ _=>by simp only [AV.bd]⟩
def sm':(∀ T,ZdS T []=T)/\(∀ T k c l,ZdS T ((k,c)::l)=ZdS (T.set k c) l)/\(∀ T,ZeK T []=T)/\(∀ T k c l,ZeK T ((k,c)::l)=ZeK (T.set k c) l)/\(∀ (α:Type) (x b:α) l,(x::l).set 0 b=b::l)/\(∀ (α:Type) (x b:α) n l,(x::l).set (n+1) b=x::l.set n b)/\(∀ a,rn' a 0=[])/\(∀ a k,rn' a (k+1)=(a,.any)::rn' (a+1) k)/\(∀ (α:Type) (x:α) l m,(x::l)++m=x::(l++m))/\(∀ (α:Type) (m:List α),[]++m=m):=⟨λ_=>rfl,λ_ _ _ _=>rfl,λ_=>rfl,λ_ _ _ _=>rfl,λ_ _ _ _=>rfl,λ_ _ _ _ _=>rfl,λ_=>rfl,λ_ _=>rfl,λ_ _ _ _=>rfl,λ_ _=>rfl⟩
def zz {p q:Prop}(k:q)(h:q->p:=by intro k;(try dsimp only);(try simp only[sm',Nat.reduceAdd]);exact k):p:=h k
def zs {p q:Prop}(k:q)(h:q->p:=by intro k;(try simp only[sm',Nat.reduceAdd]);exact k):p:=h k
section
variable {P:Program}{n0:Nat}{b:AC}{Q:AX->List AV->AH->Prop}{Kp:AV->List AV->AH->Prop}{T U:List AV}{h:AH}{al:List AOper}{d:Option Nat}{c:AV}{x:Operand}
def wm [i:Lk T x c][j:Pt T d c U](hk:arun P (λc T h=>AX.thn (λT h=>∃ T1 h1,ALe n0 T h T1 h1/\aw P n0 b Q T1 h1) Q (.pan c) T h) al U h (λT h=>AX.thn (λT h=>∃ T1 h1,ALe n0 T h T1 h1/\aw P n0 b Q T1 h1) Q .normal T h)):aw P n0 (.seq (.reg (⟨d,none,.mv x⟩::al)) b) Q T h:=wr' (mw hk)
def ms [i:Lk T x c][j:Pt T d c U](hk:aw P n0 b Q U h):arun P Kp [⟨d,none,.mv x⟩] T h (λT h=>AX.thn (λT h=>∃ T1 h1,ALe n0 T h T1 h1/\aw P n0 b Q T1 h1) Q .normal T h):=mw (sn' hk)
def mr [i:Lk T x c][j:Pt T d c U](hk:Q .ret U h):arun P Kp [⟨d,none,.mv x⟩] T h (λT h=>AX.thn (λT h=>∃ T1 h1,ALe n0 T h T1 h1/\aw P n0 .ret Q T1 h1) Q .normal T h):=ms hk
def wk' [i:Lk T x c][j:Pt T d c U](hk:aw P n0 b Q U h):aw P n0 (.seq (.reg [⟨d,none,.mv x⟩]) b) Q T h:=wr' (ms hk)
def wo [i:Lk T x c][j:Pt T d c U](hk:Q .ret U h):aw P n0 (.seq (.reg [⟨d,none,.mv x⟩]) .ret) Q T h:=wr' (mr hk)
def sr (hk:Q .ret T h):arun P Kp [] T h (λT h=>AX.thn (λT h=>∃ T1 h1,ALe n0 T h T1 h1/\aw P n0 .ret Q T1 h1) Q .normal T h):=sn' hk
def za (hr:aw P n0 b Q T h):aw P n0 .skip (AX.thn (λT h=>∃ T1 h1,ALe n0 T h T1 h1/\aw P n0 b Q T1 h1) Q) T h:=Zay (Zan hr)
end
abbrev Ac (f:FuncId) (a:List AV) (h:AH) (c:AV):Prop:=ACalls Go.Proofs.Tryz.prog f a h λx h' => h'=h/\x = .ret c
@[reducible] def t (n:Nat):Operand:=.tmp n
@[reducible] def nl:AV:=.sl 0 0 true []
@[reducible] def Bn (d:Nat) (o:BinOp) (x y:Nat):AOper:=⟨some d,none,.bin o (.tmp x) (.tmp y)⟩
@[reducible] def Bc (d:Nat) (o:BinOp) (x:Nat) (n:Int):AOper:=⟨some d,none,.bin o (.tmp x) (.const (.int .i64 n))⟩
@[reducible] def Pk (d c a b:Nat):AOper:=⟨some d,none,.pick (.tmp c) (.tmp a) (.tmp b)⟩
@[reducible] def Cl (d f:Nat) (l:List Operand):AOper:=⟨some d,none,.call (.func f) l⟩
@[reducible] def Mc (d:Nat) (n:Int):AOper:=⟨some d,none,.mv (.const (.int .i64 n))⟩
@[reducible] def Mb (d:Nat) (b:Bool):AOper:=⟨some d,none,.mv (.const (.bool b))⟩
@[reducible] def Ms (d:Nat):AOper:=⟨some d,none,.mv (.const (.string ⟨#[]⟩))⟩
@[reducible] def Sc (p x:Nat):AOper:=⟨none,none,.store 1 (.tmp p) (.tmp x)⟩
@[reducible] def mt (x:Nat):AOp:=.mv (.tmp x)
@[reducible] def Cd (x:Nat) (a b:AC):AC:=.cond (.tmp x) a b
@[reducible] def Sr (l:List AOper) (b:AC):AC:=.seq (.reg l) b
@[reducible] def Sd (l:List AOper) (b:AC):AC:=.seq (.drw l [] []) b
@[reducible] def Ex0 (x i:Nat) (b:AC):AC:=.seq (.cond (.tmp x) .skip (.exit i)) b
inductive Hint where
 | e (S:List Nat) (s:Nat) (q:List Bool)
 | u (q:List (List Nat))
def cyc:Nat->List AV->List AV
 | 0,_=>[]
 | n+1,l=>l++cyc n l
def co (P:Program) (S:List Nat) (a:Array Oper) (o:Oper):Option AOper:=match ZbB P S a o with
 | some ⟨d,g,.lit e s n _ q⟩=>(Zen P e).map λz=>⟨d,g,.lit e s n (cyc n z) q⟩
 | x=>x
def gen (P:Program):Code->List Hint->Option (AC×List Hint)
 | .skip,hs=>some (.skip,hs)
 | .region _ ops draw,hs=>match draw with
  | false=>(ops.toList.mapM (co P [] ops)).map λal=>(.reg al,hs)
  | true=>match hs with
   | .e S s q::hs=>(ops.toList.mapM (co P S ops)).map λal=>(.drw (al.take s) q (al.drop s),hs)
   | .u q::hs=>(ops.toList.mapM (co P [] ops)).map λal=>(.drwU q al,hs)
   | []=>none
 | .seq a b,hs=>(gen P a hs).bind λx=>(gen P b x.2).map λy=>(.seq x.1 y.1,y.2)
 | .cond c a b,hs=>(gen P a hs).bind λx=>(gen P b x.2).map λy=>(.cond c x.1 y.1,y.2)
 | .block id a,hs=>(gen P a hs).map λx=>(.block id x.1,x.2)
 | .loop a,hs=>(gen P a hs).map λx=>(.loop x.1,x.2)
 | .exit id,hs=>some (.exit id,hs)
 | .scope a,hs=>gen P a hs
 | .ret,hs=>some (.ret,hs)
 | _,_=>none
def genF (P:Program) (f:FuncId) (hs:List Hint):Option AF:=match P.funcs[f]? with
 | some fn=>match fn.body with
  | some c=>match gen P c hs,fn.results.toList.mapM (Zfs P) with
   | some x,some rs=>some ⟨x.1,rs,fn.ntmps⟩
   | _,_=>none
  | none=>none
 | none=>none
def Kx (f:FuncId) (hs:List Hint) {a:AF}(h:genF Go.Proofs.Tryz.prog f hs=some a:=by conv=>lhs;reduce;try simp only [Int.reduceOfNat,Int.reduceNegSucc])(h2:ZbT Go.Proofs.Tryz.prog f=some a:=by kernel_rfl):ZbT Go.Proofs.Tryz.prog f=some a:=h2
end
section
section
variable {P : Program}
structure AFD where
 al:List AOper
 d:Nat
 k:Nat
 caps:List Operand
 af:AF
def ADef (P:Program) (k:FuncId) (cv:List AV) (m:Option AV) (h:AH) (R:AH->Prop):Prop :=
  ∀ w g (vs:Array Value),SimH w g h->RepL w g cv vs.toList->match m with
    | none=>CallsD P k vs .returning w λe u' w'=>(∃ v,e=.returned v)/\u'=.returning /\ ∃ h' g',SimH w' g' h'/\g.le g'/\Fr w (Ow g h) w'/\(∀ k,Ow g' h' k->Ow g h k\/w.heap.size<=k)/\R h'
    | some c => ∀ v, Rep w g c v -> CallsD P k vs (.panicking [{ v := v, recovered := false }]) w λe u' w' => (∃ x, e = .returned x) /\ (∃ x, u' = .panicking [{ v := x, recovered := true }]) /\
        ∃ h' g',SimH w' g' h'/\g.le g'/\Fr w (Ow g h) w'/\(∀ k,Ow g' h' k->Ow g h k\/w.heap.size<=k)/\R h'
def doorA (P:Program) (k:FuncId) (cv:List AV) (rs:List AR) (R:AE->AH->Prop):AX->List AV->AH->Prop
 | .normal,T,h=>ADef P k cv none h λh' => ∃ c,aRes rs T h'=some c/\R (.ret c) h'
 | .ret,T,h=>ADef P k cv none h λh' => ∃ c,aRes rs T h'=some c/\R (.ret c) h'
 | .pan c,T,h=>ADef P k cv (some c) h λh' => ∃ r,aRes rs T h'=some r/\R (.ret r) h'
 | .exit _,_,_=>False
def afterR0 (P:Program) (fd:AFD) (R:AE->AH->Prop) (x:AX) (T1:List AV) (h1:AH):Prop:=x=.normal/\fd.d<T1.length/\aw P h1.length fd.af.code (doorA P fd.k (fd.caps.map (Zaf T1)) fd.af.res R) (T1.set fd.d .any) h1
def afterR0.mk {fd:AFD}{R:AE->AH->Prop}{T T1 cv:List AV}{h:AH}{n:Nat}(hd:fd.d<T.length) (hp:aPut T (some fd.d) .any=T1) (hc:fd.caps.map (Zaf T)=cv) (hn:h.length=n) (hw : ∀ M,M=n->aw P M fd.af.code (doorA P fd.k cv fd.af.res R) T1 h):afterR0 P fd R .normal T h:=by
 subst hp hc;exact⟨rfl,hd,hw _ hn⟩
end
end
section
section
variable {P : Program} {n0 : Nat} {Q : AX -> List AV -> AH -> Prop} {T : List AV} {h : AH} {a : AC}
def SimH.renew {w:World}{g:Gh}{h:AH}(hs:SimH w g h) {id v':Nat}(hid:id<h.length) (hb : ∀ ver l,g.loc id ver=some l->ver<v') (A:Option Addr) (ty st:Nat) :
  SimH w (g.add id v' (A,0)) (h.set id (.mk v' ty st []))/\g.le (g.add id v' (A,0)) /\ ∀ k,Ow (g.add id v' (A,0)) (h.set id (.mk v' ty st [])) k->Ow g h k:=by
 have hloc : ∀ i v l,g.loc i v=some l->(g.add id v' (A,0)).loc i v=some l:=by
  intro i v l hi
  simp only[Gh.add]
  rw[if_neg]
  .exact hi
  .rintro⟨rfl,rfl⟩;exact Nat.lt_irrefl _ (hb _ _ hi)
 have:=hs.put (w':=w) (g':=g.add id v' (A,0)) (h':=h.set id (.mk v' ty st [])) id v' ty st [] A 0 ?_ ?_ ?_ rfl hloc ?_ ?_ (λv l hl=>Nat.le_of_lt (hb v l hl)) (λk hk=>rfl) (Nat.le_refl _) (by simp[maxLen]) (.inl ⟨rfl,rfl⟩) (λ_ _ h=>absurd rfl h) (λ_ _ h=>absurd rfl h)
 .exact⟨this.1,this.2.1,λk hk=>(this.2.2 k hk).resolve_right (λh=>h.2 rfl)⟩
 .intro i hi
  rw[List.getElem?_set_ne (Ne.symm hi)]
 .rw[List.getElem?_set_self hid]
 .simp
 .intro i v l hi
  simp only[Gh.add] at hi
  split at hi
  .right;assumption
  .left;exact hi
 .simp[Gh.add]
def Zna {h:AH}{i j:Nat}{x y z:Ent}(hne:j≠i):((h.set i x).set j y).set i z=(h.set i z).set j y:=by
 rw[List.set_comm _ _ hne,List.set_set]
def ALe.iceCellNew {T:List AV}{h h1 h2:AH}{id j ver ty s n k v' t' s' ty2 st2:Nat}{cells cs cs' ds:List AV}(hi:h[id]?=some (.mk ver ty s cells)) (hj:h[j]?=some (.mk v' t' s' cs)) (hne:j≠id) (hk:cs[k]?=some (.own id ver n)) (hc:cells.take (n*s)=ds) (hl:n*s<=cells.length) (hp:aPut cs (some k) (.sl n s false ds)=cs')
  (e1:h.set id (.mk (ver+1) ty2 st2 [])=h1) (e2:h1.set j (.mk v' t' s' cs')=h2):ALe n0 T h T h2:=λw0 S0 g0 a w g st=>by
 subst hp hc e1 e2
 have hid:id<h.length:=(List.getElem?_eq_some_iff.1 hi).1
 obtain⟨h1,h2,h3⟩:=st.sim.ice hi
 have htm:=RepL.mono (g.le_ice h id) (λ_ _=>rfl) _ _ st.tmps
 obtain⟨k1,k2⟩:=h1.tell (id:=j) (by rw[List.getElem?_set_ne (Ne.symm hne)];exact hj) hk (λu hu=>h3 n u hl (by
  simp only[Rep] at hu ⊢
  exact hu))
 obtain⟨r1,r2,r3⟩:=k1.renew (id:=id) (v':=ver+1) (by simpa using hid) (λv l hv=>by
  have:=(st.sim.fresh id v l hv).2 _ _ _ _ hi
  omega) none ty2 st2
 have htm2:=RepL.mono r2 (λ_ _=>rfl) _ _ htm
 rw[Zna hne] at r1 r3
 exact⟨_,htm2,st.defers,r1,st.fr,(st.le.trans (g.le_ice h id)).trans r2,st.bd,λi hi=>st.ow i (h2 i (k2 i (r3 i hi)))⟩
end
end
section
section
variable {P : Program}
abbrev dfo:Obj:=.deferred (some [])
abbrev mkD (D:Nat):Ent:=.raw D dfo [] []
def putA (w:World) (k j:Nat) (o:Obj) (h:j≠k):(w.putObj k o).heap[j]?=w.heap[j]?:=World.putObj_heap_other h
def raw_or {h:AH}{i:Nat}{e:Ent}{j k:Nat}{o:Obj}{T:List AV}{vs:List Value}(h1:(h.set i e)[j]?=some (.raw k o T vs)):(j=i/\e=.raw k o T vs)\/(j≠i/\h[j]?=some (.raw k o T vs)):=by
 by_cases hi:j=i
 .subst hi
  by_cases hl:j<h.length
  .rw[List.getElem?_set_self hl] at h1;cases h1;exact .inl ⟨rfl,rfl⟩
  .rw[List.getElem?_eq_none (by simpa using hl)] at h1;cases h1
 .rw[List.getElem?_set_ne (Ne.symm hi)] at h1;exact .inr ⟨hi,h1⟩
def SimH.setRaw {w:World}{g:Gh}{h:AH}(hs:SimH w g h) {i k:Nat}{o o':Obj}{T:List AV}{vs:List Value}(hi:h[i]?=some (.raw k o T vs)) (ho:o'.isCells=false) (e:Ent) (he:e=.raw k o' T vs\/e=.gone) :
  SimH (w.putObj k o') g (h.set i e)/\Fr w (Ow g h) (w.putObj k o') /\ ∀ j,Ow g (h.set i e) j->Ow g h j:=by
 have hil:i<h.length:=(List.getElem?_eq_some_iff.1 hi).1
 obtain⟨r1,r2,r3,r4⟩:=hs.raw _ _ _ _ _ hi
 have hkl:k<w.heap.size:=(Array.getElem?_eq_some_iff.1 r1).1
 have hget : ∀ {j v ty s:Nat} {c:List AV},(h.set i e)[j]?=some (.mk v ty s c)->j≠i/\h[j]?=some (.mk v ty s c):=by
  intro j v ty s c h1
  by_cases hj:j=i
  .subst hj
   rw[List.getElem?_set_self hil] at h1
   rcases he with rfl | rfl <;> cases h1
  .rw[List.getElem?_set_ne (Ne.symm hj)] at h1;exact⟨hj,h1⟩
 have how : ∀ j b,OwAt g (h.set i e) j b->OwAt g h j b:=by
  rintro j b ⟨v,ty,s,c,a,cap,e1,e2⟩
  exact⟨v,ty,s,c,a,cap,(hget e1).2,e2⟩
 have hrw : ∀ {j b:Nat} {x:Obj} {T':List AV} {vs':List Value},(h.set i e)[j]?=some (.raw b x T' vs')->(j=i/\b=k/\x=o'/\T'=T/\vs'=vs)\/(j≠i/\h[j]?=some (.raw b x T' vs')):=by
  intro j b x T' vs' h1
  rcases raw_or h1 with ⟨h2,h3⟩ | h2
  .rcases he with rfl | rfl <;> cases h3
   exact .inl ⟨h2,rfl,rfl,rfl,rfl⟩
  .exact .inr h2
 have hrw' : ∀ j b,RwAt (h.set i e) j b->RwAt h j b:=by
  rintro j b ⟨x,T',vs',h1⟩
  rcases hrw h1 with ⟨rfl,rfl,_⟩ | ⟨_,h2⟩
  .exact⟨_,_,_,hi⟩
  .exact⟨_,_,_,h2⟩
 have hD : ∀ b,g.D b->(w.putObj k o').heap[b]?=w.heap[b]?:=λb hb=>putA _ _ _ _ (λe=>r3 (e ▸ hb))
 have hne : ∀ {j b:Nat},OwAt g h j b->b≠k:=λhb e=>hs.own_ne_raw hb (by subst e;exact⟨o,T,vs,hi⟩)
 refine⟨⟨?_,λa b c h1 h2=>hs.inj a b c (how _ _ h1) (how _ _ h2),λb hb=>by simpa using hs.lt b hb,λj v l hl=>?_,λj v l hl hf=>?_,hs.glob.mono (λ_ h=>h) hD,?_,λa b c h1 h2=>hs.rinj a b c (hrw' _ _ h1) (hrw' _ _ h2),hs.xw (by simp) rfl (λ_=>.inl) (λj hj=>.inl (hj.imp (λ⟨a,h1⟩=>⟨a,how _ _ h1⟩) (λ⟨a,h1⟩=>⟨a,hrw' _ _ h1⟩)))⟩,⟨rfl,rfl,rfl,by simp,λb _ hn=>putA _ _ _ _ (λe=>hn (.inr ⟨i,o,T,vs,by subst e;exact hi⟩))⟩,λj hj=>hj.imp (λ⟨a,h1⟩=>⟨a,how _ _ h1⟩) (λ⟨a,h1⟩=>⟨a,hrw' _ _ h1⟩)⟩
 .intro j v ty s c h1
  obtain⟨hj,h2⟩:=hget h1
  obtain⟨A,cap,e1,e2,e3⟩:=hs.ent _ _ _ _ _ h2
  refine⟨A,cap,e1,e2,e3.mono (Gh.le.refl g) (λ_ _ _ h=>h) hD (λb hb h0=>?_)⟩
  cases A with
  | none=>simp at hb
  | some a=>exact putA _ _ _ _ (hne (j:=j) ⟨v,ty,s,c,a,cap,h2,e1,h0,by simpa using hb⟩)
 .have:=hs.fresh j v l hl
  exact⟨by simpa using this.1,λv' ty s c h1=>this.2 _ _ _ _ (hget h1).2⟩
 .by_cases hj:j=i
  .subst hj;rw[List.getElem?_set_self hil] at hf;rcases he with rfl | rfl <;> cases hf
  .rw[List.getElem?_set_ne (Ne.symm hj)] at hf;exact hs.free _ _ _ hl hf
 .intro j b x T' vs' h1
  rcases hrw h1 with ⟨rfl,rfl,rfl,rfl,rfl⟩ | ⟨hj,h2⟩
  .exact⟨World.putObj_heap_same hkl,ho,r3,RepL.mono (Gh.le.refl g) hD _ _ r4⟩
  .obtain⟨q1,q2,q3,q4⟩:=hs.raw _ _ _ _ _ h2
   exact⟨(putA _ _ _ _ (λe=>hj (hs.rinj j i b ⟨_,_,_,h2⟩ ⟨o,T,vs,by subst e;exact hi⟩))).trans q1,q2,q3,RepL.mono (Gh.le.refl g) hD _ _ q4⟩
def SimH.newRaw {w:World}{g:Gh}{h:AH}(hs:SimH w g h) {o:Obj}{T:List AV}{vs:List Value}(ho:o.isCells=false) (hr:RepL w g T vs) :
  SimH (w.alloc o) g (h++[.raw w.heap.size o T vs])/\Fr w (Ow g h) (w.alloc o) /\ ∀ j,Ow g (h++[.raw w.heap.size o T vs]) j->Ow g h j\/w.heap.size<=j:=by
 have hget : ∀ {j v ty s:Nat} {c:List AV},(h++[.raw w.heap.size o T vs])[j]?=some (.mk v ty s c)->h[j]?=some (.mk v ty s c):=by
  intro j v ty s c h1
  by_cases hj:j<h.length
  .rwa [List.getElem?_append_left hj] at h1
  .rw[List.getElem?_append_right om] at h1
   cases hk:j-h.length with
   | zero=>rw[hk] at h1;simp at h1
   | succ m=>rw[hk] at h1;simp at h1
 have hrw : ∀ {j b:Nat} {x:Obj} {T':List AV} {vs':List Value},(h++[.raw w.heap.size o T vs])[j]?=some (.raw b x T' vs')->(j=h.length/\b=w.heap.size/\x=o/\T'=T/\vs'=vs)\/h[j]?=some (.raw b x T' vs'):=by
  intro j b x T' vs' h1
  by_cases hj:j<h.length
  .rw[List.getElem?_append_left hj] at h1;exact .inr h1
  .rw[List.getElem?_append_right om] at h1
   cases hk:j-h.length with
   | zero=>rw[hk] at h1;simp at h1;obtain⟨rfl,rfl,rfl,rfl⟩:=h1;exact .inl ⟨by omega,rfl,rfl,rfl,rfl⟩
   | succ m=>rw[hk] at h1;simp at h1
 have how : ∀ j b,OwAt g (h++[.raw w.heap.size o T vs]) j b->OwAt g h j b:=by
  rintro j b ⟨v,ty,s,c,a,cap,e1,e2⟩
  exact⟨v,ty,s,c,a,cap,hget e1,e2⟩
 have hold : ∀ b,b<w.heap.size->(w.alloc o).heap[b]?=w.heap[b]?:=λb hb=>Zsu _ _ _ hb
 have hD : ∀ b,g.D b->(w.alloc o).heap[b]?=w.heap[b]?:=λb hb=>hold b (hs.lt b hb)
 have hlt : ∀ {j b:Nat},RwAt h j b->b<w.heap.size:=λhb=>(hs.own_not_D (.inr ⟨_,hb⟩)).2
 refine⟨⟨?_,λa b c h1 h2=>hs.inj a b c (how _ _ h1) (how _ _ h2),λb hb=>by have:=hs.lt b hb;simp;omega,λj v l hl=>?_,λj v l hl hf=>?_,hs.glob.mono (λ_ h=>h) hD,?_,?_,hs.xw (by simp) rfl (λ_=>.inl) ?_⟩,⟨rfl,rfl,rfl,by simp,λb hb _=>hold b hb⟩,?_⟩
 .intro j v ty s c h1
  have h2:=hget h1
  obtain⟨A,cap,e1,e2,e3⟩:=hs.ent _ _ _ _ _ h2
  refine⟨A,cap,e1,e2,e3.mono (Gh.le.refl g) (λ_ _ _ h=>h) hD (λb hb h0=>?_)⟩
  cases A with
  | none=>simp at hb
  | some a=>exact hold b (hs.own_not_D (.inl ⟨j,v,ty,s,c,a,cap,h2,e1,h0,by simpa using hb⟩)).2
 .have:=hs.fresh j v l hl
  exact⟨by simp;omega,λv' ty s c h1=>this.2 _ _ _ _ (hget h1)⟩
 .have:=(hs.fresh j v l hl).1
  rw[List.getElem?_append_left this] at hf
  exact hs.free _ _ _ hl hf
 .intro j b x T' vs' h1
  rcases hrw h1 with ⟨rfl,rfl,rfl,rfl,rfl⟩ | h2
  .exact⟨World.alloc_heap_new w _,ho,λhd=>Nat.lt_irrefl _ (hs.lt _ hd),RepL.mono (Gh.le.refl g) hD _ _ hr⟩
  .obtain⟨q1,q2,q3,q4⟩:=hs.raw _ _ _ _ _ h2
   exact⟨(hold b (hlt ⟨_,_,_,h2⟩)).trans q1,q2,q3,RepL.mono (Gh.le.refl g) hD _ _ q4⟩
 .rintro a b c ⟨x1,x2,x3,h1⟩ ⟨y1,y2,y3,h2⟩
  rcases hrw h1 with ⟨rfl,rfl,_⟩ | h1'
  .rcases hrw h2 with ⟨rfl,_⟩ | h2'
   .rfl
   .exact absurd (hlt ⟨_,_,_,h2'⟩) (Nat.lt_irrefl _)
  .rcases hrw h2 with ⟨rfl,rfl,_⟩ | h2'
   .exact absurd (hlt ⟨_,_,_,h1'⟩) (Nat.lt_irrefl _)
   .exact hs.rinj a b c ⟨_,_,_,h1'⟩ ⟨_,_,_,h2'⟩
 all_goals
  rintro b (⟨a,h1⟩ | ⟨a,x1,x2,x3,h1⟩)
  .exact .inl (.inl ⟨a,how _ _ h1⟩)
  .rcases hrw h1 with ⟨_,rfl,_⟩ | h2
   .exact .inr (Nat.le_refl _)
   .exact .inl (.inr ⟨a,_,_,_,h2⟩)
def St.start {w:World}{g:Gh}{h:AH}{T:List AV}{a:Act}(hs:SimH w g h) (ht:RepL w g T a.tmps.toList):St h.length w (Ow g h) ⟨g.D,g.loc,a.defers,g.X⟩ T h a w g :=
 ⟨ht,rfl,hs,Fr.refl _ _,⟨λ_ h=>h,λ_ _ _ h=>h,rfl⟩,λi v l hl=>(hs.fresh i v l hl).1,λk hk=>.inl hk⟩
structure LkY (w:World) (g:Gh) (h:AH) (w':World) (g':Gh) (h':AH):Prop where
 sim:SimH w' g' h'
 le:g.le g'
 fr:Fr w (Ow g h) w'
 ow : ∀ k,Ow g' h' k->Ow g h k\/w.heap.size<=k
def LkY.trans {a b c:World}{ga gb gc:Gh}{ha hb hc:AH}(h:LkY a ga ha b gb hb) (k:LkY b gb hb c gc hc):LkY a ga ha c gc hc:=by
 refine⟨k.sim,h.le.trans k.le,h.fr.trans k.fr ?_,?_⟩
 .intro i hi hlt
  exact (h.ow i hi).resolve_right om
 .intro i hi
  rcases k.ow i hi with ho | ho
  .exact h.ow i ho
  .exact .inr (Nat.le_trans h.fr.size ho)
def LkY.of_st {w w':World}{g g':Gh}{h h':AH}{n0:Nat}{df:List Deferred}{T:List AV}{a:Act}(st:St n0 w (Ow g h) ⟨g.D,g.loc,df,g.X⟩ T h' a w' g'):LkY w g h w' g' h':=⟨st.sim,⟨st.le.D,st.le.loc,st.le.X⟩,st.fr,st.ow⟩
def LkY.rep {w w':World}{g g':Gh}{h h':AH}(hs:SimH w g h) (k:LkY w g h w' g' h') {T:List AV}{vs:List Value}(ht:RepL w g T vs):RepL w' g' T vs :=
 RepL.mono k.le (λb hb=>k.fr.block b (hs.lt b hb) (λho=>(hs.own_not_D ho).1 hb)) _ _ ht
def LkY.setRaw {w:World}{g:Gh}{h:AH}(hs:SimH w g h) {i k:Nat}{o o':Obj}{T:List AV}{vs:List Value}(hi:h[i]?=some (.raw k o T vs)) (ho:o'.isCells=false) (e:Ent) (he:e=.raw k o' T vs\/e=.gone):LkY w g h (w.putObj k o') g (h.set i e):=by
 obtain⟨h1,h2,h3⟩:=hs.setRaw hi ho e he
 exact⟨h1,Gh.le.refl g,h2,λk hk=>.inl (h3 k hk)⟩
def LkY.newRaw {w:World}{g:Gh}{h:AH}(hs:SimH w g h) {o:Obj}{T:List AV}{vs:List Value}(ho:o.isCells=false) (hr:RepL w g T vs):LkY w g h (w.alloc o) g (h++[.raw w.heap.size o T vs]):=by
 obtain⟨h1,h2,h3⟩:=hs.newRaw ho hr
 exact⟨h1,Gh.le.refl g,h2,h3⟩
structure RgC where
 pre:List Code
 id:Nat
 g:Operand
 ps:Array Tmp
 asg:Code
 body:Code
 post:List Code
def Zwe:Code->List Code
 | .seq a b=>Zwe a++Zwe b
 | c=>[c]
def ZqI:List Code->Option RgC
 | []=>none
 | .block id (.rangeFunc g ps a b)::y=>some ⟨[],id,g,ps,a,b,y⟩
 | x::y=>(ZqI y).map λr=>{ r with pre:=x::r.pre }
def splitR (c:Code):Option RgC:=ZqI (Zwe c)
def wpL (F:Fence) (n:Nat) (P:Program):List Code->(Exit->Act->World->Prop)->Act->World->Prop
 | [],Q,a,w=>Q .normal a w
 | x::l,Q,a,w=>x.wpIn F n P (Exit.then (wpL F n P l Q) Q) a w
def ZlO {F:Fence}{n:Nat} : ∀ {l:List Code}{Q Q':Exit->Act->World->Prop}{a:Act}{w:World},wpL F n P l Q a w->(∀ e a w,Q e a w->Q' e a w)->wpL F n P l Q' a w
 | [],Q,Q',a,w,hq,h=>h _ _ _ hq
 | x::l,Q,Q',a,w,hq,h=>by
  refine wpIn_mono hq ?_
  intro e a w hq
  cases e with
  | normal=>exact ZlO hq h
  | _=>exact h _ _ _ hq
def ZlP {F:Fence}{n:Nat} : ∀ (l m:List Code) {Q:Exit->Act->World->Prop}{a:Act}{w:World},wpL F n P (l++m) Q a w↔wpL F n P l (Exit.then (wpL F n P m Q) Q) a w
 | [],m,Q,a,w=>Iff.rfl
 | x::l,m,Q,a,w=>by
  constructor
  .intro hq
   refine wpIn_mono hq ?_
   intro e a w hq
   cases e with
   | normal=>exact (ZlP l m).1 hq
   | _=>exact hq
  .intro hq
   refine wpIn_mono hq ?_
   intro e a w hq
   cases e with
   | normal=>exact (ZlP l m).2 hq
   | _=>exact hq
def Zsw {F:Fence}{n:Nat}(c:Code) : ∀ {Q:Exit->Act->World->Prop}{a:Act}{w:World},wpL F n P (Zwe c) Q a w->c.wpIn F n P Q a w:=by
 fun_induction Zwe c with
 | case1 x y ihx ihy =>
  intro Q a w hq
  refine wpIn_seq (wpIn_mono (ihx ((ZlP _ _).1 hq)) ?_)
  intro e a w hq
  cases e with
  | normal=>exact ihy hq
  | _=>exact hq
 | case2 c hc =>
  intro Q a w hq
  refine wpIn_mono (show c.wpIn F n P (Exit.then (wpL F n P [] Q) Q) a w from hq) ?_
  intro e a w hq
  cases e <;> exact hq
def ZuK : ∀ {l:List Code}{r:RgC},ZqI l=some r->l=r.pre++Code.block r.id (.rangeFunc r.g r.ps r.asg r.body)::r.post:=by
 intro l
 fun_induction ZqI l with
 | case1=>intro r h;cases h
 | case2 id g ps x b y=>intro r h;cases h;rfl
 | case3 x y hx ih =>
  intro r h
  obtain⟨r',h1,rfl⟩:=Option.map_eq_some_iff.1 h
  rw[ih h1];rfl
def Zm9 {F:Fence}{n:Nat}{Q:Exit->Act->World->Prop}(c:Code) {r:RgC}(hc:splitR c=some r) {a:Act}{w:World}
  (hw:wpL F n P r.pre (Exit.then ((Code.block r.id (.rangeFunc r.g r.ps r.asg r.body)).wpIn F n P (Exit.then (wpL F n P r.post Q) Q)) Q) a w):c.wpIn F n P Q a w:=by
 refine Zsw c ?_
 rw[ZuK hc]
 exact (ZlP _ _).2 hw
structure AFR where
 pre:List AC
 g:Operand
 ps:Array Tmp
 asg:AC
 body:AC
 post:AC
 res:List AR
 ntmps:Nat
def Zis (P:Program) (f:FuncId):Option AFR :=
 match P.funcs[f]? with
 | some fn=>if fn.name == "runtime.NumGoroutine" then none else match fn.body with
  | some c=>match splitR c with
   | some r=>match r.pre.mapM (comp P),comp P r.asg,comp P r.body,r.post.mapM (comp P),fn.results.toList.mapM (Zfs P) with
    | some p,some a,some b,some q,some rs=>some ⟨p,r.g,r.ps,a,b,q.foldr .seq .skip,rs,fn.ntmps⟩
    | _,_,_,_,_=>none
   | none=>none
  | none=>none
 | none=>none
def Zi2 {n0:Nat} : ∀ (l:List Code) (al:List AC),l.mapM (comp P)=some al -> ∀ {Q:AX->List AV->AH->Prop}{T:List AV}{h:AH},aw P n0 (al.foldr .seq .skip) Q T h ->
  ∀ w0 S0 g0 a w g,St n0 w0 S0 g0 T h a w g->wpL Fence.wide 0 P l (ZoB n0 w0 S0 g0 Q) a w
 | [],al,hm,Q,T,h,hw,w0,S0,g0,a,w,g,st=>by
  simp at hm;subst hm
  exact⟨.normal,T,h,g,st,trivial,hw⟩
 | x::l,al,hm,Q,T,h,hw,w0,S0,g0,a,w,g,st=>by
  simp only[List.mapM_cons,Option.bind_eq_bind,Option.bind_eq_some_iff,Option.pure_def,Option.some.injEq] at hm
  obtain⟨ac,h1,al',h2,rfl⟩:=hm
  refine wpIn_mono (@ZfM P n0 rdN x ac h1 _ _ _ hw w0 S0 g0 a w g st) ?_
  rintro e a' w' ⟨z,T',h',g',k1,k2,k3⟩
  cases z <;> cases e <;> simp only[ExR] at k2 <;> simp only[Exit.then,AX.thn] at k3 ⊢
  case normal.normal =>
   obtain⟨T1,h1,hle,hq⟩:=k3
   obtain⟨g1,st1⟩:=hle w0 S0 g0 a' w' g' k1
   exact Zi2 l al' h2 hq w0 S0 g0 a' w' g1 st1
  case exit.exit=>exact⟨_,T',h',g',k1,by simp only[ExR];exact k2,k3⟩
  case ret.ret=>exact⟨_,T',h',g',k1,by simp only[ExR],k3⟩
  case pan.panic=>exact⟨_,T',h',g',k1,by simp only[ExR];exact k2,k3⟩
def setPs (T:List AV) (ps:Array Tmp) (as1:List AV):List AV:=(ps.toList.zip as1).foldl (λT p=>T.set p.1 p.2) T
def Znl {w:World}{g:Gh} : ∀ (ps:List Tmp) (as1:List AV) (args:List Value) (T:List AV) (tm:List Value),RepL w g T tm->RepL w g as1 args ->
  RepL w g ((ps.zip as1).foldl (λT p=>T.set p.1 p.2) T) ((ps.zip args).foldl (λT p=>T.set p.1 p.2) tm)
 | [],_,_,_,_,ht,_=>by simpa using ht
 | p::ps,[],args,T,tm,ht,ha=>by simp only[RepL] at ha;subst ha;simpa using ht
 | p::ps,c::as1,args,T,tm,ht,ha=>by
  simp only[RepL] at ha
  obtain⟨u,us,rfl,h1,h2⟩:=ha
  simp only[List.zip_cons_cons,List.foldl_cons]
  exact Znl ps as1 us _ _ (ht.set h1) h2
def Zk7 : ∀ (l:List (Tmp×Value)) (tm:Array Value),(l.foldl (λt p=>t.setIfInBounds p.1 p.2) tm).toList=l.foldl (λT p=>T.set p.1 p.2) tm.toList
 | [],tm=>rfl
 | p::l,tm=>by simp only[List.foldl_cons];rw[Zk7 l];simp
def Zw2 (i l:Nat) (rdy bsy fin:Obj) (T:List AV) (vs:List Value) (R2:AE->AH->Prop):AX->List AV->AH->Prop
 | .normal,_,h=>h[i]?=some (.raw l bsy T vs)/\R2 (.ret (.v (.bool true))) (h.set i (.raw l rdy T vs))
 | .ret,_,h=>h[i]?=some (.raw l bsy T vs)/\R2 (.ret (.v (.bool false))) (h.set i (.raw l fin T vs))
 | _,_,_=>False
def asgQ (P:Program) (fr:AFR) (i l:Nat) (rdy bsy fin:Obj) (T:List AV) (vs:List Value) (R2:AE->AH->Prop) (x:AX) (T1:List AV) (h2:AH):Prop :=
 x=.normal/\h2[i]?=some (.raw l rdy T vs) /\ ∀ n1,(h2.set i (.raw l bsy T vs)).length=n1->(∀ e∈h2.set i (.raw l bsy T vs),e.lt n1=true)->aw P n1 fr.body (Zw2 i l rdy bsy fin T vs R2) T1 (h2.set i (.raw l bsy T vs))
def ZmK (P:Program) (fr:AFR) (i l:Nat) (rdy bsy fin:Obj) (T:List AV) (vs:List Value):Prop :=
 ∀ (as1:List AV) (h:AH) (R2:AE->AH->Prop),as1.length=fr.ps.size->h[i]?=some (.raw l rdy T vs) ->
  (∀ n0,h.length=n0->(∀ e∈h,e.lt n0=true)->AV.ltL n0 as1=true->AV.bdL as1->AV.bdL T->aw P n0 fr.asg (asgQ P fr i l rdy bsy fin T vs R2) (setPs T fr.ps as1) h)->AYield P l as1 h R2
def Zfm (rs:List AR) (N D:Nat) (R:AE->AH->Prop):AX->List AV->AH->Prop
 | .normal,T,h=>h[N]?=some (mkD D)/\match aRes rs T (h.set N .gone) with
  | some c=>R (.ret c) (h.set N .gone)
  | none=>False
 | .ret,T,h=>h[N]?=some (mkD D)/\match aRes rs T (h.set N .gone) with
  | some c=>R (.ret c) (h.set N .gone)
  | none=>False
 | _,_,_=>False
def rangeA (P:Program) (fr:AFR) (R:AE->AH->Prop) (T:List AV) (h:AH):Prop :=
  ∃ gf caps,Zaf T fr.g=.clo (.func gf) caps /\ ∀ (l D:Nat) (rdy bsy fin:Obj) (vs:List Value),(∀ e∈h,e.lt h.length=true)->AV.ltL h.length T=true->ZmK P fr (h.length+1) l rdy bsy fin T vs ->
    ACalls P gf (.v (.func (.yield l) #[] #[])::caps) (h++[mkD D,.raw l rdy T vs]) λr h3=>(∃ c,r=.ret c) /\
      ((h3[h.length+1]?=some (.raw l rdy T vs) /\ ∀ n0,(h3.set (h.length+1) .gone).length=n0->(∀ e∈h3.set (h.length+1) .gone,e.lt n0=true)->aw P n0 fr.post (Zfm fr.res h.length D R) T (h3.set (h.length+1) .gone)) \/
       (h3[h.length+1]?=some (.raw l fin T vs)/\Zfm fr.res h.length D R .ret T (h3.set (h.length+1) .gone)))
def preQ (P:Program) (fr:AFR) (n0:Nat) (R:AE->AH->Prop):AX->List AV->AH->Prop
 | .normal,T,h => ∃ T1 h1,ALe n0 T h T1 h1/\rangeA P fr R T1 h1
 | .ret,T,h=>match aRes fr.res T h with
  | some c=>R (.ret c) h
  | none=>False
 | _,_,_=>False
def yrule {fr:AFR}{asg body:Code}(ha:comp P asg=some fr.asg) (hb:comp P body=some fr.body) {i D l:Nat}{T:List AV}{tm:Array Value}{rec:LoopState->Option Code->Loop}{fn:FuncId}
    (hrec:rec=λst pe=>{ state:=st,pending:=pe,fn:=fn,tmps:=tm,params:=fr.ps,assign:=asg,body:=body,defers:=D }) :
    ZmK P fr i l (.loop (rec .ready none)) (.loop (rec .busy none)) (.loop (rec .done (some .ret))) T tm.toList:=by
  intro as1 h R2 hsz hi hw w g vs hs hr
  obtain⟨q1,q2,q3,q4⟩:=hs.raw _ _ _ _ _ hi
  have hvs:vs.size=fr.ps.size:=by have:=hr.length;simp only[Array.length_toList] at this;omega
  have hy:=run_yield (P:=P) (args:=vs) q1 (by rw[hrec];exact hvs)
  rw[hrec] at hy
  refine⟨fn,_,asg,body,hy,roundIn_of_wpIn trivial ?_⟩
  have ht:RepL w g (setPs T fr.ps as1) ((fr.ps.zip vs).foldl (λt p=>t.setIfInBounds p.1 p.2) tm).toList:=by
    have:=Znl fr.ps.toList as1 vs.toList T tm.toList q4 hr
    rw[<-Array.foldl_toList,Zk7,Array.toList_zip]
    exact this
  letI:Rd:=rdS l
  refine wpIn_mono (ZfM asg fr.asg ha (hw _ rfl hs.ltE (RepL.lt (λi v l hl=>(hs.fresh i v l hl).1) _ _ hr) (RepL.bd _ _ hr) (RepL.bd _ _ q4)) w _ _ _ w g (St.start (a:={ tmps:=(fr.ps.zip vs).foldl (λt p=>t.setIfInBounds p.1 p.2) tm,defers:=[] }) hs ht)) ?_
  rintro e a1 w1 ⟨x1,T1,h2,g1,st1,hx1,rfl,hi2,hw1⟩
  cases e <;> simp only[ExR] at hx1
  simp only[Exit.then]
  have k1:=LkY.of_st st1
  obtain⟨r1,_,_,_⟩:=k1.sim.raw _ _ _ _ _ hi2
  refine⟨_,run_beginRound r1 (by rw[hrec]),?_⟩
  have e0:({ rec .ready none with state:=.busy }:Loop)=rec .busy none:=by rw[hrec]
  rw[e0]
  have k2:=LkY.setRaw k1.sim hi2 (o':=.loop (rec .busy none)) rfl (.raw l (.loop (rec .busy none)) T tm.toList) (.inl rfl)
  have st2:=St.start (a:=a1) k2.sim (k2.rep k1.sim st1.tmps)
  refine wpIn_mono (ZfM body fr.body hb (hw1 _ rfl k2.sim.ltE) _ _ _ _ _ g1 st2) ?_
  rintro e a2 w2 ⟨x2,T2,h3,g2,st3,hx2,hq⟩
  have k3:=(k1.trans k2).trans (LkY.of_st st3)
  have fin : ∀ (jump : Option Code) (b : Bool), h3[i]? = some (.raw l (.loop (rec .busy none)) T tm.toList) -> b = jump.isNone ->
      R2 (.ret (.v (.bool b))) (h3.set i (.raw l (.loop (rec (if jump.isNone then .ready else .done) jump)) T tm.toList)) ->
      ∃ v w',(Instr.endRound l jump).run P w2=.ok v w' /\ ∃ x h' g',EndR w' g' (.returned v) x/\SimH w' g' h'/\g.le g'/\Fr w (Ow g h) w'/\(∀ k,Ow g' h' k->Ow g h k\/w.heap.size<=k)/\R2 x h':=by
    rintro jump b hi3 rfl hR
    obtain⟨p1,_,_,_⟩:=k3.sim.raw _ _ _ _ _ hi3
    refine⟨_,_,run_endRound jump p1,?_⟩
    have e1:({ rec .busy none with state:=if jump.isNone then .ready else .done,pending:=jump }:Loop)=rec (if jump.isNone then .ready else .done) jump:=by rw[hrec]
    rw[e1]
    have k4:=LkY.setRaw k3.sim hi3 (o':=.loop (rec (if jump.isNone then .ready else .done) jump)) rfl (.raw l (.loop (rec (if jump.isNone then .ready else .done) jump)) T tm.toList) (.inl rfl)
    have k5:=k3.trans k4
    exact⟨.ret (.v (.bool jump.isNone)),_,g2,by simp only[EndR,Rep],k5.sim,k5.le,k5.fr,k5.ow,hR⟩
  cases x2 <;> cases e <;> simp only[ExR] at hx2 <;> simp only[Zw2] at hq <;> try (exact hq.elim)
  . exact fin none true hq.1 rfl hq.2
  . exact fin (some .ret) false hq.1 rfl hq.2
def ZeW {f:FuncId}(he:enters P f=true) (args:Array Value) (w:World):(callFunc f args).run P w=.ok (.enter f args) w:=by
 unfold enters at he
 split at he <;> try (cases he;done)
 rename_i fd hfd
 simp only[Bool.and_eq_true,bne_iff_ne,ne_eq] at he
 have hb:fd.body≠none:=by intro e;simp[e] at he
 simp[callFunc,hfd,he.1,hb]
def ACalls.of_range {f:FuncId}{fr:AFR}(hc:Zis P f=some fr) {args:List AV}{h:AH}{R:AE->AH->Prop}(hw:aw P h.length (fr.pre.foldr .seq .skip) (preQ P fr h.length R) (args++List.replicate (fr.ntmps-args.length) .any) h):ACalls P f args h R:=by
  unfold Zis at hc
  split at hc <;> try (cases hc;done)
  rename_i fn hfn
  split at hc <;> try (cases hc;done)
  rename_i hname
  split at hc <;> try (cases hc;done)
  rename_i c hb
  split at hc <;> try (cases hc;done)
  rename_i rg hrg
  split at hc <;> try (cases hc;done)
  rename_i ap aa ab aq rs hap haa hab haq hrs
  cases hc
  simp only at hw
  refine⟨?_,λw g vs hs ha=>(callsIn_wide (n:=0)).1 (callsIn_of_wp_marks hfn hb trivial (Zm9 c hrg ?_) rfl)⟩
  . simp only[enters,hfn,hb]
    simp only[Bool.not_eq_true] at hname
    simp[bne,hname]
  have hlen:vs.size=args.length:=by simpa using ha.length
  have ht:RepL w g (args++List.replicate (fn.ntmps-args.length) .any) (vs++Array.replicate (fn.ntmps-vs.size) undef).toList:=by
    simp only[Array.toList_append,Array.toList_replicate,hlen]
    refine ha.append ?_
    have:=Zmb w g (List.replicate (fn.ntmps-args.length) undef)
    simpa using this
  have fin : ∀ {w1 : World} {g1 : Gh} {h1 : AH} {T1 : List AV} {a1 : Act} {c : AV}, LkY w g h w1 g1 h1 -> RepL w1 g1 T1 a1.tmps.toList -> aRes rs T1 h1 = some c -> R (.ret c) h1 ->
      LeavesInM Fence.wide 0 P fn a1.tmps (λe w' => ∃ x h' g',EndR w' g' e x/\SimH w' g' h'/\g.le g'/\Fr w (Ow g h) w'/\(∀ k,Ow g' h' k->Ow g h k\/w.heap.size<=k)/\R x h') [] .returning w1:=by
    intro w1 g1 h1 T1 a1 c k1 ht1 hres hR
    obtain⟨v,r1,r2⟩:=ZdT hrs hres k1.sim ht1
    exact⟨v,by simpa using r1,.ret c,h1,g1,r2,k1.sim,k1.le,k1.fr,k1.ow,hR⟩
  have hpre:=Zi2 rg.pre ap hap hw w _ _ _ w g (St.start (a:={ tmps:=vs++Array.replicate (fn.ntmps-vs.size) undef,defers:=[] }) hs ht)
  refine ZlO hpre ?_
  rintro e1 a1 w1 ⟨x1,T1,h1,g1,st1,hx1,hq1⟩
  have hdf:a1.defers=[]:=st1.defers
  cases x1 <;> cases e1 <;> simp only[ExR] at hx1 <;> simp only[preQ] at hq1 <;> try (exact hq1.elim)
  rotate_left 1
  . split at hq1 <;> try (exact hq1.elim)
    rename_i c0 hc0
    show LeavesInM Fence.wide 0 P fn a1.tmps _ a1.defers .returning w1
    rw[hdf]
    exact fin (LkY.of_st st1) st1.tmps hc0 hq1
  obtain⟨T1',h1',hle1,gf,caps,hgf,hit⟩:=hq1
  obtain⟨g1',st1⟩:=hle1 _ _ _ _ _ _ st1
  have k1:=LkY.of_st st1
  simp only[Exit.then]
  refine wpIn_block (wpIn_rangeFunc ?_)
  intro fn1 _
  show ∃ (l:Nat) (mark:List Deferred) (w₁:World) (d:Deferred) (w₁':World) (f:FuncId) (args:Array Value) (w₂:World),(Instr.enterLoop fn1 a1.tmps rg.ps rg.asg rg.body none).run P w1=_/\_
  obtain⟨rec,hrec⟩ : ∃ rec:LoopState->Option Code->Loop,rec=λst pe=>{ state:=st,pending:=pe,fn:=fn1,tmps:=a1.tmps,params:=rg.ps,assign:=rg.asg,body:=rg.body,defers:=w1.heap.size }:=⟨_,rfl⟩
  have k2:=LkY.newRaw k1.sim (o:=dfo) (T:=[]) (vs:=[]) rfl (by simp only[RepL])
  have k3:=LkY.newRaw k2.sim (o:=.loop (rec .ready none)) (T:=T1') (vs:=a1.tmps.toList) rfl (k2.rep k1.sim st1.tmps)
  rw[World.size_alloc,List.append_assoc,List.cons_append,List.nil_append] at k3
  have k123:=(k1.trans k2).trans k3
  have hcallee:=Zca st1.tmps rg.g
  rw[hgf] at hcallee
  simp only[Rep] at hcallee
  obtain⟨cv,hcv,hcr⟩:=hcallee
  have hy:=yrule (P:=P) (fr:=⟨ap,rg.g,rg.ps,aa,ab,aq.foldr .seq .skip,rs,fn.ntmps⟩) haa hab (i:=h1'.length+1) (D:=w1.heap.size) (l:=w1.heap.size+1) (T:=T1') hrec
  obtain⟨heng,hcall⟩:=hit (w1.heap.size+1) w1.heap.size _ _ _ a1.tmps.toList st1.sim.ltE (RepL.lt (λi v l hl=>(st1.sim.fresh i v l hl).1) _ _ st1.tmps) hy
  refine⟨w1.heap.size+1,[{ target:=.collected w1.heap.size,args := #[] }],(w1.alloc dfo).alloc (.loop (rec .ready none)),{ target:=.fn (.func gf) cv,args := #[.func (.yield (w1.heap.size+1)) #[] #[]] },(w1.alloc dfo).alloc (.loop (rec .ready none)),gf,
    #[.func (.yield (w1.heap.size+1)) #[] #[]]++cv,(w1.alloc dfo).alloc (.loop (rec .ready none)),(by rw[hrec];exact run_enterLoop_outer _ _ _ _ _),?_,λ_ _=>trivial,?_,λh=>by simp[Fence.wide] at h,?_⟩
  . simp only[resolve,hcv]
    simp[go_sem]
  . simp[invoke,go_sem,ZeW heng]
  refine callsIn_wide.2 ((hcall _ g1' _ k123.sim (by
    rw[Array.toList_append]
    have hcr':=(k2.trans k3).rep k1.sim hcr
    simp only[List.cons_append,List.nil_append,RepL]
    exact⟨_,_,rfl,by simp only[Rep],hcr'⟩)).mono ?_)
  rintro e3 w3 ⟨x3,h3,g3,hx3,hs3,hle3,hfr3,how3,⟨c3,rfl⟩,hcase⟩
  cases e3 <;> simp only[EndR] at hx3
  have k4:LkY w g h w3 g3 h3:=k123.trans ⟨hs3,hle3,hfr3,how3⟩
  have ht3:RepL w3 g3 T1' a1.tmps.toList:=(LkY.mk hs3 hle3 hfr3 how3).rep k123.sim ((k2.trans k3).rep k1.sim st1.tmps)
  -- the end, with the mark taken up
  have fin2 : ∀ {w5 : World} {g5 : Gh} {h5 : AH} {T5 : List AV} {a5 : Act}, LkY w g h w5 g5 h5 -> RepL w5 g5 T5 a5.tmps.toList -> a5.defers = [{ target := .collected w1.heap.size, args := #[] }] -> Zfm rs h1'.length w1.heap.size R .ret T5 h5 ->
      LeavesInM Fence.wide 0 P fn a5.tmps (λe w' => ∃ x h' g',EndR w' g' e x/\SimH w' g' h'/\g.le g'/\Fr w (Ow g h) w'/\(∀ k,Ow g' h' k->Ow g h k\/w.heap.size<=k)/\R x h') a5.defers .returning w5:=by
    rintro w5 g5 h5 T5 a5 k5 ht5 hd5 ⟨hi5,hR5⟩
    split at hR5 <;> try (exact hR5.elim)
    rename_i c5 hres
    rw[hd5]
    obtain⟨p1,_,_,_⟩:=k5.sim.raw _ _ _ _ _ hi5
    have k6:=LkY.setRaw k5.sim hi5 (o':=.deferred none) rfl .gone (.inr rfl)
    have ht6:=k6.rep k5.sim ht5
    refine⟨by simp,.inl ⟨_,_,rfl,run_takeDeferred p1,?_⟩⟩
    exact fin (k5.trans k6) ht6 hres hR5
  have drop : ∀ (o : Obj) (st : LoopState) (jump : Option Code), o = .loop (rec st jump) -> h3[h1'.length + 1]? = some (.raw (w1.heap.size + 1) o T1' a1.tmps.toList) -> st ≠ .busy ->
      ∃ w4,(Instr.endLoop (w1.heap.size+1)).run P w3=.ok jump w4/\LkY w g h w4 g3 (h3.set (h1'.length+1) .gone)/\RepL w4 g3 T1' a1.tmps.toList:=by
    rintro o st jump rfl hi3 hst
    obtain⟨p1,_,_,_⟩:=hs3.raw _ _ _ _ _ hi3
    have k5:=LkY.setRaw hs3 hi3 (o':=.loop { rec st jump with state:=.exhausted }) rfl .gone (.inr rfl)
    have ht5:=k5.rep hs3 ht3
    refine⟨_,?_,k4.trans k5,ht5⟩
    have:=run_endLoop (P:=P) p1 (by rw[hrec];exact hst)
    rw[this]
    rw[hrec]
  rcases hcase with ⟨hi3,hpost⟩ | ⟨hi3,hpost⟩
  . obtain⟨w4,r4,k5,ht5⟩:=drop _ .ready none rfl hi3 (by simp)
    refine⟨none,w4,r4,?_⟩
    show wpL Fence.wide 0 P rg.post _ _ w4
    have st5:=St.start (a:={ a1 with defers:=[{ target:=.collected w1.heap.size,args := #[] }]++a1.defers }) k5.sim ht5
    refine ZlO (Zi2 rg.post aq haq (hpost _ rfl k5.sim.ltE) _ _ _ _ _ g3 st5) ?_
    rintro e6 a6 w6 ⟨x6,T6,h6,g6,st6,hx6,hq6⟩
    have k6:=k5.trans (LkY.of_st st6)
    have hd6:a6.defers=[{ target:=.collected w1.heap.size,args := #[] }]:=by rw[st6.defers];simp[hdf]
    cases x6 <;> cases e6 <;> simp only[ExR] at hx6 <;> simp only[Zfm] at hq6 <;> try (exact hq6.elim)
    . exact fin2 k6 st6.tmps hd6 hq6
    . exact fin2 k6 st6.tmps hd6 hq6
  . obtain⟨w4,r4,k5,ht5⟩:=drop _ .done (some .ret) rfl hi3 (by simp)
    refine⟨some .ret,w4,r4,wpIn_ret ?_⟩
    exact fin2 (a5:={ a1 with defers:=[{ target:=.collected w1.heap.size,args := #[] }]++a1.defers }) k5 ht5 (by simp[hdf]) hpost
end
section
variable {P : Program} {Kp : AV -> List AV -> AH -> Prop} {K : List AV -> AH -> Prop} {T T' : List AV} {h h' : AH} {d : Option Nat} {c : AV} {rest : List AOper}
def Ziy {f:FuncId}{fr:AFR}(hc:Zis P f=some fr):enters P f=true:=by
 unfold Zis at hc
 split at hc <;> try (cases hc;done)
 rename_i fn hfn
 split at hc <;> try (cases hc;done)
 rename_i hname
 split at hc <;> try (cases hc;done)
 rename_i c hb
 simp only[enters,hfn,hb]
 simp only[Bool.not_eq_true] at hname
 simp[bne,hname]
def tR' {f:FuncId}{fr:AFR}{args:List AV}{R:AE->Prop}(hc:Zis P f=some fr) (hw : ∀ n,h.length=n->(∀ e∈h,e.lt n=true)->AV.ltL n args=true->AV.bdL args->aw P n (fr.pre.foldr .seq .skip) (preQ P fr n λx h' => ∃ z,h'=h++z/\x.lt n=true/\R x) (tA' args fr.ntmps) (h++[]))
  (hl:Nat.ble args.length fr.ntmps=true:=by rfl):ACalls P f args h λx h'=>h'=h/\R x:=by
 refine ACalls.gc_same ⟨Ziy hc,λw g vs hs ha=>(ACalls.of_range hc ?_).2 w g vs hs ha⟩
 have:=hw h.length rfl hs.ltE (RepL.lt (λi v l hl=>(hs.fresh i v l hl).1) _ _ ha) (RepL.bd _ _ ha)
 rw[List.append_nil] at this
 rw[Zie _ _ (Nat.le_of_ble_eq_true hl)]
 exact this
def Zvr {fr:AFR}{n0 gf l0:Nat}{R:AE->AH->Prop}{T1 caps:List AV}{h1:AH}(hl:ALe n0 T h T1 h1) (hg:Zaf T1 fr.g=.clo (.func gf) caps) (hn:h1.length=l0)
    (hi : ∀ (l D:Nat) (rdy bsy fin:Obj) (vs:List Value),(∀ e∈h1,e.lt l0=true)->AV.ltL l0 T1=true->ZmK P fr (l0+1) l rdy bsy fin T1 vs ->
      ACalls P gf (.v (.func (.yield l) #[] #[])::caps) (h1++[mkD D,.raw l rdy T1 vs]) λr h3=>(∃ c,r=.ret c) /\
      ((h3[l0+1]?=some (.raw l rdy T1 vs) /\ ∀ n0,(h3.set (l0+1) .gone).length=n0->(∀ e∈h3.set (l0+1) .gone,e.lt n0=true)->aw P n0 fr.post (Zfm fr.res l0 D R) T1 (h3.set (l0+1) .gone)) \/
       (h3[l0+1]?=some (.raw l fin T1 vs)/\Zfm fr.res l0 D R .ret T1 (h3.set (l0+1) .gone)))):preQ P fr n0 R .normal T h:=by
  subst hn;exact⟨T1,h1,hl,gf,caps,hg,hi⟩
def ZuY {l:Nat}{x:Operand}{xs:List Operand}{as1:List AV}(hf:Zaf T x=.v (.func (.yield l) #[] #[])) (hx:xs.map (Zaf T)=as1) (hc:AYield P l as1 h λr h''=>r=.ret c/\h''=h') (hp:aPut T d c=T') (hk:arun P Kp rest T' h' K):arun P Kp (⟨d,none,.call x xs⟩::rest) T h K:=by
 subst hp hx
 refine⟨λ_=>?_,λh=>by cases h⟩
 simp only[astep,hf,Zey]
 refine⟨trivial,trivial,λw g vs hs ha=>?_⟩
 obtain⟨f,t,a,b,h1,h2⟩:=hc w g vs hs ha
 refine⟨f,t,a,b,h1,h2.mono ?_⟩
 rintro e w' ⟨x,h',g',k1,k2,k3,k4,k5,rfl,rfl⟩
 exact⟨_,_,g',k1,k2,k3,k4,k5,hk⟩
def AYield.mono {l:Nat}{as1:List AV}{R R':AE->AH->Prop}(hc:AYield P l as1 h R) (hr : ∀ r h,R r h->R' r h):AYield P l as1 h R':=λw g vs hs ha=>by
 obtain⟨f,t,a,b,h1,h2⟩:=hc w g vs hs ha
 exact⟨f,t,a,b,h1,h2.mono λ_ _ ⟨x,h',g',h1,h2,h3,h4,h5,h6⟩=>⟨x,h',g',h1,h2,h3,h4,h5,hr _ _ h6⟩⟩
def Zjc {fr:AFR}{n0:Nat}{R:AE->AH->Prop}(hr:aRes fr.res T h=some c) (hR:R (.ret c) h):preQ P fr n0 R .ret T h:=by simp only[preQ,hr];exact hR
def Zd8 {rs:List AR}{k D:Nat}{R:AE->AH->Prop}(h1:h[k]?=some (mkD D)) (h2:h.set k .gone=h') (hr:aRes rs T h'=some c) (hR:R (.ret c) h'):Zfm rs k D R .ret T h:=by subst h2;simp only[Zfm,hr];exact⟨h1,hR⟩
def YieldAt.gc {l:Nat}{as1:List AV}{R:AE->AH->Prop}(hc:AYield P l as1 h λx h' => ∃ y z,h'=y++z/\y.length=h.length/\(∀ e∈y,e.lt h.length=true)/\x.lt h.length=true/\R x y):AYield P l as1 h R:=λw g vs hs ha=>by
 obtain⟨f,t,a,b,q1,q2⟩:=hc w g vs hs ha
 refine⟨f,t,a,b,q1,q2.mono ?_⟩
 rintro e w' ⟨x,h',g',h1,h2,h3,h4,h5,y,z,rfl,hl,hlt,hx,hR⟩
 have hcut:=h2.cut (by rw[hl];exact hlt)
 refine⟨x,y,g'.cut y.length,?_,hcut,h3.cut (λi v l hi=>by rw[hl];exact (hs.fresh _ _ _ hi).1),h4,λk hk=>h5 k hk.of_cut,hR⟩
 rw[hl]
 cases x <;> cases e <;> simp only[EndR] at h1 ⊢
 .exact Rep.cut _ _ hx h1
 .obtain⟨v,e1,e2⟩:=h1;exact⟨v,e1,Rep.cut _ _ hx e2⟩
def y_go {fr:AFR}{i l:Nat}{rdy bsy fin:Obj}{T:List AV}{vs:List Value}(hY:ZmK P fr i l rdy bsy fin T vs) {as1:List AV}(hi:h[i]?=some (.raw l rdy T vs)) (hsz:as1.length=fr.ps.size)
  (hw : ∀ n0,h.length=n0->(∀ e∈h,e.lt n0=true)->AV.ltL n0 as1=true->AV.bdL as1->AV.bdL T->aw P n0 fr.asg (asgQ P fr i l rdy bsy fin T vs λx h2 => ∃ y z,h2=y++z/\y.length=n0/\(∀ e∈y,e.lt n0=true)/\x.lt n0=true/\x=.ret c/\y=h') (setPs T fr.ps as1) h) :
  AYield P l as1 h λr h''=>r=.ret c/\h''=h' :=
 YieldAt.gc (hY as1 h _ hsz hi λn0 hn hlt q1 q2 q3=>by subst hn;exact hw _ rfl hlt q1 q2 q3)
def Zxb {fr:AFR}{i l:Nat}{rdy bsy fin:Obj}{vs:List Value}{R2:AE->AH->Prop}{T0:List AV}(hi:h[i]?=some (.raw l rdy T0 vs)) (hs:h.set i (.raw l bsy T0 vs)=h') (hw : ∀ n1,h'.length=n1->(∀ e∈h',e.lt n1=true)->aw P n1 fr.body (Zw2 i l rdy bsy fin T0 vs R2) T h'):asgQ P fr i l rdy bsy fin T0 vs R2 .normal T h:=by
 subst hs;exact⟨rfl,hi,hw⟩
def ZjL {i l:Nat}{rdy bsy fin:Obj}{vs:List Value}{R2:AE->AH->Prop}{T0:List AV}(hi:h[i]?=some (.raw l bsy T0 vs)) (hs:h.set i (.raw l rdy T0 vs)=h') (hR:R2 (.ret (.v (.bool true))) h'):Zw2 i l rdy bsy fin T0 vs R2 .normal T h:=by
 subst hs;exact⟨hi,hR⟩
def ZrR {i l:Nat}{rdy bsy fin:Obj}{vs:List Value}{R2:AE->AH->Prop}{T0:List AV}(hi:h[i]?=some (.raw l bsy T0 vs)) (hs:h.set i (.raw l fin T0 vs)=h') (hR:R2 (.ret (.v (.bool false))) h'):Zw2 i l rdy bsy fin T0 vs R2 .ret T h:=by
 subst hs;exact⟨hi,hR⟩
def AYield.args {l:Nat}{as1 as2:List AV}{R:AE->AH->Prop}(hc:AYield P l as1 h R) (e:as2=as1):AYield P l as2 h R:=e ▸ hc
def k_callY {m:Bool}{q:List Bool}{rs:List Nat}{l:Nat}{x:Operand}{xs:List Operand}{as1:List AV}(hf:Zaf T x=.v (.func (.yield l) #[] #[])) (hx:xs.map (Zaf T)=as1) (hc:AYield P l as1 h λr h''=>r=.ret c/\h''=h') (hr : ∀ id∈(bif m then rs else []),h'[id]?=h[id]?) (hp:aPut T d c=T') (hk:ZcJ P rs q rest T' h' K):ZcJ P rs (m::q) (⟨d,none,.call x xs⟩::rest) T h K:=by
 subst hp hx
 refine⟨λ_=>?_,λh=>by cases h⟩
 refine⟨c,h',?_,hr,hk⟩
 simp only[hf,Zey]
 exact⟨trivial,trivial,hc.mono λr h2 hr=>⟨hr.2,hr.1⟩⟩
def s_callE {ι:Type}{H:ι->AH}{J:ι->Prop}{f:FuncId}{xs:List Operand}{as1:List AV}(hx:xs.map (Zaf T)=as1) (hc:ACalls P f as1 h λr h''=>r=.ret c /\ ∃ i,J i/\h''=H i) (hp:aPut T d c=T') (hk : ∀ i,J i->arun P Kp rest T' (H i) K):arun P Kp (⟨d,none,.call (.func f) xs⟩::rest) T h K:=by
 subst hp
 refine ZkO hx hc ?_
 rintro r h'' ⟨rfl,i,h1,rfl⟩
 exact hk i h1
def ZdP {off id v a b:Nat}{x:Operand}(hx:Zaf T x=.ptr id v (a+b)):aval h (Zaf T) (.fa off x)=some (.ptr id v (a+(b+off))):=by rw[<-Nat.add_assoc];exact Zbu hx
def Zck {α:Type}{f:α->List AV}{sz k off id v ty s:Nat}{l:List α}{x:Operand}(hx:Zaf T x=.ptr id v (k*sz+off)) (he:h[id]?=some (.mk v ty s (rows f l))) (hf : ∀ x,(f x).length=sz) (hk:k<l.length) (ho:off<sz) (hc:(f l[k])[off]?=some c):aval h (Zaf T) (.load false 1 x)=some c:=by
 refine Zaa hx he ?_
 rw[<-Zgl hf hk,List.getElem?_take_of_lt ho,List.getElem?_drop] at hc
 exact hc
def ZoE {α:Type}{f:α->List AV}{sz k off id v ty s m:Nat}{l:List α}{x:Operand}{cs:List AV}(hx:Zaf T x=.ptr id v (k*sz+off)) (he:h[id]?=some (.mk v ty s (rows f l))) (hf : ∀ x,(f x).length=sz) (hk:k<l.length) (ho:off+m<=sz) (hc:((f l[k]).drop off).take m=cs) (hl:cs.length=m):aval h (Zaf T) (.load true m x)=some (.agg cs):=by
 refine Zad hx he ?_ hl
 rw[<-Zgl hf hk,List.drop_take,List.take_take,List.drop_drop,Nat.min_eq_left om] at hc
 exact hc
end
end
section
section
variable {P : Program} {n0 : Nat}
def badC:AC:=.cond (.const (.int .i64 0)) .skip .skip
def Ziu [Rd] {Q:AX->List AV->AH->Prop}{T:List AV}{h:AH}(hw:aw P n0 badC Q T h):False:=by
 unfold badC at hw
 unfold aw at hw
 exact hw
def selB:Option (List Nat)->Nat->Bool
 | none,_=>true
 | some l,n=>l.contains n
def ZhG (P:Program) (ns:Option (List Nat)):Code->Option AC
 | .skip=>some .skip
 | .region _ ops draw=>match ops.toList.mapM (ZbB P [] ops) with
  | some al=>if draw=false then some (.reg al) else some ((bif selB ns ops.size then ZjD P ops else ZgW P ops al).getD badC)
  | none=>some badC
 | .seq a b=>match ZhG P ns a,ZhG P ns b with
  | some x,some y=>some (.seq x y)
  | _,_=>none
 | .cond c a b=>match ZhG P ns a,ZhG P ns b with
  | some x,some y=>some (.cond c x y)
  | _,_=>none
 | .block id a=>(ZhG P ns a).map (.block id)
 | .loop a=>(ZhG P ns a).map .loop
 | .exit id=>some (.exit id)
 | .ret=>some .ret
 | _=>some badC
def ZpE [Rd] {ns:Option (List Nat)} : ∀ (c:Code) (ac:AC),ZhG P ns c=some ac -> ∀ {Q:AX->List AV->AH->Prop}{T:List AV}{h:AH},aw P n0 ac Q T h->AW P n0 c Q T h:=by
 intro c
 induction c with
 | skip=>intro ac hc Q T h hw;cases hc;exact ZxO hw
 | region id ops draw =>
  intro ac hc Q T h hw
  simp only[ZhG] at hc
  split at hc
  .rename_i al hm
   split at hc
   .rename_i hd;subst hd;cases hc;exact Zoz hm hw
   .rename_i hd
    obtain rfl:draw=true:=by simpa using hd
    cases hb:selB ns ops.size with
    | false =>
     rw[hb] at hc
     simp only[cond_false] at hc
     cases hu:ZgW P ops al with
     | none=>rw[hu] at hc;cases hc;exact (Ziu hw).elim
     | some ac2=>rw[hu] at hc;cases hc;exact Zgn hu hw
    | true =>
    rw[hb] at hc
    simp only[cond_true] at hc
    cases hu:ZjD P ops with
    | none=>rw[hu] at hc;cases hc;exact (Ziu hw).elim
    | some ac2 =>
     rw[hu] at hc
     cases hc
     unfold ZjD at hu
     split at hu <;> try (cases hu;done)
     rename_i al2 hm2
     split at hu <;> try (cases hu;done)
     rename_i hcond
     cases hu
     exact Zkl hcond.1 hcond.2 hm2 hw
  .cases hc;exact (Ziu hw).elim
 | seq a b iha ihb =>
  intro ac hc Q T h hw
  simp only[ZhG] at hc
  split at hc <;> try (cases hc;done)
  rename_i x y hx hy
  cases hc
  refine AW_seq ((iha x hx hw).mono ?_)
  intro z T' h' hq
  cases z <;> simp only[AX.thn] at hq ⊢ <;> first | exact hq | (obtain⟨T1,h1,hle,hq⟩:=hq;exact AW_le hle (ihb y hy hq))
 | cond c a b iha ihb =>
  intro ac hc Q T h hw
  simp only[ZhG] at hc
  split at hc <;> try (cases hc;done)
  rename_i x y hx hy
  cases hc
  simp only[aw] at hw
  split at hw <;> try (exact hw.elim)
  rename_i t ht
  exact ZxR ht (λe=>iha x hx (hw.1 e)) (λe=>ihb y hy (hw.2 e))
 | block id a iha =>
  intro ac hc Q T h hw
  simp only[ZhG,Option.map_eq_some_iff] at hc
  obtain⟨x,hx,rfl⟩:=hc
  exact ZrZ (iha x hx hw)
 | loop a iha =>
  intro ac hc Q T h hw
  simp only[ZhG,Option.map_eq_some_iff] at hc
  obtain⟨x,hx,rfl⟩:=hc
  obtain⟨I,n,h0,hr⟩:=hw
  refine ZxP (λn T h => ∃ T1 h1,ALe n0 T h T1 h1/\I n T1 h1) n h0 ?_
  rintro n T h ⟨T1,h1,hle,hI⟩
  exact AW_le hle (iha x hx (hr n T1 h1 hI))
 | rangeFunc f ps x y iha ihb=>intro ac hc Q T h hw;cases hc;exact (Ziu hw).elim
 | exit id=>intro ac hc Q T h hw;cases hc;exact ZxQ hw
 | scope a iha=>intro ac hc Q T h hw;cases hc;exact (Ziu hw).elim
 | label l=>intro ac hc Q T h hw;cases hc;exact (Ziu hw).elim
 | goto l=>intro ac hc Q T h hw;cases hc;exact (Ziu hw).elim
 | ret=>intro ac hc Q T h hw;cases hc;exact AW_ret hw
 | refuse w=>intro ac hc Q T h hw;cases hc;exact (Ziu hw).elim
def Zfw (P:Program) (ns:Option (List Nat)) (f:FuncId):Option AF :=
 match P.funcs[f]? with
 | some fn=>if fn.name == "runtime.NumGoroutine" then none else match fn.body with
  | some c=>match ZhG P ns c,fn.results.toList.mapM (Zfs P) with
   | some ac,some rs=>some ⟨ac,rs,fn.ntmps⟩
   | _,_=>none
  | none=>none
 | none=>none
def ACalls.of_awU {ns:Option (List Nat)}{f:FuncId}{af:AF}(hc:Zfw P ns f=some af) {args:List AV}{h:AH}{R:AE->AH->Prop}(hw:aw P h.length af.code (retA af.res R) (args++List.replicate (af.ntmps-args.length) .any) h):ACalls P f args h R:=by
 unfold Zfw at hc
 split at hc <;> try (cases hc;done)
 rename_i fn hfn
 split at hc <;> try (cases hc;done)
 rename_i hname
 split at hc <;> try (cases hc;done)
 rename_i c hb
 split at hc <;> try (cases hc;done)
 rename_i ac rs hac hrs
 cases hc
 letI:Rd:=rdN
 refine ACalls.of_AW hfn hb ?_ ((ZpE c ac hac hw).mono ?_)
 .simp only[enters,hfn,hb]
  simp only[Bool.not_eq_true] at hname
  simp[bne,hname]
 .intro x T' h' hq
  cases x <;> simp only[retA,RetQ] at hq ⊢
  .split at hq <;> try (exact hq.elim)
   rename_i r hr
   exact⟨r,λw g a hs ht=>ZdT hrs hr hs ht,hq⟩
  .split at hq <;> try (exact hq.elim)
   rename_i r hr
   exact⟨r,λw g a hs ht=>ZdT hrs hr hs ht,hq⟩
  .exact hq
def Ze7 {ns:Option (List Nat)}{f:FuncId}{af:AF}(hc:Zfw P ns f=some af):enters P f=true:=by
 unfold Zfw at hc
 split at hc <;> try (cases hc;done)
 rename_i fn hfn
 split at hc <;> try (cases hc;done)
 rename_i hname
 split at hc <;> try (cases hc;done)
 rename_i c hb
 simp only[enters,hfn,hb]
 simp only[Bool.not_eq_true] at hname
 simp[bne,hname]
def tU' {ns:Option (List Nat)}{f:FuncId}{c:AC}{rs:List AR}{m:Nat}{args:List AV}{h:AH}{R:AE->Prop}(hc:Zfw P ns f=some ⟨c,rs,m⟩) (hw : ∀ n,h.length=n->(∀ e∈h,e.lt n=true)->AV.ltL n args=true->AV.bdL args->aw P n c (retA rs λx h' => ∃ z,h'=h++z/\x.lt n=true/\R x) (tA' args m) (h++[])) (hl:Nat.ble args.length m=true:=by rfl):ACalls P f args h λx h'=>h'=h/\R x:=by
 refine ACalls.gc_same ⟨Ze7 hc,λw g vs hs ha=>(ACalls.of_awU hc ?_).2 w g vs hs ha⟩
 have:=hw h.length rfl hs.ltE (RepL.lt (λi v l hl=>(hs.fresh i v l hl).1) _ _ ha) (RepL.bd _ _ ha)
 rw[List.append_nil] at this
 show aw P h.length c _ (args++List.replicate (m-args.length) .any) h
 rw[Zie _ _ (Nat.le_of_ble_eq_true hl)]
 exact this
def tUW' {ns:Option (List Nat)}{f:FuncId}{c:AC}{rs:List AR}{m:Nat}{args:List AV}{h:AH}{res:AV}(hc:Zfw P ns f=some ⟨c,rs,m⟩) (hw : ∀ n,h.length=n->(∀ e∈h,e.lt n=true)->AV.ltL n args=true->AV.bdL args->aw P n c (retA rs λx h' => ∃ z,h'=h++z/\x.lt n=true /\ ∃ c,x=.ret c/\Wk c res) (tA' args m) (h++[])) (hl:Nat.ble args.length m=true:=by rfl):ACalls P f args h λx h'=>h'=h/\x=.ret res :=
 ACalls.weak (tU' hc hw hl)
def tUN' {ns:Option (List Nat)}{f:FuncId}{c:AC}{rs:List AR}{m:Nat}{args:List AV}{h:AH}{R:AE->AH->Prop}(hc:Zfw P ns f=some ⟨c,rs,m⟩) (hw : ∀ n,h.length=n->(∀ e∈h,e.lt n=true)->AV.ltL n args=true->AV.bdL args->aw P n c (retA rs R) (tA' args m) (h++[])) (hl:Nat.ble args.length m=true:=by rfl):ACalls P f args h R:=by
 refine⟨Ze7 hc,λw g vs hs ha=>(ACalls.of_awU hc ?_).2 w g vs hs ha⟩
 have:=hw h.length rfl hs.ltE (RepL.lt (λi v l hl=>(hs.fresh i v l hl).1) _ _ ha) (RepL.bd _ _ ha)
 rw[List.append_nil] at this
 show aw P h.length c _ (args++List.replicate (m-args.length) .any) h
 rw[Zie _ _ (Nat.le_of_ble_eq_true hl)]
 exact this
def tUJ' {ns:Option (List Nat)}{f:FuncId}{c:AC}{rs:List AR}{m:Nat}{args:List AV}{h:AH}{R:AE->AH->Prop}(hc:Zfw P ns f=some ⟨c,rs,m⟩) (hw : ∀ n,h.length=n->(∀ e∈h,e.lt n=true)->AV.ltL n args=true->AV.bdL args->aw P n c (retA rs λx h' => ∃ y z,h'=y++z/\y.length=n/\(∀ e∈y,e.lt n=true)/\x.lt n=true/\R x y) (tA' args m) (h++[])) (hl:Nat.ble args.length m=true:=by rfl):ACalls P f args h R :=
 ACalls.gc (tUN' hc (λn hn=>by subst hn;exact hw _ rfl) hl)
def ACalls.turnTo {f:FuncId}{args:List AV}{h:AH}{id v ty st n ty2 st2:Nat}{cs cells:List AV}(hi:h[id]?=some (.mk v ty st cs)) (hlt:AV.ltL h.length cells=true)
  (hc:ACalls P f args h λx h' => ∃ z j u,h'=h++z/\z[j]?=some (.mk u ty2 st2 cells)/\x=.ret (.own (h.length+j) u n)):ACalls P f args h λx h'=>x=.ret (.own id (v+1) n)/\h'=h.set id (.mk (v+1) ty2 st2 cells):=by
 refine⟨hc.1,λw g vs hs ha=>(hc.2 w g vs hs ha).mono ?_⟩
 rintro e w' ⟨x,h',g1,r1,r2,r3,r4,r5,z,j,u,rfl,hz,rfl⟩
 have hid:id<h.length:=(List.getElem?_eq_some_iff.1 hi).1
 have hL:(h++z)[h.length+j]?=some (.mk u ty2 st2 cells):=by rw[List.getElem?_append_right om,Nat.add_sub_cancel_left];exact hz
 have hold : ∀ {i:Nat},i<h.length->(h++z)[i]?=h[i]?:=λhi=>List.getElem?_append_left hi
 have hno : ∀ l,g1.loc id (v+1)=some l->False:=λl hl=>by
  have:=(r2.fresh _ _ _ hl).2 _ _ _ _ ((hold hid).trans hi);omega
 let g2:Gh:=⟨g1.D,λi k=>if i=id/\k=v+1 then g1.loc (h.length+j) u else if i<h.length then g1.loc i k else none,g1.df,g1.X⟩
 have hle:(g1.cut h.length).le g2:=by
  refine⟨λ_ h=>h,λi k l hl=>?_,rfl⟩
  simp only[Gh.cut] at hl
  split at hl
  .rename_i hi'
   simp only[g2]
   rw[if_neg (by rintro⟨rfl,rfl⟩;exact hno _ hl),if_pos hi'];exact hl
  .cases hl
 have to : ∀ (c:List AV) (vs:List Value),AV.ltL h.length c=true->RepL w' g1 c vs->RepL w' g2 c vs:=λc vs h1 h2=>RepL.mono hle (λ_ _=>rfl) _ _ (RepL.cut _ _ h1 h2)
 have get : ∀ {i:Nat} {e:Ent},(h.set id (.mk (v+1) ty2 st2 cells))[i]?=some e->(i=id/\e=.mk (v+1) ty2 st2 cells)\/(i≠id/\i<h.length/\(h++z)[i]?=some e):=by
  intro i e he
  by_cases hii:i=id
  .subst hii;rw[List.getElem?_set_self hid] at he;cases he;exact .inl ⟨rfl,rfl⟩
  .rw[List.getElem?_set_ne (Ne.symm hii)] at he
   have:=(List.getElem?_eq_some_iff.1 he).1
   exact .inr ⟨hii,this,(hold this).trans he⟩
 have ltE:=hs.ltE
 have hltE : ∀ {i:Nat} {e:Ent},i<h.length->(h++z)[i]?=some e->e.lt h.length=true:=λhi he=>ltE _ (List.mem_of_getElem? ((hold hi).symm.trans he))
 have how : ∀ {i k:Nat},OwAt g2 (h.set id (.mk (v+1) ty2 st2 cells)) i k->OwAt g1 (h++z) (if i=id then h.length+j else i) k/\(i≠id->i<h.length):=by
  rintro i k ⟨v',ty',s,c,b,cap,e1,e2,e3,e4⟩
  simp only[g2] at e2
  rcases get e1 with ⟨rfl,h1⟩ | ⟨hii,hlt',h1⟩
  .cases h1
   rw[if_pos ⟨rfl,rfl⟩] at e2
   rw[if_pos rfl]
   exact⟨⟨u,ty2,st2,cells,b,cap,hL,e2,e3,e4⟩,λh=>absurd rfl h⟩
  .rw[if_neg (λh=>hii h.1),if_pos hlt'] at e2
   rw[if_neg hii]
   exact⟨⟨v',ty',s,c,b,cap,h1,e2,e3,e4⟩,λ_=>hlt'⟩
 have hrw : ∀ {i k:Nat},RwAt (h.set id (.mk (v+1) ty2 st2 cells)) i k->RwAt (h++z) i k:=by
  rintro i k ⟨o,T,us,e⟩
  rcases get e with ⟨_,h1⟩ | ⟨_,_,h1⟩
  .cases h1
  .exact⟨o,T,us,h1⟩
 refine⟨_,_,g2,?_,⟨?_,?_,r2.lt,?_,?_,⟨r2.glob.w,r2.glob.d⟩,?_,λi k b h1 h2=>r2.rinj _ _ _ (hrw h1) (hrw h2),?_⟩,⟨r3.D,λi k l hl=>?_,r3.X⟩,r4,?_,rfl,rfl⟩
 .cases e <;> simp only[EndR] at r1 ⊢
  simp only[Rep] at r1 ⊢
  obtain⟨A,cap,e1,e2⟩:=r1
  exact⟨A,cap,by simp only[g2,and_self,if_true];exact e1,e2⟩
 .intro i k ty' s c he
  rcases get he with ⟨rfl,h1⟩ | ⟨hii,hlt',h1⟩
  .cases h1
   obtain⟨A,cap,f1,f2,f3⟩:=r2.ent _ _ _ _ _ hL
   refine⟨A,cap,by simp only[g2,and_self,if_true];exact f1,f2,f3.imp id ?_⟩
   rintro⟨b,arr,e,q0,q1,q2,q3,q4,q5⟩
   exact⟨b,arr,e,q0,q1,q2,q3,q4,to _ _ hlt q5⟩
  .obtain⟨A,cap,f1,f2,f3⟩:=r2.ent _ _ _ _ _ h1
   refine⟨A,cap,by simp only[g2];rw[if_neg (λh=>hii h.1),if_pos hlt'];exact f1,f2,f3.imp (λh=>h) ?_⟩
   rintro⟨b,arr,e,q0,q1,q2,q3,q4,q5⟩
   exact⟨b,arr,e,q0,q1,q2,q3,q4,to _ _ (by simpa [Ent.lt] using hltE hlt' h1) q5⟩
 .intro i k b h1 h2
  obtain⟨x1,x2⟩:=how h1
  obtain⟨y1,y2⟩:=how h2
  have:=r2.inj _ _ _ x1 y1
  by_cases hi':i=id <;> by_cases hk:k=id
  .rw[hi',hk]
  .rw[if_pos hi',if_neg hk] at this;have:=y2 hk;omega
  .rw[if_neg hi',if_pos hk] at this;have:=x2 hi';omega
  .rw[if_neg hi',if_neg hk] at this;exact this
 .intro i k l hl
  simp only[g2] at hl
  split at hl
  .rename_i hh
   obtain⟨rfl,rfl⟩:=hh
   refine⟨by simpa using hid,λv' ty' s c he=>?_⟩
   rcases get he with ⟨_,h1⟩ | ⟨h1,_⟩
   .cases h1;exact Nat.le_refl _
   .exact absurd rfl h1
  .split at hl <;> try (cases hl;done)
   rename_i hh hlt'
   refine⟨by simpa using hlt',λv' ty' s c he=>?_⟩
   have hf:=(r2.fresh _ _ _ hl).2
   rcases get he with ⟨rfl,h1⟩ | ⟨_,_,h1⟩
   .cases h1
    have:=hf _ _ _ _ ((hold hid).trans hi);omega
   .exact hf _ _ _ _ h1
 .intro i k l hl hfr
  simp only[g2] at hl
  rcases get hfr with ⟨_,h1⟩ | ⟨hii,hlt',h1⟩
  .cases h1
  .rw[if_neg (λh=>hii h.1),if_pos hlt'] at hl;exact r2.free _ _ _ hl h1
 .intro i k o T us he
  rcases get he with ⟨_,h1⟩ | ⟨hii,hlt',h1⟩
  .cases h1
  .obtain⟨q1,q2,q3,q4⟩:=r2.raw _ _ _ _ _ h1
   exact⟨q1,q2,q3,to _ _ (by simpa [Ent.lt] using hltE hlt' h1) q4⟩
 .intro k hk
  obtain⟨x1,x2,x3⟩:=r2.x k hk
  exact⟨x1,x2,λho=>x3 (ho.imp (λ⟨i,h⟩=>⟨_,(how h).1⟩) (λ⟨i,h⟩=>⟨i,hrw h⟩))⟩
 .have h1:=(hs.fresh _ _ _ hl)
  simp only[g2]
  rw[if_neg (by rintro⟨rfl,rfl⟩;have:=h1.2 _ _ _ _ hi;omega),if_pos h1.1]
  exact r3.loc _ _ _ hl
 .exact λk ho=>r5 k (ho.imp (λ⟨i,h⟩=>⟨_,(how h).1⟩) (λ⟨i,h⟩=>⟨i,hrw h⟩))
def ALe.addFree {T:List AV}{h:AH}:ALe n0 T h T (h++[.free]):=λw0 S0 g0 a w g s=>by
 have hlen : ∀ i:Nat,∀ e,(h++[Ent.free])[i]?=some e->h[i]?=some e\/e=.free:=by
  intro i e he
  rcases Nat.lt_or_ge i h.length with hi | hi
  .rw[List.getElem?_append_left hi] at he;exact .inl he
  .rw[List.getElem?_append_right hi] at he
   cases hk:i-h.length with
   | zero=>rw[hk] at he;simp at he;exact .inr he.symm
   | succ k=>rw[hk] at he;simp at he
 have hmk : ∀ (i v t st:Nat) (c:List AV),(h++[Ent.free])[i]?=some (Ent.mk v t st c)->h[i]?=some (Ent.mk v t st c):=λi v t st c he=>(hlen i _ he).resolve_right (by simp)
 have hrw : ∀ (i k:Nat) (o:Obj) (X:List AV) (vs:List Value),(h++[Ent.free])[i]?=some (Ent.raw k o X vs)->h[i]?=some (Ent.raw k o X vs):=λi k o X vs he=>(hlen i _ he).resolve_right (by simp)
 have how : ∀ i k,OwAt g (h++[.free]) i k->OwAt g h i k:=by
  rintro i k ⟨ver,ty,st,c,b,cap,h1,h2⟩
  exact⟨ver,ty,st,c,b,cap,hmk _ _ _ _ _ h1,h2⟩
 have hrwA : ∀ i k,RwAt (h++[.free]) i k->RwAt h i k:=by
  rintro i k ⟨o,X,vs,h1⟩
  exact⟨o,X,vs,hrw _ _ _ _ _ h1⟩
 refine⟨g,s.tmps,s.defers,⟨λi v t st c he=>s.sim.ent i v t st c (hmk _ _ _ _ _ he),λi j k a b=>s.sim.inj i j k (how _ _ a) (how _ _ b),s.sim.lt,λi v l hl=>?_,λi v l hl hf=>?_,s.sim.glob,λi k o X vs he=>s.sim.raw i k o X vs (hrw _ _ _ _ _ he),λi j k a b=>s.sim.rinj i j k (hrwA _ _ a) (hrwA _ _ b),s.sim.xw (Nat.le_refl _) rfl (λ_=>.inl) (λk hk=>.inl (hk.imp (λ⟨i,hk⟩=>⟨i,how _ _ hk⟩) (λ⟨i,hk⟩=>⟨i,hrwA _ _ hk⟩)))⟩,s.fr,s.le,s.bd,λk hk=>s.ow k ?_⟩
 .obtain⟨h1,h2⟩:=s.sim.fresh i v l hl
  exact⟨by simp;omega,λv' ty st c he=>h2 v' ty st c (hmk _ _ _ _ _ he)⟩
 .have h1:=(s.sim.fresh i v l hl).1
  rw[List.getElem?_append_left h1] at hf
  exact s.sim.free i v l hl hf
 .rcases hk with ⟨i,hk⟩ | ⟨i,hk⟩
  .exact .inl ⟨i,how _ _ hk⟩
  .exact .inr ⟨i,hrwA _ _ hk⟩
def ALe.moveLast {T T':List AV}{h H:AH}{d id ver ty st n L:Nat}{cells:List AV}(hf:h[id]?=some .free) (hL:h.length=L) (hd:T[d]?=some (.own L ver n)) (hp:aPut T (some d) (.own id ver n)=T') (hH:h.set id (.mk ver ty st cells)++[.gone]=H):ALe n0 T (h++[.mk ver ty st cells]) T' H:=λw0 S0 g0 a w g s=>by
 subst hL hp hH
 have hid:id<h.length:=(List.getElem?_eq_some_iff.1 hf).1
 have hlast:(h++[Ent.mk ver ty st cells])[h.length]?=some (.mk ver ty st cells):=by rw[List.getElem?_append_right (Nat.le_refl _),Nat.sub_self];rfl
 have hfr:(h++[Ent.mk ver ty st cells])[id]?=some .free:=by rw[List.getElem?_append_left hid];exact hf
 obtain⟨A,cap,e1,e2,e3⟩:=s.sim.ent _ _ _ _ _ hlast
 have hno : ∀ v l,g.loc id v=some l->False:=λv l hl=>s.sim.free id v l hl hfr
 have hloc : ∀ i v l,g.loc i v=some l->(g.add id ver (A,cap)).loc i v=some l:=by
  intro i v l hi
  simp only[Gh.add]
  rw[if_neg]
  .exact hi
  .rintro⟨rfl,rfl⟩;exact hno _ _ hi
 have hle:g.le (g.add id ver (A,cap)):=⟨λk hk=>hk,hloc,rfl⟩
 have hback : ∀ i v l,(g.add id ver (A,cap)).loc i v=some l->(i=id/\v=ver/\l=(A,cap))\/(i≠id/\g.loc i v=some l):=by
  intro i v l hl
  simp only[Gh.add] at hl
  split at hl
  .rename_i he;exact .inl ⟨he.1,he.2,(Option.some.inj hl).symm⟩
  .by_cases hi:i=id
   .subst hi;exact (hno _ _ hl).elim
   .exact .inr ⟨hi,hl⟩
 have hget : ∀ (i:Nat) (e:Ent),(h.set id (.mk ver ty st cells)++[.gone])[i]?=some e->(i=id/\e=.mk ver ty st cells)\/(i≠id/\i<h.length/\h[i]?=some e)\/e=.gone:=by
  intro i e he
  rcases Nat.lt_or_ge i h.length with hi | hi
  .rw[List.getElem?_append_left (by simpa using hi)] at he
   by_cases hii:i=id
   .subst hii
    rw[List.getElem?_set_self hi] at he
    exact .inl ⟨rfl,(Option.some.inj he).symm⟩
   .rw[List.getElem?_set_ne (Ne.symm hii)] at he
    exact .inr (.inl ⟨hii,hi,he⟩)
  .rw[List.getElem?_append_right (by simpa using hi)] at he
   cases hk:i-(h.set id (Ent.mk ver ty st cells)).length with
   | zero=>rw[hk] at he;simp at he;exact .inr (.inr he.symm)
   | succ k=>rw[hk] at he;simp at he
 have hmk : ∀ (i v t s':Nat) (c:List AV),(h.set id (.mk ver ty st cells)++[.gone])[i]?=some (Ent.mk v t s' c)->(i=id/\v=ver/\t=ty/\s'=st/\c=cells)\/(i≠id/\(h++[Ent.mk ver ty st cells])[i]?=some (Ent.mk v t s' c)):=by
  intro i v t s' c he
  rcases hget i _ he with ⟨h1,h2⟩ | ⟨h1,h2,h3⟩ | h1
  .cases h2;exact .inl ⟨h1,rfl,rfl,rfl,rfl⟩
  .exact .inr ⟨h1,by rw[List.getElem?_append_left h2];exact h3⟩
  .cases h1
 have hrw : ∀ (i k:Nat) (o:Obj) (X:List AV) (vs:List Value),(h.set id (.mk ver ty st cells)++[.gone])[i]?=some (Ent.raw k o X vs)->(h++[Ent.mk ver ty st cells])[i]?=some (Ent.raw k o X vs):=by
  intro i k o X vs he
  rcases hget i _ he with ⟨h1,h2⟩ | ⟨h1,h2,h3⟩ | h1
  .cases h2
  .rw[List.getElem?_append_left h2];exact h3
  .cases h1
 have hent : ∀ t s' c A' cap',EntAt w g t s' c A' cap'->EntAt w (g.add id ver (A,cap)) t s' c A' cap':=by
  rintro t s' c A' cap' (h1 | ⟨b,arr,q1,q2,q3,q4,q5,q6,q7⟩)
  .exact .inl h1
  .exact .inr ⟨b,arr,q1,q2,q3,q4,q5,q6,RepL.mono hle (λ_ _=>rfl) _ _ q7⟩
 -- who owned what: the moved entry's old number is h.length
 have how : ∀ i k,OwAt (g.add id ver (A,cap)) (h.set id (.mk ver ty st cells)++[.gone]) i k->OwAt g (h++[.mk ver ty st cells]) (if i=id then h.length else i) k/\(i≠id->i<h.length):=by
  rintro i k ⟨v,t,s',c,b,cap',q1,q2,q3,q4⟩
  rcases hmk _ _ _ _ _ q1 with ⟨rfl,rfl,rfl,rfl,rfl⟩ | ⟨hne,hh⟩
  .rw[if_pos rfl]
   rcases hback _ _ _ q2 with ⟨_,_,e⟩ | ⟨h1,_⟩
   .cases e;exact⟨⟨_,_,_,_,b,cap,hlast,e1,q3,q4⟩,λh=>absurd rfl h⟩
   .exact absurd rfl h1
  .rw[if_neg hne]
   rcases hback _ _ _ q2 with ⟨h1,_⟩ | ⟨_,h1⟩
   .exact absurd h1 hne
   .refine⟨⟨_,_,_,_,b,cap',hh,h1,q3,q4⟩,λ_=>?_⟩
    rcases hget _ _ q1 with ⟨h2,_⟩ | ⟨_,h2,_⟩ | h2
    .exact absurd h2 hne
    .exact h2
    .cases h2
 have htm:=RepL.mono hle (λ_ _=>rfl) _ _ s.tmps
 obtain⟨u,hu,hr⟩:=s.tmps.get hd
 have hr':Rep w (g.add id ver (A,cap)) (.own id ver n) u:=by
  simp only[Rep] at hr ⊢
  obtain⟨A',cap',q1,q2,q3,q4⟩:=hr
  rw[e1] at q1;cases q1
  exact⟨A,cap,by simp[Gh.add],q2,q3,q4⟩
 have hset:=htm.set (k:=d) (c:=.own id ver n) (u:=u) hr'
 have hself:a.tmps.toList.set d u=a.tmps.toList:=by
  apply List.ext_getElem?
  intro j
  by_cases hj:j=d
  .subst hj
   have:j<a.tmps.toList.length:=(List.getElem?_eq_some_iff.1 hu).1
   rw[List.getElem?_set_self this,hu]
  .rw[List.getElem?_set_ne (Ne.symm hj)]
 rw[hself] at hset
 refine⟨_,hset,s.defers,⟨λi v t s' c he=>?_,λi j k x y=>?_,s.sim.lt,λi v l hl=>?_,λi v l hl hfree=>?_,s.sim.glob.mono (λ_ h=>h) (λ_ _=>rfl),λi k o X vs he=>?_,λi j k x y=>?_,s.sim.xw (Nat.le_refl _) rfl (λ_=>.inl) (λk hk=>.inl (hk.imp (λ⟨i,hk⟩=>⟨_,(how _ _ hk).1⟩) (λ⟨i,o,X,vs,hk⟩=>⟨i,o,X,vs,hrw _ _ _ _ _ hk⟩)))⟩,s.fr,s.le.trans hle,s.bd,λk hk=>s.ow k ?_⟩
 .rcases hmk _ _ _ _ _ he with ⟨rfl,rfl,rfl,rfl,rfl⟩ | ⟨hne,hh⟩
  .exact⟨A,cap,by simp[Gh.add],e2,hent _ _ _ _ _ e3⟩
  .obtain⟨A',cap',q1,q2,q3⟩:=s.sim.ent _ _ _ _ _ hh
   exact⟨A',cap',hloc _ _ _ q1,q2,hent _ _ _ _ _ q3⟩
 .obtain⟨x1,x2⟩:=how _ _ x
  obtain⟨y1,y2⟩:=how _ _ y
  have:=s.sim.inj _ _ _ x1 y1
  by_cases hi:i=id
  .by_cases hj:j=id
   .rw[hi,hj]
   .rw[if_pos hi,if_neg hj] at this
    have:=y2 hj;omega
  .by_cases hj:j=id
   .rw[if_neg hi,if_pos hj] at this
    have:=x2 hi;omega
   .rw[if_neg hi,if_neg hj] at this;exact this
 .rcases hback _ _ _ hl with ⟨rfl,rfl,rfl⟩ | ⟨hne,h1⟩
  .refine⟨by simp;omega,λv' t s' c he=>?_⟩
   rcases hmk _ _ _ _ _ he with ⟨_,rfl,_⟩ | ⟨hn2,_⟩
   .exact Nat.le_refl _
   .exact absurd rfl hn2
  .obtain⟨q1,q2⟩:=s.sim.fresh i v l h1
   refine⟨by simpa using q1,λv' t s' c he=>?_⟩
   rcases hmk _ _ _ _ _ he with ⟨h2,_⟩ | ⟨_,hh⟩
   .exact absurd h2 hne
   .exact q2 _ _ _ _ hh
 .rcases hget _ _ hfree with ⟨_,h2⟩ | ⟨h1,h2,h3⟩ | h1
  .cases h2
  .rcases hback _ _ _ hl with ⟨h4,_⟩ | ⟨_,h4⟩
   .exact h1 h4
   .exact s.sim.free i v l h4 (by rw[List.getElem?_append_left h2];exact h3)
  .cases h1
 .obtain⟨q1,q2,q3,q4⟩:=s.sim.raw _ _ _ _ _ (hrw _ _ _ _ _ he)
  exact⟨q1,q2,q3,RepL.mono hle (λ_ _=>rfl) _ _ q4⟩
 .obtain⟨o,X,vs,x⟩:=x
  obtain⟨o',X',vs',y⟩:=y
  exact s.sim.rinj i j k ⟨o,X,vs,hrw _ _ _ _ _ x⟩ ⟨o',X',vs',hrw _ _ _ _ _ y⟩
 .rcases hk with ⟨i,hk⟩ | ⟨i,o,X,vs,hk⟩
  .exact .inl ⟨_,(how _ _ hk).1⟩
  .exact .inr ⟨i,o,X,vs,hrw _ _ _ _ _ hk⟩
def Zma {w:World}{g:Gh} : ∀ {vs us:List Value},RepL w g (vs.map .v) us↔us=vs
 | [],us=>by simp only[List.map_nil,RepL]
 | v::vs,us=>by
  simp only[List.map_cons,RepL,Rep,Zma (vs:=vs)]
  constructor
  .rintro⟨u,us',rfl,rfl,rfl⟩;rfl
  .rintro rfl;exact⟨_,_,rfl,rfl,rfl⟩
def ACalls.of_turnR {f:FuncId}{args:List AV}{h:AH}{id ver ty st:Nat}{cells cells':List AV}{c:AV}(he:enters P f=true) (hi:h[id]?=some (.mk ver ty st cells)) (hne:cells≠[])
  (hc : ∀ w g (vs:Array Value) b cap arr,SimH w g h->RepL w g args vs.toList->g.loc id ver=some (some ⟨b,0,none⟩,cap)->w.heap[b]?=some (.cells arr ty (0,0))->arr.size=cap*st->cells.length<=arr.size->RepL w g cells (arr.toList.take cells.length) ->
   Calls P f vs w λe w' => ∃ (v:Value) (vs':List Value) (arr':Array Value),e=.returned v/\cells'=vs'.map .v/\w'.heap[b]?=some (.cells arr' ty (0,0))/\arr'.size=arr.size/\vs'.length=cells.length/\arr'.toList.take cells.length=vs' /\
    w'.os=w.os/\w'.tape=w.tape/\w'.output=w.output/\w.heap.size<=w'.heap.size/\(∀ k,k<w.heap.size->k≠b->w'.heap[k]?=w.heap[k]?)/\Rep w' g c v) :
  ACalls P f args h λx h'=>x=.ret c/\h'=h.set id (.mk ver ty st cells'):=by
 refine⟨he,λw g vs hs ha=>?_⟩
 obtain⟨A,cap,f1,fm,f3⟩:=hs.ent _ _ _ _ _ hi
 rcases f3 with ⟨e,_⟩ | ⟨b,arr,rfl,hc0,hd,hb,hsz,hle,hrl⟩
 .exact absurd e hne
 have hid:id<h.length:=(List.getElem?_eq_some_iff.1 hi).1
 have how:OwAt g h id b:=⟨ver,ty,st,cells,_,cap,hi,f1,hc0,rfl⟩
 refine (hc w g vs b cap arr hs ha f1 hb hsz hle hrl).mono ?_
 rintro e w' ⟨v,vs',arr',rfl,rfl,h1,h2,h3,h4,h5,h6,h7,h8,h9,hv⟩
 have hother : ∀ j,g.D j\/(∃ i,i≠id/\OwAt g h i j)\/(∃ i,RwAt h i j)->w'.heap[j]?=w.heap[j]?:=by
  rintro j (hj | ⟨i,hne',hj⟩ | ⟨i,hj⟩)
  rotate_left 2
  .exact h9 j (hs.own_not_D (.inr ⟨i,hj⟩)).2 (λe=>by subst e;exact hs.own_ne_raw how hj)
  .exact h9 j (hs.lt j hj) (λe=>hd (e ▸ hj))
  .exact h9 j (hs.own_not_D (.inl ⟨i,hj⟩)).2 (λe=>hne' (hs.inj i id j hj (e ▸ how)))
 obtain⟨k1,k2,k3⟩:=hs.put (w':=w') (g':=g) (h':=h.set id (.mk ver ty st (vs'.map .v))) id ver ty st (vs'.map .v) (some ⟨b,0,none⟩) cap
  (λi hne'=>by rw[List.getElem?_set_ne (Ne.symm hne')]) (by rw[List.getElem?_set_self hid]) (by simp) rfl (λ_ _ _ h=>h) (λ_ _ _ h=>.inl h) f1 (λv l hv=>(hs.fresh _ _ _ hv).2 _ _ _ _ hi) hother h8 fm
  (.inr ⟨b,arr',rfl,hc0,hd,h1,by rw[h2,hsz],by rw[List.length_map,h3,h2];exact hle,by rw[List.length_map,h3,h4];exact Zma.2 rfl⟩)
  (λj hj _ i hne' ho=>by
   simp at hj
   subst hj
   exact hne' (hs.inj i id _ ho how)) (λk hk _ _=>by simp at hk;subst hk;exact .inl ⟨id,how⟩)
 refine⟨.ret c,_,g,hv,k1,k2,⟨h5,h6,h7,h8,λk hk hn=>h9 k hk (λe=>hn (.inl ⟨id,e ▸ how⟩))⟩,λk hk=>?_,rfl,rfl⟩
 .rcases k3 k hk with ho | ⟨ho,_⟩
  .exact .inl ho
  .simp at ho;subst ho;exact .inl (.inl ⟨id,how⟩)
end
def Ku (ns:Option (List Nat)) (f:FuncId) (hs:List Hint) {a:AF}(h:genF Go.Proofs.Tryz.prog f hs=some a:=by conv=>lhs;reduce;try simp only [Int.reduceOfNat,Int.reduceNegSucc])(h2:Zfw Go.Proofs.Tryz.prog ns f=some a:=by kernel_rfl):Zfw Go.Proofs.Tryz.prog ns f=some a:=h2
end
section
section
def Gh.wx (g:Gh) (X:Nat->Prop):Gh:=⟨g.D,g.loc,g.df,X⟩
mutual
def Rep.wx {w:World}{g:Gh}{X:Nat->Prop} : ∀ (c:AV) (y:Value),Rep w (g.wx X) c y=Rep w g c y
 | .v _,_=>by simp only[Rep]
 | .any,_=>by simp only[Rep]
 | .own _ _ _,_=>by simp only[Rep,Gh.wx]
 | .ptr _ _ _,_=>by simp only[Rep,Gh.wx]
 | .sl _ _ _ cs,_=>by simp only[Rep,RepC.wx cs];rfl
 | .rp cs,_=>by simp only[Rep,RepC.wx cs];rfl
 | .agg cs,_=>by simp only[Rep,RepL.wx cs]
 | .tup cs,_=>by simp only[Rep,RepL.wx cs]
 | .clo _ cs,_=>by simp only[Rep,RepL.wx cs]
 | .bnd _ cs,_=>by simp only[Rep,RepL.wx cs]
def RepC.wx {w:World}{g:Gh}{X:Nat->Prop} : ∀ (cs:List AV) (b off:Nat),RepC w (g.wx X) cs b off=RepC w g cs b off
 | [],_,_=>by simp only[RepC]
 | c::cs,_,_=>by simp only[RepC,Rep.wx c,RepC.wx cs]
def RepL.wx {w:World}{g:Gh}{X:Nat->Prop} : ∀ (cs:List AV) (vs:List Value),RepL w (g.wx X) cs vs=RepL w g cs vs
 | [],_=>by simp only[RepL]
 | c::cs,_=>by simp only[RepL,Rep.wx c,RepL.wx cs]
end
def SimH.wx {w:World}{g:Gh}{h:AH}(hs:SimH w g h) (X:Nat->Prop) (hx : ∀ k,X k->k<w.heap.size/\¬g.D k/\¬Ow g h k):SimH w (g.wx X) h :=
  ⟨λi v t s c he=>by
    obtain⟨A,cap,h1,h2,h3⟩:=hs.ent i v t s c he
    refine⟨A,cap,h1,h2,h3.imp id ?_⟩
    rintro⟨b,arr,e,f0,f1,f2,f3,f4,f5⟩
    exact⟨b,arr,e,f0,f1,f2,f3,f4,by rw[RepL.wx];exact f5⟩,
   hs.inj,hs.lt,hs.fresh,hs.free,⟨hs.glob.w,hs.glob.d⟩,λi k o T vs he=>by rw[RepL.wx];exact hs.raw i k o T vs he,hs.rinj,hx⟩
variable {P : Program}
def ACalls.frame {f:FuncId}{args:List AV}{h0 h1:AH}{x:AE}(z:AH) (hc:ACalls P f args h0 λy k=>k=h1/\y=x) (hl:h1.length=h0.length) (hx:x.lt h0.length=true) (ha0:AV.ltL h0.length args=true) (hlt : ∀ e∈h0,e.lt h0.length=true):ACalls P f args (h0++z) λy k=>k=h1++z/\y=x:=by
 refine⟨hc.1,λw g vs hs ha=>?_⟩
 have hcut:=hs.cut hlt
 have hX : ∀ k,(g.X k \/ ∃ i,h0.length<=i/\(OwAt g (h0++z) i k\/RwAt (h0++z) i k))->k<w.heap.size/\¬(g.cut h0.length).D k/\¬Ow (g.cut h0.length) h0 k:=by
  rintro k (hk | ⟨i,hi,hk⟩)
  .obtain⟨x1,x2,x3⟩:=hs.x k hk
   exact⟨x1,x2,λho=>x3 ho.of_cut⟩
  .have hk':Ow g (h0++z) k:=hk.imp (λh=>⟨i,h⟩) (λh=>⟨i,h⟩)
   refine⟨(hs.own_not_D hk').2,(hs.own_not_D hk').1,?_⟩
   rintro (⟨j,v,ty,s,c,b,cap,e1,e2,e3,e4⟩ | ⟨j,o,T,us,e1⟩)
   .have hj:=(List.getElem?_eq_some_iff.1 e1).1
    simp only[Gh.cut,if_pos hj] at e2
    have how:OwAt g (h0++z) j k:=⟨v,ty,s,c,b,cap,by rw[List.getElem?_append_left hj];exact e1,e2,e3,e4⟩
    rcases hk with hk | hk
    .have:=hs.inj _ _ _ hk how;omega
    .exact hs.own_ne_raw how hk
   .have hj:=(List.getElem?_eq_some_iff.1 e1).1
    have hrw:RwAt (h0++z) j k:=⟨o,T,us,by rw[List.getElem?_append_left hj];exact e1⟩
    rcases hk with hk | hk
    .exact hs.own_ne_raw hk hrw
    .have:=hs.rinj _ _ _ hk hrw;omega
 refine (hc.2 w _ vs (hcut.wx _ hX) (by rw[RepL.wx];exact RepL.cut _ _ ha0 ha)).mono ?_
 rintro e w' ⟨y,k1,g1,r1,r2,r3,r4,r5,rfl,rfl⟩
 have hnD : ∀ i k,h0.length<=i->OwAt g (h0++z) i k\/RwAt (h0++z) i k->¬g1.D k/\¬Ow g1 k1 k/\w'.heap[k]?=w.heap[k]?:=by
  intro i k hi hk
  have hXk:=hX k (.inr ⟨i,hi,hk⟩)
  have:=r2.x k (by rw[r3.X];exact .inr ⟨i,hi,hk⟩)
  refine⟨this.2.1,this.2.2,r4.block k hXk.1 ?_⟩
  rintro (⟨j,v,ty,s,c,b,cap,e1,e2⟩ | ⟨j,h⟩)
  .exact hXk.2.2 (.inl ⟨j,v,ty,s,c,b,cap,e1,e2⟩)
  .exact hXk.2.2 (.inr ⟨j,h⟩)
 have hOw : ∀ k,Ow ((g.cut h0.length).wx λk=>g.X k \/ ∃ i,h0.length<=i/\(OwAt g (h0++z) i k\/RwAt (h0++z) i k)) h0 k->Ow g (h0++z) k:=λk hk=>Ow.of_cut (k:=k) (g:=g) (x:=z) hk
 let g2:Gh:=⟨g1.D,λi v=>if i<h0.length then g1.loc i v else g.loc i v,g.df,g.X⟩
 have hg:(g1.cut h0.length).wx g.X |>.le g2:=by
  refine⟨λ_ h=>h,λi v l h=>?_,rfl⟩
  simp only[Gh.wx,Gh.cut] at h
  split at h
  .rename_i hi;simp only[g2,if_pos hi];exact h
  .cases h
 have hto : ∀ (c:AV) (v:Value),c.lt h0.length=true->Rep w' g1 c v->Rep w' g2 c v:=λc v h1 h2=>Rep.mono hg (λ_ _=>rfl) _ _ (by rw[Rep.wx];exact Rep.cut _ _ h1 h2)
 have htoL : ∀ (c:List AV) (v:List Value),AV.ltL h0.length c=true->RepL w' g1 c v->RepL w' g2 c v:=λc v h1 h2=>RepL.mono hg (λ_ _=>rfl) _ _ (by rw[RepL.wx];exact RepL.cut _ _ h1 h2)
 have hle:g.le g2:=⟨r3.D,λi v l h=>by
  simp only[g2]
  split
  .rename_i hi
   exact r3.loc _ _ _ (by simp only[Gh.wx,Gh.cut,if_pos hi];exact h)
  .exact h,rfl⟩
 have hw : ∀ k,g.D k->w'.heap[k]?=w.heap[k]?:=λk hk=>r4.block k (hs.lt k hk) (λho=>(hs.own_not_D (hOw k ho)).1 hk)
 have hl1:=r2.ltE
 rw[hl] at hl1
 have get : ∀ {i:Nat} {e:Ent},(k1++z)[i]?=some e->(i<h0.length/\k1[i]?=some e)\/(h0.length<=i/\(h0++z)[i]?=some e):=by
  intro i e he
  by_cases hi:i<h0.length
  .rw[List.getElem?_append_left om] at he;exact .inl ⟨hi,he⟩
  .rw[List.getElem?_append_right om,hl] at he
   exact .inr ⟨by omega,by rw[List.getElem?_append_right om];exact he⟩
 have ow : ∀ {i k:Nat},OwAt g2 (k1++z) i k->(i<h0.length/\OwAt g1 k1 i k)\/(h0.length<=i/\OwAt g (h0++z) i k):=by
  rintro i k ⟨v,ty,s,c,b,cap,e1,e2,e3,e4⟩
  simp only[g2] at e2
  rcases get e1 with ⟨hi,h1⟩ | ⟨hi,h1⟩
  .rw[if_pos hi] at e2;exact .inl ⟨hi,v,ty,s,c,b,cap,h1,e2,e3,e4⟩
  .rw[if_neg om] at e2;exact .inr ⟨hi,v,ty,s,c,b,cap,h1,e2,e3,e4⟩
 have rw_ : ∀ {i k:Nat},RwAt (k1++z) i k->(i<h0.length/\RwAt k1 i k)\/(h0.length<=i/\RwAt (h0++z) i k):=by
  rintro i k ⟨o,T,us,e1⟩
  rcases get e1 with ⟨hi,h1⟩ | ⟨hi,h1⟩
  .exact .inl ⟨hi,o,T,us,h1⟩
  .exact .inr ⟨hi,o,T,us,h1⟩
 refine⟨y,_,g2,?_,⟨?_,?_,r2.lt,?_,?_,⟨r2.glob.w,r2.glob.d⟩,?_,?_,?_⟩,hle,⟨r4.os,r4.tape,r4.output,r4.size,λk h1 h2=>r4.block k h1 (λho=>h2 (hOw k ho))⟩,?_,rfl,rfl⟩
 .cases y <;> cases e <;> simp only[EndR] at r1 ⊢
  .exact hto _ _ hx r1
  .obtain⟨v,e1,e2⟩:=r1;exact⟨v,e1,hto _ _ hx e2⟩
 .intro i v ty s c he
  rcases get he with ⟨hi,h1⟩ | ⟨hi,h1⟩
  .obtain⟨A,cap,f1,f2,f3⟩:=r2.ent _ _ _ _ _ h1
   refine⟨A,cap,by simp only[g2,if_pos hi];exact f1,f2,f3.imp id ?_⟩
   rintro⟨b,arr,e,q0,q1,q2,q3,q4,q5⟩
   exact⟨b,arr,e,q0,q1,q2,q3,q4,htoL _ _ (by simpa [Ent.lt] using hl1 _ (List.mem_of_getElem? h1)) q5⟩
  .obtain⟨A,cap,f1,f2,f3⟩:=hs.ent _ _ _ _ _ h1
   refine⟨A,cap,by simp only[g2,if_neg (show ¬i<h0.length by omega)];exact f1,f2,f3.imp id ?_⟩
   rintro⟨b,arr,rfl,q0,q1,q2,q3,q4,q5⟩
   obtain⟨n1,n2,n3⟩:=hnD i b hi (.inl ⟨v,ty,s,c,_,cap,h1,f1,q0,rfl⟩)
   exact⟨b,arr,rfl,q0,n1,n3.trans q2,q3,q4,RepL.mono hle hw _ _ q5⟩
 .intro i j k h1 h2
  rcases ow h1 with ⟨hi,h1⟩ | ⟨hi,h1⟩ <;> rcases ow h2 with ⟨hj,h2⟩ | ⟨hj,h2⟩
  .exact r2.inj _ _ _ h1 h2
  .exact absurd (.inl ⟨i,h1⟩) (hnD j k hj (.inl h2)).2.1
  .exact absurd (.inl ⟨j,h2⟩) (hnD i k hi (.inl h1)).2.1
  .exact hs.inj _ _ _ h1 h2
 .intro i v l h1
  simp only[g2] at h1
  by_cases hi:i<h0.length
  .rw[if_pos hi] at h1
   refine⟨by simp;omega,λv' ty s c he=>?_⟩
   rcases get he with ⟨_,h2⟩ | ⟨h2,_⟩
   .exact (r2.fresh _ _ _ h1).2 _ _ _ _ h2
   .omega
  .rw[if_neg hi] at h1
   obtain⟨q1,q2⟩:=hs.fresh _ _ _ h1
   refine⟨by simp at q1 ⊢;omega,λv' ty s c he=>?_⟩
   rcases get he with ⟨h2,_⟩ | ⟨_,h2⟩
   .omega
   .exact q2 _ _ _ _ h2
 .intro i v l h1 hfr
  simp only[g2] at h1
  rcases get hfr with ⟨hi,h2⟩ | ⟨hi,h2⟩
  .rw[if_pos hi] at h1;exact r2.free _ _ _ h1 h2
  .rw[if_neg om] at h1;exact hs.free _ _ _ h1 h2
 .intro i k o T us he
  rcases get he with ⟨hi,h1⟩ | ⟨hi,h1⟩
  .obtain⟨q1,q2,q3,q4⟩:=r2.raw _ _ _ _ _ h1
   exact⟨q1,q2,q3,htoL _ _ (by simpa [Ent.lt] using hl1 _ (List.mem_of_getElem? h1)) q4⟩
  .obtain⟨q1,q2,q3,q4⟩:=hs.raw _ _ _ _ _ h1
   obtain⟨n1,n2,n3⟩:=hnD i k hi (.inr ⟨o,T,us,h1⟩)
   exact⟨n3.trans q1,q2,n1,RepL.mono hle hw _ _ q4⟩
 .intro i j k h1 h2
  rcases rw_ h1 with ⟨hi,h1⟩ | ⟨hi,h1⟩ <;> rcases rw_ h2 with ⟨hj,h2⟩ | ⟨hj,h2⟩
  .exact r2.rinj _ _ _ h1 h2
  .exact absurd (.inr ⟨i,h1⟩) (hnD j k hj (.inr h2)).2.1
  .exact absurd (.inr ⟨j,h2⟩) (hnD i k hi (.inr h1)).2.1
  .exact hs.rinj _ _ _ h1 h2
 .intro k hk
  obtain⟨x1,x2,x3⟩:=hs.x k hk
  obtain⟨y1,y2,y3⟩:=r2.x k (by rw[r3.X];exact .inl hk)
  refine⟨y1,y2,?_⟩
  rintro (⟨i,ho⟩ | ⟨i,ho⟩)
  .rcases ow ho with ⟨_,h1⟩ | ⟨_,h1⟩
   .exact y3 (.inl ⟨i,h1⟩)
   .exact x3 (.inl ⟨i,h1⟩)
  .rcases rw_ ho with ⟨_,h1⟩ | ⟨_,h1⟩
   .exact y3 (.inr ⟨i,h1⟩)
   .exact x3 (.inr ⟨i,h1⟩)
 .rintro k (⟨i,ho⟩ | ⟨i,ho⟩)
  .rcases ow ho with ⟨_,h1⟩ | ⟨_,h1⟩
   .exact (r5 k (.inl ⟨i,h1⟩)).imp (hOw k) id
   .exact .inl (.inl ⟨i,h1⟩)
  .rcases rw_ ho with ⟨_,h1⟩ | ⟨_,h1⟩
   .exact (r5 k (.inr ⟨i,h1⟩)).imp (hOw k) id
   .exact .inl (.inr ⟨i,h1⟩)
end
section
mutual
/-- entries from n on are read alone from now on, and told in place -/
def AV.frz (h:AH) (n:Nat):Nat->AV->Option AV
 | 0,_=>none
 | k+1,c=>bif c.lt n then some c else match c with
  | .own id ver m=>match h[id]? with
   | some (.mk u _ s cells)=>if u=ver/\m*s<=cells.length then (AV.frzL h n k (cells.take (m*s))).bind λcs=>if cs.length=m*s then some (.sl m s false cs) else none else none
   | _=>none
  | .ptr id ver off=>match h[id]? with
   | some (.mk u _ _ cells)=>if u=ver/\cells≠[] then (AV.frzL h n k (cells.drop off)).map .rp else none
   | _=>none
  | .sl a b f cs=>(AV.frzL h n k cs).bind λds=>if ds.length=cs.length then some (.sl a b f ds) else none
  | .agg cs=>(AV.frzL h n k cs).map .agg
  | .tup cs=>(AV.frzL h n k cs).map .tup
  | _=>none
def AV.frzL (h:AH) (n:Nat):Nat->List AV->Option (List AV)
 | 0,_=>none
 | _+1,[]=>some []
 | k+1,c::cs=>match AV.frz h n k c,AV.frzL h n k cs with
  | some d,some ds=>some (d::ds)
  | _,_=>none
end
def Gh.frz (g:Gh) (h:AH) (n:Nat):Gh:=⟨λk=>g.D k \/ ∃ i,n<=i/\OwAt g h i k,λi v=>if i<n then g.loc i v else none,g.df,g.X⟩
def Gh.cut_le_frz (g:Gh) (h:AH) (n:Nat):(g.cut n).le (g.frz h n):=⟨λ_ h=>.inl h,λ_ _ _ h=>h,rfl⟩
def length_nil {α:Type}{l m:List α}(h:l.length=m.length) (hl:l≠[]):m≠[]:=by rintro rfl;exact hl (List.length_eq_zero_iff.1 h)
mutual
def AV.frz_rep {w:World}{g:Gh}{h:AH}(hs:SimH w g h) (n:Nat) : ∀ (k:Nat) (c d:AV) (y:Value),AV.frz h n k c=some d->Rep w g c y->Rep w (g.frz h n) d y
 | 0,c,d,y,he,hr=>by simp[AV.frz] at he
 | k+1,c,d,y,he,hr=>by
  simp only[AV.frz] at he
  cases hlt:c.lt n with
  | true=>rw[hlt] at he;cases he;exact Rep.mono (g.cut_le_frz h n) (λ_ _=>rfl) _ _ (Rep.cut _ _ hlt hr)
  | false =>
   rw[hlt] at he
   simp only[cond_false] at he
   cases c <;> try (cases he;done)
   case own id ver m =>
    simp only at he
    split at he <;> try (cases he;done)
    rename_i v ty s cells hi
    split at he <;> try (cases he;done)
    rename_i hc
    obtain⟨rfl,hle⟩:=hc
    rw[Option.bind_eq_some_iff] at he
    obtain⟨cs,h1,he⟩:=he
    split at he <;> try (cases he;done)
    rename_i hcl
    cases he
    simp only[Rep] at hr ⊢
    obtain⟨A,cap,e1,e2,e3,rfl⟩:=hr
    obtain⟨A',cap',f1,_,f3⟩:=hs.ent _ _ _ _ _ hi
    rw[e1] at f1
    simp only[Option.some.injEq,Prod.mk.injEq] at f1
    obtain⟨rfl,rfl⟩:=f1
    have hid:n<=id:=by simpa [AV.lt] using hlt
    refine⟨hcl,A,cap,rfl,e2,e3,(λh=>by cases h),?_,λhne=>?_⟩
    .rintro rfl
     rcases f3 with ⟨_,h0⟩ | ⟨b,arr,e,_⟩
     .exact h0
     .cases e
    .rcases f3 with ⟨rfl,_⟩ | ⟨b,arr,rfl,hc0,hd,hb,_,hl,hrl⟩
     .have:=List.length_pos_iff.2 hne;rw[hcl] at this;simp at hle;omega
     .refine⟨b,0,rfl,.inr ⟨id,hid,v,ty,s,cells,_,cap,hi,e1,hc0,rfl⟩,RepC.of_row hb _ 0 ?_⟩
      have h2:=hrl.take (m*s)
      rw[List.take_take,Nat.min_eq_left hle] at h2
      have:=AV.frzL_rep hs n k _ _ _ h1 h2
      rw[<-hcl] at this
      simpa using this
   case ptr id ver off =>
    simp only at he
    split at he <;> try (cases he;done)
    rename_i v ty s cells hi
    split at he <;> try (cases he;done)
    rename_i hc
    obtain⟨rfl,hne⟩:=hc
    rw[Option.map_eq_some_iff] at he
    obtain⟨cs,h1,rfl⟩:=he
    simp only[Rep] at hr ⊢
    obtain⟨b,cap,e1,rfl⟩:=hr
    obtain⟨A',cap',f1,_,f3⟩:=hs.ent _ _ _ _ _ hi
    rw[e1] at f1
    simp only[Option.some.injEq,Prod.mk.injEq] at f1
    obtain⟨rfl,rfl⟩:=f1
    have hid:n<=id:=by simpa [AV.lt] using hlt
    rcases f3 with ⟨rfl,_⟩ | ⟨b',arr,e,hc0,hd,hb,_,hl,hrl⟩
    .exact absurd rfl hne
    .cases e
     refine⟨b,off,rfl,.inr ⟨id,hid,v,ty,s,cells,_,cap,hi,e1,hc0,rfl⟩,?_⟩
     have h2:RepC w g (cells.drop off) b off:=RepC.of_row hb _ _ (by
      have:=hrl.drop off
      rw[List.drop_take] at this
      simpa using this)
     exact AV.frzC_rep hs n k _ _ _ _ h1 h2
   case sl a s f cs =>
    simp only[Option.bind_eq_some_iff] at he
    obtain⟨ds,h1,he⟩:=he
    split at he <;> try (cases he;done)
    rename_i hcl
    cases he
    simp only[Rep] at hr ⊢
    obtain⟨h0,A,cap,e1,e2,e3,e4,e5,e6⟩:=hr
    refine⟨hcl.trans h0,A,cap,e1,e2,e3,e4,e5,λhne=>?_⟩
    obtain⟨b,off,q1,q2,q3⟩:=e6 (length_nil hcl hne)
    exact⟨b,off,q1,.inl q2,AV.frzC_rep hs n k _ _ _ _ h1 q3⟩
   case agg cs =>
    simp only[Option.map_eq_some_iff] at he
    obtain⟨ds,h1,rfl⟩:=he
    simp only[Rep] at hr ⊢
    obtain⟨vs,e,hc⟩:=hr
    exact⟨vs,e,AV.frzL_rep hs n k _ _ _ h1 hc⟩
   case tup cs =>
    simp only[Option.map_eq_some_iff] at he
    obtain⟨ds,h1,rfl⟩:=he
    simp only[Rep] at hr ⊢
    obtain⟨vs,e,hc⟩:=hr
    exact⟨vs,e,AV.frzL_rep hs n k _ _ _ h1 hc⟩
def AV.frzL_rep {w:World}{g:Gh}{h:AH}(hs:SimH w g h) (n:Nat) : ∀ (k:Nat) (cs ds:List AV) (vs:List Value),AV.frzL h n k cs=some ds->RepL w g cs vs->RepL w (g.frz h n) ds vs
 | 0,cs,ds,vs,he,hr=>by simp[AV.frzL] at he
 | k+1,[],ds,vs,he,hr=>by simp only[AV.frzL,Option.some.injEq] at he;subst he;simpa only [RepL] using hr
 | k+1,c::cs,ds,vs,he,hr=>by
  simp only[AV.frzL] at he
  split at he <;> try (cases he;done)
  rename_i d ds' h1 h2
  cases he
  simp only[RepL] at hr ⊢
  obtain⟨u,us,e,r1,r2⟩:=hr
  exact⟨u,us,e,AV.frz_rep hs n k _ _ _ h1 r1,AV.frzL_rep hs n k _ _ _ h2 r2⟩
def AV.frzC_rep {w:World}{g:Gh}{h:AH}(hs:SimH w g h) (n:Nat) : ∀ (k:Nat) (cs ds:List AV) (b off:Nat),AV.frzL h n k cs=some ds->RepC w g cs b off->RepC w (g.frz h n) ds b off
 | 0,cs,ds,b,off,he,hr=>by simp[AV.frzL] at he
 | k+1,[],ds,b,off,he,hr=>by simp only[AV.frzL,Option.some.injEq] at he;subst he;simp only[RepC]
 | k+1,c::cs,ds,b,off,he,hr=>by
  simp only[AV.frzL] at he
  split at he <;> try (cases he;done)
  rename_i d ds' h1 h2
  cases he
  simp only[RepC] at hr ⊢
  obtain⟨⟨u,r1,r2⟩,r3⟩:=hr
  exact⟨⟨u,r1,AV.frz_rep hs n k _ _ _ h1 r2⟩,AV.frzC_rep hs n k _ _ _ _ h2 r3⟩
end
def SimH.frz {w:World}{g:Gh}{h:AH}(hs:SimH w g h) {n:Nat}(hn:n<=h.length) (hlt : ∀ e∈h.take n,e.lt n=true):SimH w (g.frz h n) (h.take n) /\ ∀ k,Ow (g.frz h n) (h.take n) k->Ow g h k:=by
 have get : ∀ {i:Nat} {e:Ent},(h.take n)[i]?=some e->i<n/\h[i]?=some e:=by
  intro i e he
  rw[List.getElem?_take] at he
  split at he
  .rename_i hi;exact⟨hi,he⟩
  .cases he
 have ow : ∀ {i k:Nat},OwAt (g.frz h n) (h.take n) i k->i<n/\OwAt g h i k:=by
  rintro i k ⟨v,ty,s,c,b,cap,e1,e2,e3,e4⟩
  obtain⟨hi,h1⟩:=get e1
  simp only[Gh.frz,if_pos hi] at e2
  exact⟨hi,v,ty,s,c,b,cap,h1,e2,e3,e4⟩
 have rw_ : ∀ {i k:Nat},RwAt (h.take n) i k->RwAt h i k:=λ⟨o,T,us,e⟩=>⟨o,T,us,(get e).2⟩
 have to : ∀ (c:List AV) (v:List Value),AV.ltL n c=true->RepL w g c v->RepL w (g.frz h n) c v:=λc v h1 h2=>RepL.mono (g.cut_le_frz h n) (λ_ _=>rfl) _ _ (RepL.cut _ _ h1 h2)
 refine⟨⟨?_,λi j k h1 h2=>hs.inj _ _ _ (ow h1).2 (ow h2).2,?_,?_,?_,⟨hs.glob.w,λk hk=>.inl (hs.glob.d k hk)⟩,?_,λi j k h1 h2=>hs.rinj _ _ _ (rw_ h1) (rw_ h2),?_⟩,?_⟩
 .intro i v ty s c he
  obtain⟨hi,h1⟩:=get he
  obtain⟨A,cap,f1,f2,f3⟩:=hs.ent _ _ _ _ _ h1
  refine⟨A,cap,by simp only[Gh.frz,if_pos hi];exact f1,f2,f3.imp id ?_⟩
  rintro⟨b,arr,rfl,q0,q1,q2,q3,q4,q5⟩
  refine⟨b,arr,rfl,q0,?_,q2,q3,q4,to _ _ (by simpa [Ent.lt] using hlt _ (List.mem_of_getElem? he)) q5⟩
  rintro (hd | ⟨j,hj,ho⟩)
  .exact q1 hd
  .have:=hs.inj i j b ⟨v,ty,s,c,_,cap,h1,f1,q0,rfl⟩ ho;omega
 .rintro k (hk | ⟨j,hj,hk⟩)
  .exact hs.lt k hk
  .exact (hs.own_not_D (.inl ⟨_,hk⟩)).2
 .intro i v l hl
  simp only[Gh.frz] at hl
  split at hl <;> try (cases hl;done)
  rename_i hi
  exact⟨by rw[List.length_take];omega,λv' ty s c he=>(hs.fresh _ _ _ hl).2 _ _ _ _ (get he).2⟩
 .intro i v l hl he
  simp only[Gh.frz] at hl
  split at hl <;> try (cases hl;done)
  exact hs.free _ _ _ hl (get he).2
 .intro i k o T us he
  obtain⟨q1,q2,q3,q4⟩:=hs.raw _ _ _ _ _ (get he).2
  refine⟨q1,q2,?_,to _ _ (by simpa [Ent.lt] using hlt _ (List.mem_of_getElem? he)) q4⟩
  rintro (hd | ⟨j,hj,ho⟩)
  .exact q3 hd
  .exact hs.own_ne_raw ho ⟨o,T,us,(get he).2⟩
 .intro k hk
  obtain⟨x1,x2,x3⟩:=hs.x k hk
  refine⟨x1,?_,?_⟩
  .rintro (hd | ⟨j,hj,ho⟩)
   .exact x2 hd
   .exact x3 (.inl ⟨j,ho⟩)
  .exact λho=>x3 (ho.imp (λ⟨i,h⟩=>⟨i,(ow h).2⟩) (λ⟨i,h⟩=>⟨i,rw_ h⟩))
 .exact λk ho=>ho.imp (λ⟨i,h⟩=>⟨i,(ow h).2⟩) (λ⟨i,h⟩=>⟨i,rw_ h⟩)
variable {P : Program}
def ACalls.frz {f:FuncId}{args:List AV}{h h1:AH}{c d:AV}{k:Nat}(hc:ACalls P f args h λy z=>z=h1/\y=.ret c) (hn:h.length<=h1.length) (hlt:(h1.take h.length).all (Ent.lt h.length)=true) (hd:c.frz h1 h.length k=some d):ACalls P f args h λy z=>z=h1.take h.length/\y=.ret d:=by
 refine⟨hc.1,λw g vs hs ha=>(hc.2 w g vs hs ha).mono ?_⟩
 rintro e w' ⟨y,k1,g1,r1,r2,r3,r4,r5,rfl,rfl⟩
 obtain⟨s1,s2⟩:=r2.frz hn (List.all_eq_true.1 hlt)
 cases e <;> simp only[EndR] at r1
 refine⟨.ret d,_,_,by simp only[EndR];exact AV.frz_rep r2 _ _ _ _ _ hd r1,s1,⟨λk hk=>.inl (r3.D k hk),λi v l hl=>?_,r3.X⟩,r4,λk hk=>r5 k (s2 k hk),rfl,rfl⟩
 simp only[Gh.frz,if_pos (hs.fresh _ _ _ hl).1]
 exact r3.loc _ _ _ hl
end
section
def Zuh:Value->Value->Bool
 | .int k a,.int k' b=>decide (k=k')&&decide (a=b)
 | .string a,.string b=>decide (a=b)
 | .bool a,.bool b=>a==b
 | .tuple ⟨[]⟩,.tuple ⟨[]⟩=>true
 | _,_=>false
def Zug : ∀ {a b:Value},Zuh a b=true->a=b:=by
 intro a b h
 unfold Zuh at h
 split at h <;> simp at h
 .rw[h.1,h.2]
 .rw[h]
 .rw[h]
 .rfl
mutual
def AV.eqb:AV->AV->Bool
 | .v a,.v b=>Zuh a b
 | .any,.any=>true
 | .sl n s f cs,.sl n' s' f' cs'=>decide (n=n')&&decide (s=s')&&(f==f')&&AV.eqbL cs cs'
 | .own a b c,.own a' b' c'=>decide (a=a')&&decide (b=b')&&decide (c=c')
 | .ptr a b c,.ptr a' b' c'=>decide (a=a')&&decide (b=b')&&decide (c=c')
 | .rp cs,.rp cs'=>AV.eqbL cs cs'
 | .agg cs,.agg cs'=>AV.eqbL cs cs'
 | .tup cs,.tup cs'=>AV.eqbL cs cs'
 | _,_=>false
def AV.eqbL:List AV->List AV->Bool
 | [],[]=>true
 | c::cs,d::ds=>AV.eqb c d&&AV.eqbL cs ds
 | _,_=>false
end
mutual
def AV.eqb_eq : ∀ {a b:AV},AV.eqb a b=true->a=b
 | .v a,b,h=>by cases b <;> simp only[AV.eqb] at h <;> first | rw[Zug h] | cases h
 | .any,b,h=>by cases b <;> simp only[AV.eqb] at h <;> first | rfl | cases h
 | .sl n s f cs,b,h=>by
  cases b <;> simp only[AV.eqb] at h <;> try (cases h;done)
  simp only[Bool.and_eq_true,decide_eq_true_eq,beq_iff_eq] at h
  rw[h.1.1.1,h.1.1.2,h.1.2,AV.eqbL_eq h.2]
 | .own n s f,b,h=>by
  cases b <;> simp only[AV.eqb] at h <;> try (cases h;done)
  simp only[Bool.and_eq_true,decide_eq_true_eq] at h
  rw[h.1.1,h.1.2,h.2]
 | .ptr n s f,b,h=>by
  cases b <;> simp only[AV.eqb] at h <;> try (cases h;done)
  simp only[Bool.and_eq_true,decide_eq_true_eq] at h
  rw[h.1.1,h.1.2,h.2]
 | .rp cs,b,h=>by cases b <;> simp only[AV.eqb] at h <;> first | rw[AV.eqbL_eq h] | cases h
 | .agg cs,b,h=>by cases b <;> simp only[AV.eqb] at h <;> first | rw[AV.eqbL_eq h] | cases h
 | .tup cs,b,h=>by cases b <;> simp only[AV.eqb] at h <;> first | rw[AV.eqbL_eq h] | cases h
 | .clo _ _,b,h=>by cases b <;> simp only[AV.eqb] at h <;> cases h
 | .bnd _ _,b,h=>by cases b <;> simp only[AV.eqb] at h <;> cases h
def AV.eqbL_eq : ∀ {a b:List AV},AV.eqbL a b=true->a=b
 | [],b,h=>by cases b <;> simp only[AV.eqbL] at h <;> first | rfl | cases h
 | c::cs,b,h=>by
  cases b <;> simp only[AV.eqbL] at h <;> try (cases h;done)
  simp only[Bool.and_eq_true] at h
  rw[AV.eqb_eq h.1,AV.eqbL_eq h.2]
end
def Zla:Option Ent->Option Ent->Bool
 | some (.mk a b c cs),some (.mk a' b' c' cs')=>decide (a=a')&&decide (b=b')&&decide (c=c')&&AV.eqbL cs cs'
 | none,none=>true
 | some .gone,some .gone=>true
 | _,_=>false
def ZnT {a b:Option Ent}(h:Zla a b=true):a=b:=by
 unfold Zla at h
 split at h <;> first | rfl | cases h | skip
 simp only[Bool.and_eq_true,decide_eq_true_eq] at h
 rw[h.1.1.1,h.1.1.2,h.1.2,AV.eqbL_eq h.2]
abbrev CE:=FuncId->List AV->AH->Option (AE×AH)
variable {P : Program}
def Zdn (P:Program) (C:CE):Prop := ∀ f args h x h1,C f args h=some (x,h1)->ACalls P f args h λy k=>k=h1/\y=x
def evFn:AV->List AV->Option (FuncId×List AV)
 | .v (.func (.func k) ⟨[]⟩ ⟨[]⟩),args=>some (k,args)
 | .clo (.func k) caps,args=>some (k,args++caps)
 | .bnd (.func k) first,args=>some (k,first++args)
 | _,_=>none
def ZnR {f:AV}{args ats:List AV}{k:FuncId}(h:evFn f args=some (k,ats)) {z:AH}{R:AE->AH->Prop}(hc:ACalls P k ats z R):Zey P f args z R:=by
 unfold evFn at h
 split at h <;> cases h
 .exact⟨rfl,rfl,hc⟩
 .exact hc
 .exact hc
def ZrC (C:CE) (f:AV) (args:List AV) (h:AH):Option (AE×AH):=match evFn f args with
 | some (k,ats)=>C k ats h
 | none=>none
def ZjA {C:CE}(hC:Zdn P C) {f:AV}{args:List AV}{h:AH}{x:AE}{h1:AH}(he:ZrC C f args h=some (x,h1)) {R:AE->AH->Prop}(hR:R x h1):Zey P f args h R:=by
 unfold ZrC at he
 split at he <;> try (cases he;done)
 rename_i k ats hk
 exact ZnR hk ((hC _ _ _ _ _ he).mono λy z ⟨e1,e2⟩=>by rw[e1,e2];exact hR)
def Zjz (C:CE) (h0:AH) (f:AV) (args:List AV):Option AV:=match evFn f args with
  | some (k, ats) => bif AV.ltL 0 ats then (match C k ats [] with
      | some (.ret c,[])=>bif c.lt 0 then some c else none
      | _=>none) else match C k ats h0 with
    | some (.ret c,h1)=>bif AV.ltL h0.length ats&&h0.all (Ent.lt h0.length)&&c.lt h0.length&&decide (h1.length=h0.length)&&(List.range h0.length).all (λi=>Zla h1[i]? h0[i]?) then some c else none
    | _=>none
  | none=>none
def Zpp {h0 hh:AH}(h:HExt h0 hh) : ∃ z,hh=h0++z:=by
 refine⟨hh.drop h0.length,?_⟩
 apply List.ext_getElem?
 intro i
 by_cases hi:i<h0.length
 .rw[List.getElem?_append_left hi]
  exact h i _ (List.getElem?_eq_getElem hi) |>.trans (List.getElem?_eq_getElem hi).symm
 .rw[List.getElem?_append_right om,List.getElem?_drop]
  congr 1;omega
def Zfp {C:CE}(hC:Zdn P C) {h0:AH}{f:AV}{args:List AV}{c:AV}(he:Zjz C h0 f args=some c) : ∀ h,HExt h0 h->Zey P f args h λr h'=>h'=h/\r=.ret c:=by
 unfold Zjz at he
 split at he <;> try (cases he;done)
 rename_i k ats hk
 intro h hx
 refine ZnR hk ?_
 cases hl:AV.ltL 0 ats with
 | true =>
  rw[hl] at he
  simp only[cond_true] at he
  split at he <;> try (cases he;done)
  rename_i c' hc
  cases hcl:c'.lt 0 with
  | false=>rw[hcl] at he;cases he
  | true =>
   rw[hcl] at he
   cases he
   have:=ACalls.frame h (hC _ _ _ _ _ hc) rfl hcl hl (λe he=>by cases he)
   exact this
 | false =>
  rw[hl] at he
  simp only[cond_false] at he
  split at he <;> try (cases he;done)
  rename_i c' h1 hc
  cases hb:(AV.ltL h0.length ats&&h0.all (Ent.lt h0.length)&&c'.lt h0.length&&decide (h1.length=h0.length)&&(List.range h0.length).all (λi=>Zla h1[i]? h0[i]?)) with
  | false=>rw[hb] at he;cases he
  | true =>
  rw[hb] at he
  cases he
  simp only[Bool.and_eq_true,decide_eq_true_eq,List.all_eq_true,List.mem_range] at hb
  obtain⟨⟨⟨⟨b1,b2⟩,b3⟩,b4⟩,b5⟩:=hb
  obtain⟨z,rfl⟩:=Zpp hx
  have heq:h1=h0:=by
   apply List.ext_getElem?
   intro i
   by_cases hi:i<h0.length
   .exact ZnT (b5 i hi)
   .rw[List.getElem?_eq_none om,List.getElem?_eq_none om]
  subst heq
  exact ACalls.frame z (hC _ _ _ _ _ hc) rfl b3 b1 b2
inductive TM where
 | leaf | node (x:AV) (l r:TM)
def TM.get:TM->List Bool->AV
 | .leaf,_=>.any
 | .node x _ _,[]=>x
 | .node _ l r,b::p=>match b with
  | true=>l.get p
  | false=>r.get p
def TM.put (c:AV):List Bool->TM->TM
 | [],.leaf=>.node c .leaf .leaf
 | [],.node _ l r=>.node c l r
 | b::p,.leaf=>match b with
  | true=>.node .any (TM.put c p .leaf) .leaf
  | false=>.node .any .leaf (TM.put c p .leaf)
 | b::p,.node x l r=>match b with
  | true=>.node x (TM.put c p l) r
  | false=>.node x l (TM.put c p r)
def TM.get_put : ∀ (p q:List Bool) (m:TM) (c:AV),(TM.put c p m).get q=if q=p then c else m.get q
 | [],q,m,c=>by cases m <;> cases q <;> simp[TM.put,TM.get];split <;> rfl
 | b::p,q,m,c=>by
  cases m <;> cases b <;> cases q <;> simp[TM.put,TM.get]
  all_goals
   rename_i d q
   cases d <;> simp[TM.get_put,TM.get]
def pthF:Nat->Nat->List Bool
 | 0,_=>[]
 | k+1,i=>bif Nat.beq i 0 then [] else bif Nat.beq (i%2) 1 then true::pthF k (i/2) else false::pthF k (i/2-1)
def pth (i:Nat):List Bool:=bif Nat.blt i 4095 then pthF 12 i else List.replicate 13 true
def unp:List Bool->Nat
 | []=>0
 | true::p=>2*unp p+1
 | false::p=>2*unp p+2
def tmB:Nat->Nat
 | 0=>1
 | k+1=>2*tmB k+1
def Zw5 (a b:Nat):Nat.beq a b=decide (a=b):=by
 rw[Bool.eq_iff_iff,decide_eq_true_iff]
 exact⟨Nat.eq_of_beq_eq_true,λh=>by subst h;exact Nat.beq_refl a⟩
def unp_F : ∀ (k i:Nat),i<tmB k->unp (pthF k i)=i
 | 0,i,h=>by simp only[tmB] at h;simp only[pthF,unp];omega
 | k+1,i,h=>by
  simp only[tmB] at h
  simp only[pthF,Zw5]
  by_cases h0:i=0
  .simp[h0,unp]
  .by_cases h1:i%2=1
   .simp only[h0,h1,decide_false,decide_true,cond_false,cond_true,unp]
    rw[unp_F k _ om];omega
   .simp only[h0,h1,decide_false,cond_false,unp]
    rw[unp_F k _ om];omega
def pth_ne {i d:Nat}(hd:d<4095) (h:i≠d):pth i≠pth d:=by
 intro e
 have e1:unp (pth d)=d:=by
  unfold pth
  rw[show Nat.blt d 4095=true from by rw[Nat.blt_eq];exact hd]
  exact unp_F 12 d (by simp only[tmB];omega)
 rw[<-e] at e1
 unfold pth at e1
 cases hb:Nat.blt i 4095 with
 | true =>
  rw[hb] at e1
  rw[Nat.blt_eq] at hb
  exact h ((unp_F 12 i (by simp only[tmB];omega)).symm.trans e1)
 | false =>
  rw[hb] at e1
  have:unp (List.replicate 13 true)=8191:=by decide
  simp only[cond_false] at e1
  omega
def evO (M:TM):Operand->AV
 | .tmp t=>M.get (pth t)
 | .const v=>AV.ofVal v
 | .global _=>.any
 | .func f=>.v (.func (.func f) #[] #[])
structure Rl (m:Nat) (M:TM) (T:List AV):Prop where
 len:T.length=m
 get : ∀ i,(T[i]?).getD .any=M.get (pth i)
def Rl.eval {m:Nat}{M:TM}{T:List AV}(h:Rl m M T):Zaf T=evO M:=by
 funext x
 cases x <;> simp only[Zaf,evO]
 exact h.get _
def Rl.at {m:Nat}{M:TM}{T:List AV}(h:Rl m M T) {i:Nat}{v:Value}(hv:M.get (pth i)=.v v):T[i]?=some (.v v):=by
 have:=h.get i
 rw[hv] at this
 cases hT:T[i]? with
 | none=>rw[hT] at this;cases this
 | some c=>rw[hT] at this;rw[show c=.v v from this]
def Zks (m:Nat) (M:TM):Option Nat->AV->Option TM
 | none,_=>some M
 | some d,c=>bif Nat.blt d m&&Nat.blt d 4095 then some (TM.put c (pth d) M) else none
def Zed {m:Nat}{M M':TM}{T:List AV}(h:Rl m M T) {d:Option Nat}{c:AV}(he:Zks m M d c=some M'):Rl m M' (aPut T d c):=by
 cases d with
 | none=>cases he;exact h
 | some d =>
  simp only[Zks] at he
  cases hb:Nat.blt d m&&Nat.blt d 4095 with
  | false=>rw[hb] at he;cases he
  | true =>
   rw[hb] at he
   cases he
   simp only[Bool.and_eq_true,Nat.blt_eq] at hb
   refine⟨by simpa [aPut] using h.len,λi=>?_⟩
   rw[TM.get_put]
   simp only[aPut]
   by_cases hi:i=d
   .subst hi
    rw[if_pos rfl,List.getElem?_set_self (by rw[h.len];exact hb.1)];rfl
   .rw[if_neg (pth_ne hb.2 hi),List.getElem?_set_ne (Ne.symm hi)];exact h.get i
def evG (g:Option (Nat×Bool)) (M:TM):Option Bool:=match g with
 | none=>some true
 | some (t,want)=>match M.get (pth t) with
  | .v (.bool b)=>some (b==want)
  | .v (.tuple _)=>some false
  | _=>none
def Ziq {g:Option (Nat×Bool)}{m:Nat}{M:TM}{T:List AV}(hR:Rl m M T) {b:Bool}(h:evG g M=some b) {f:Bool->Prop}(hf:f b):agd g T f:=by
 unfold evG at h
 unfold agd
 split at h
 .cases h;exact hf
 .dsimp only
  split at h <;> cases h <;> rename_i hT <;> simp only[hR.at hT] <;> exact hf
abbrev ES:=Option (AX×TM×AH)
section
variable (m : Nat)
def evN (M:TM) (d:Option Nat) (c:AV) (h:AH):ES:=match Zks m M d c with
 | some M'=>some (.normal,M',h)
 | none=>none
def evOp (C:CE) (o:AOper) (M:TM) (h:AH):ES :=
 match o.op with
 | .call f xs=>match ZrC C (evO M f) (xs.map (evO M)) h with
  | some (.ret c,h')=>evN m M o.dst c h'
  | some (.pan c,h')=>some (.pan c,M,h')
  | none=>none
 | .panic x=>match evO M x with
  | .v (.iface t v)=>some (.pan (.v (.iface t v)),M,h)
  | _=>none
 | .eqn neg x=>match evO M x with
  | .sl (_+1) _ _ _=>evN m M o.dst (.v (.bool neg)) h
  | _=>none
 | op=>match aval h (evO M) op with
  | some c=>evN m M o.dst c h
  | none=>match aeff h (evO M) op with
   | some (c,h')=>evN m M o.dst c h'
   | none=>none
def Zpu (C:CE):List AOper->TM->AH->ES
 | [],M,h=>some (.normal,M,h)
 | o::rest,M,h=>match evG o.guard M with
  | some true=>match evOp m C o M h with
   | some (.normal,M',h')=>Zpu C rest M' h'
   | r=>r
  | some false=>match Zks m M o.dst (.v undef) with
   | some M'=>Zpu C rest M' h
   | none=>none
  | none=>none
variable {m}
def Pr1 (m:Nat) (r:AX×TM×AH) (Kp:AV->List AV->AH->Prop) (K:List AV->AH->Prop):Prop := ∀ T',Rl m r.2.1 T'->match r.1 with
 | .normal=>K T' r.2.2
 | .pan c=>Kp c T' r.2.2
 | _=>False
def Zrz {M:TM}{T:List AV}(hR:Rl m M T) {d:Option Nat}{c:AV}{h:AH}{r:AX×TM×AH}(he:evN m M d c h=some r) {Kp:AV->List AV->AH->Prop}{K:List AV->AH->Prop}(hr:Pr1 m r Kp K):K (aPut T d c) h:=by
 unfold evN at he
 split at he <;> cases he
 rename_i hp
 exact hr _ (Zed hR hp)
def Zwk {C:CE}(hC:Zdn P C) {o:AOper}{M:TM}{T:List AV}(hR:Rl m M T) {h:AH}{r:AX×TM×AH}(he:evOp m C o M h=some r) {Kp:AV->List AV->AH->Prop}{K:List AV->AH->Prop}(hr:Pr1 m r Kp K):astep P Kp o T h K:=by
 obtain⟨d,g,op⟩:=o
 have gen:(match aval h (evO M) op with
  | some c=>evN m M d c h
  | none=>match aeff h (evO M) op with
   | some (c,h')=>evN m M d c h'
   | none=>none)=some r->(match aval h (evO M) op with
  | some c=>K (aPut T d c) h
  | none=>match aeff h (evO M) op with
   | some (c,h')=>K (aPut T d c) h'
   | none=>False):=by
  intro he
  split at he
  .exact Zrz hR he hr
  .split at he
   .exact Zrz hR he hr
   .cases he
 unfold astep
 rw[hR.eval]
 cases op <;> first | exact gen he | skip
 case eqn neg x =>
  simp only[evOp] at he
  dsimp only
  split at he <;> try (cases he;done)
  rename_i hx
  rw[hx]
  intro b hb
  have:b=neg:=hb (Nat.succ_pos _)
  subst this
  exact Zrz hR he hr
 case call f xs =>
  simp only[evOp] at he
  dsimp only
  split at he <;> try (cases he;done)
  .rename_i hx;exact ZjA hC hx (Zrz hR he hr)
  .rename_i hx;cases he;exact ZjA hC hx (hr _ hR)
 case panic x =>
  simp only[evOp] at he
  dsimp only
  split at he <;> cases he
  rename_i hx
  rw[hx];exact hr _ hR
def Zmr {C:CE}(hC:Zdn P C) {Kp:AV->List AV->AH->Prop}{K:List AV->AH->Prop} : ∀ (al:List AOper) (M:TM) (T:List AV) (h:AH) (r:AX×TM×AH),Rl m M T->Zpu m C al M h=some r->Pr1 m r Kp K->arun P Kp al T h K
 | [],M,T,h,r,hR,he,hr=>by cases he;exact hr _ hR
 | o::rest,M,T,h,r,hR,he,hr=>by
  simp only[Zpu] at he
  simp only[arun]
  split at he <;> try (cases he;done)
  .rename_i hg
   refine Ziq hR hg ⟨λ_=>?_,λh=>by cases h⟩
   split at he
   .rename_i M' h' ho
    exact Zwk hC hR ho λT' hR'=>Zmr hC rest M' T' h' r hR' he hr
   .rename_i hne
    refine Zwk hC hR he ?_
    obtain⟨x,T',h'⟩:=r
    cases x
    .exact (hne T' h' he).elim
    all_goals exact hr
  .rename_i hg
   split at he <;> try (cases he;done)
   rename_i hp
   exact Ziq hR hg ⟨λh=>(by cases h),λ_=>Zmr hC rest _ _ h r (Zed hR hp) he hr⟩
abbrev ED:=Option (TM×AH×List Nat)
def evND (m:Nat) (M:TM) (d:Option Nat) (c:AV) (ents:AH) (rs:List Nat):ED:=match Zks m M d c with
 | some M'=>some (M',ents,rs)
 | none=>none
def Zwl (m:Nat) (C:CE) (h0:AH) (o:AOper) (M:TM) (ents:AH) (rs:List Nat):ED :=
 match o.op with
 | .call f xs=>match Zjz C h0 (evO M f) (xs.map (evO M)) with
  | some c=>evND m M o.dst c ents rs
  | none=>none
 | .loadR agg sz x=>match evO M x with
  | .rp cs=>match Zcm agg sz cs with
   | some c=>evND m M o.dst c ents rs
   | none=>none
  | .ptr id v off=>match h0[id]? with
   | some (.mk v' _ _ cells)=>if v'=v then (match Zcm agg sz (cells.drop off) with
    | some c=>evND m M o.dst c ents (id::rs)
    | none=>none) else none
   | _=>none
  | _=>none
 | op=>match aval h0 (evO M) op with
  | some c=>evND m M o.dst c ents rs
  | none=>match aallo (h0.length+ents.length) (evO M) op with
   | some (c,e)=>evND m M o.dst c (ents++[e]) rs
   | none=>match Zcp (h0.length+ents.length) (evO M) op with
    | some (c,e)=>evND m M o.dst c (ents++[e]) rs
    | none=>none
def evD (m:Nat) (C:CE) (h0:AH):List AOper->TM->AH->List Nat->ED
 | [],M,ents,rs=>some (M,ents,rs)
 | o::rest,M,ents,rs=>match evG o.guard M with
  | some true=>match Zwl m C h0 o M ents rs with
   | some (M',ents',rs')=>evD m C h0 rest M' ents' rs'
   | none=>none
  | some false=>match Zks m M o.dst (.v undef) with
   | some M'=>evD m C h0 rest M' ents rs
   | none=>none
  | none=>none
def Zpv {M:TM}{T:List AV}(hR:Rl m M T) {d:Option Nat}{c:AV}{ents:AH}{rs:List Nat}{r:TM×AH×List Nat}(he:evND m M d c ents rs=some r):r.2.2=rs/\r.2.1=ents/\Rl m r.1 (aPut T d c):=by
 unfold evND at he
 split at he <;> cases he
 rename_i hp
 exact⟨rfl,rfl,Zed hR hp⟩
def evOpD_ok {C:CE}(hC:Zdn P C) {h0:AH}{o:AOper}{M:TM}{T:List AV}(hR:Rl m M T) {ents:AH}{rs:List Nat}{r:TM×AH×List Nat}(he:Zwl m C h0 o M ents rs=some r):(∀ i∈rs,i∈r.2.2) /\ ∀ (RS:List Nat) (K:List AV->AH->Prop),(∀ i∈r.2.2,i∈RS)->(∀ T',Rl m r.1 T'->K T' r.2.1)->adstep P RS h0 o T ents K:=by
 obtain⟨d,g,op⟩:=o
 have fin : ∀ {c:AV} {ents':AH} {rs':List Nat},evND m M d c ents' rs'=some r->(∀ i∈rs,i∈rs')->(∀ i∈rs,i∈r.2.2) /\ ∀ (K:List AV->AH->Prop),(∀ T',Rl m r.1 T'->K T' r.2.1)->K (aPut T d c) ents':=by
  intro c ents' rs' he hm
  obtain⟨e1,e2,e3⟩:=Zpv hR he
  exact⟨by rw[e1];exact hm,λK hk=>by rw[<-e2];exact hk _ e3⟩
 have gen:(match aval h0 (evO M) op with
  | some c=>evND m M d c ents rs
  | none=>match aallo (h0.length+ents.length) (evO M) op with
   | some (c,e)=>evND m M d c (ents++[e]) rs
   | none=>match Zcp (h0.length+ents.length) (evO M) op with
    | some (c,e)=>evND m M d c (ents++[e]) rs
    | none=>none)=some r->(∀ i∈rs,i∈r.2.2) /\ ∀ (RS:List Nat) (K:List AV->AH->Prop),(∀ i∈r.2.2,i∈RS)->(∀ T',Rl m r.1 T'->K T' r.2.1)->(match aval h0 (evO M) op with
  | some c=>K (aPut T d c) ents
  | none => ∃ c ent,(aallo (h0.length+ents.length) (evO M) op=some (c,ent)\/Zcp (h0.length+ents.length) (evO M) op=some (c,ent))/\K (aPut T d c) (ents++[ent])):=by
  intro he
  split at he
  .exact⟨(fin he λ_ h=>h).1,λ_ K _ hk=>(fin he λ_ h=>h).2 K hk⟩
  .split at he
   .rename_i c e h1;exact⟨(fin he λ_ h=>h).1,λ_ K _ hk=>⟨c,e,.inl h1,(fin he λ_ h=>h).2 K hk⟩⟩
   .split at he
    .rename_i c e h1;exact⟨(fin he λ_ h=>h).1,λ_ K _ hk=>⟨c,e,.inr h1,(fin he λ_ h=>h).2 K hk⟩⟩
    .cases he
 unfold adstep
 rw[hR.eval]
 cases op <;> first | exact gen he | skip
 case loadR agg sz x =>
  simp only[Zwl] at he
  dsimp only
  split at he <;> try (cases he;done)
  .rename_i cs hx
   split at he <;> try (cases he;done)
   rename_i c hl
   rw[hx]
   simp only[hl]
   exact⟨(fin he λ_ h=>h).1,λ_ K _ hk=>(fin he λ_ h=>h).2 K hk⟩
  .rename_i id v off hx
   split at he <;> try (cases he;done)
   rename_i v' ty s cells hi
   split at he <;> try (cases he;done)
   rename_i hv
   subst hv
   split at he <;> try (cases he;done)
   rename_i c hl
   rw[hx]
   have hf:=fin he λ_ h=>List.mem_cons_of_mem _ h
   refine⟨hf.1,λRS K hm hk=>⟨ty,s,cells,c,hi,hl,hm _ ?_,hf.2 K hk⟩⟩
   rw[(Zpv hR he).1];exact List.mem_cons_self ..
 case call f xs =>
  simp only[Zwl] at he
  dsimp only
  split at he <;> try (cases he;done)
  rename_i c hx
  exact⟨(fin he λ_ h=>h).1,λ_ K _ hk=>⟨c,Zfp hC hx,(fin he λ_ h=>h).2 K hk⟩⟩
def Zwo {C:CE}(hC:Zdn P C) {h0:AH} : ∀ (al:List AOper) (M:TM) (T:List AV) (ents:AH) (rs:List Nat) (r:TM×AH×List Nat),Rl m M T->evD m C h0 al M ents rs=some r->(∀ i∈rs,i∈r.2.2) /\ ∀ (RS:List Nat) (K:List AV->AH->Prop),(∀ i∈r.2.2,i∈RS)->(∀ T',Rl m r.1 T'->K T' r.2.1)->adrun P RS h0 al T ents K
 | [],M,T,ents,rs,r,hR,he=>by cases he;exact⟨λ_ h=>h,λ_ _ _ h=>h _ hR⟩
 | o::rest,M,T,ents,rs,r,hR,he=>by
  simp only[evD] at he
  split at he <;> try (cases he;done)
  .rename_i hg
   split at he <;> try (cases he;done)
   rename_i M' e' rs' ho
   obtain⟨h1,h2⟩:=evOpD_ok hC hR ho
   have h3 : ∀ T',Rl m M' T'->_:=λT' hR'=>Zwo hC rest M' T' e' rs' r hR' he
   have hex : ∃ T',Rl m M' T':=by
    have hh : ∃ c ents2 rs2,evND m M o.dst c ents2 rs2=some (M',e',rs'):=by
     unfold Zwl at ho
     repeat' (split at ho)
     all_goals first | exact⟨_,_,_,ho⟩ | cases ho
    obtain⟨c,e2,r2,hh⟩:=hh
    exact⟨_,(Zpv hR hh).2.2⟩
   obtain⟨T1,hR1⟩:=hex
   exact⟨λi hi=>(h3 T1 hR1).1 i (h1 i hi),λRS K hm hk=>Ziq hR hg ⟨λ_=>h2 RS _ (λi hi=>hm i ((h3 T1 hR1).1 i hi)) (λT' hR'=>(h3 T' hR').2 RS K hm hk),λh=>by cases h⟩⟩
  .rename_i hg
   split at he <;> try (cases he;done)
   rename_i hp
   obtain⟨h3,h4⟩:=Zwo hC rest _ _ _ _ _ (Zed hR hp) he
   exact⟨h3,λRS K hm hk=>Ziq hR hg ⟨λh=>(by cases h),λ_=>h4 RS K hm hk⟩⟩
abbrev EK:=Option (TM×AH)
def evNK (m:Nat) (M:TM) (d:Option Nat) (c:AV) (h:AH):EK:=match Zks m M d c with
 | some M'=>some (M',h)
 | none=>none
def Zrt {h:AH}:HExt [] h:=λi x hi=>by simp at hi
def chgE (τ:Operand->AV):AOp->Option Nat
 | .store _ p _=>match τ p with
  | .ptr id _ _=>some id
  | _=>none
 | .app _ _ _ s _=>match τ s with
  | .own id _ _=>some id
  | _=>none
 | _=>none
def chgOk (R:List Nat) (n:Nat) (g:Option Nat):Bool:=R.all λi=>Nat.blt i n&&(match g with
 | some j=>!(Nat.beq i j)
 | none=>true)
def aeff_chg {h h':AH}{τ:Operand->AV}{op:AOp}{c:AV}(he:aeff h τ op=some (c,h')) {i:Nat}(hi:i<h.length) (hg : ∀ j,chgE τ op=some j->i≠j):h'[i]?=h[i]?:=by
  have app : ∀ e:Ent,(h++[e])[i]?=h[i]?:=λe=>List.getElem?_append_left hi
  cases op <;> simp only[aeff] at he <;> try (cases he;done)
  case new=>cases he;exact app _
  case box => split at he <;> try (cases he; done)
              split at he <;> cases he
              exact app _
  case lit => split at he <;> cases he
              exact app _
  case store sz p x =>
    split at he <;> try (cases he;done)
    rename_i id ver off cs hp _
    split at he <;> try (cases he;done)
    split at he <;> cases he
    exact List.getElem?_set_ne (Ne.symm (hg id (by simp only[chgE,hp])))
  case app ty sz bytes s x =>
    split at he <;> try (cases he;done)
    split at he <;> try (cases he;done)
    . rename_i id ver n hs
      split at he <;> try (cases he;done)
      split at he <;> cases he
      exact List.getElem?_set_ne (Ne.symm (hg id (by simp only[chgE,hs])))
    . split at he <;> cases he
      exact app _
  case appz =>
    split at he <;> try (cases he;done)
    split at he <;> cases he
    exact app _
def chgOk_ok {R:List Nat}{h h':AH}{τ:Operand->AV}{op:AOp}{c:AV}(he:aeff h τ op=some (c,h')) (hc:chgOk R h.length (chgE τ op)=true) : ∀ id∈R,h'[id]?=h[id]?:=λid hid=>by
 have:=List.all_eq_true.1 hc id hid
 simp only[Bool.and_eq_true,Nat.blt_eq] at this
 refine aeff_chg he this.1 λj hj e=>?_
 have h2:=this.2
 rw[hj] at h2
 simp[e] at h2
def evOpK (m:Nat) (C:CE) (R:List Nat) (o:AOper) (M:TM) (h:AH):EK :=
 match o.op with
 | .call f xs=>match Zjz C [] (evO M f) (xs.map (evO M)) with
  | some c=>evNK m M o.dst c h
  | none=>match ZrC C (evO M f) (xs.map (evO M)) h with
   | some (.ret c,h')=>bif R.all (λi=>Zla h'[i]? h[i]?) then evNK m M o.dst c h' else none
   | _=>none
 | .panic _=>none
 | .eqn _ _=>none
 | op=>match aval h (evO M) op with
  | some c=>evNK m M o.dst c h
  | none=>match aeff h (evO M) op with
   | some (c,h')=>bif chgOk R h.length (chgE (evO M) op) then evNK m M o.dst c h' else none
   | none=>none
def evK (m:Nat) (C:CE) (rs:List Nat):List Bool->List AOper->TM->AH->EK
 | _,[],M,h=>some (M,h)
 | q,o::rest,M,h=>match evG o.guard M with
  | some true=>match evOpK m C (bif q.headD true then rs else []) o M h with
   | some (M',h')=>evK m C rs q.tail rest M' h'
   | none=>none
  | some false=>match Zks m M o.dst (.v undef) with
   | some M'=>evK m C rs q.tail rest M' h
   | none=>none
  | none=>none
def evNK_ok {M:TM}{T:List AV}(hR:Rl m M T) {d:Option Nat}{c:AV}{h:AH}{r:TM×AH}(he:evNK m M d c h=some r):r.2=h/\Rl m r.1 (aPut T d c):=by
 unfold evNK at he
 split at he <;> cases he
 rename_i hp
 exact⟨rfl,Zed hR hp⟩
def evOpK_ok {C:CE}(hC:Zdn P C) {o:AOper}{M:TM}{T:List AV}(hR:Rl m M T) {h:AH}{rs:List Nat}{r:TM×AH}(he:evOpK m C rs o M h=some r) {K:List AV->AH->Prop}(hr : ∀ T',Rl m r.1 T'->K T' r.2):Zge P rs o T h K:=by
 obtain⟨d,g,op⟩:=o
 have fin : ∀ {c:AV} {h':AH},evNK m M d c h'=some r->K (aPut T d c) h':=λhe=>by
  obtain⟨e1,e2⟩:=evNK_ok hR he
  rw[<-e1];exact hr _ e2
 have gen:(match aval h (evO M) op with
  | some c=>evNK m M d c h
  | none=>match aeff h (evO M) op with
   | some (c,h')=>bif chgOk rs h.length (chgE (evO M) op) then evNK m M d c h' else none
   | none=>none)=some r->(match aval h (evO M) op with
  | some c=>K (aPut T d c) h
  | none=>match aeff h (evO M) op with
   | some (c,h')=>(∀ id∈rs,h'[id]?=h[id]?)/\K (aPut T d c) h'
   | none=>False):=by
  intro he
  split at he
  .exact fin he
  .split at he <;> try (cases he;done)
   rename_i ha
   cases hb:chgOk rs h.length (chgE (evO M) op) with
   | false=>rw[hb] at he;cases he
   | true=>rw[hb] at he;exact⟨chgOk_ok ha hb,fin he⟩
 unfold Zge
 rw[hR.eval]
 cases op <;> first | exact gen he | (simp only[evOpK] at he;cases he;done) | skip
 case call f xs =>
  simp only[evOpK] at he
  dsimp only
  split at he
  .rename_i c hx
   exact⟨c,h,Zfp hC hx h Zrt,λ_ _=>rfl,fin he⟩
  .split at he <;> try (cases he;done)
   rename_i c h' hx
   cases hb:rs.all (λi=>Zla h'[i]? h[i]?) with
   | false=>rw[hb] at he;cases he
   | true =>
    rw[hb] at he
    rw[List.all_eq_true] at hb
    exact⟨c,h',ZjA hC hx ⟨rfl,rfl⟩,λi hi=>ZnT (hb i hi),fin he⟩
def Zwm {C:CE}(hC:Zdn P C) {rs:List Nat}{K:List AV->AH->Prop} : ∀ (q:List Bool) (al:List AOper) (M:TM) (T:List AV) (h:AH) (r:TM×AH),Rl m M T->evK m C rs q al M h=some r->(∀ T',Rl m r.1 T'->K T' r.2)->ZcJ P rs q al T h K
 | q,[],M,T,h,r,hR,he,hr=>by cases q <;> (cases he;exact hr _ hR)
 | q,o::rest,M,T,h,r,hR,he,hr=>by
  simp only[evK] at he
  simp only[ZcJ]
  split at he <;> try (cases he;done)
  .rename_i hg
   split at he <;> try (cases he;done)
   rename_i M' h' ho
   exact Ziq hR hg ⟨λ_=>evOpK_ok hC hR ho (λT' hR'=>Zwm hC _ rest M' T' h' _ hR' he hr),λh=>by cases h⟩
  .rename_i hg
   split at he <;> try (cases he;done)
   rename_i hp
   exact Ziq hR hg ⟨λh=>(by cases h),λ_=>Zwm hC _ rest _ _ _ _ (Zed hR hp) he hr⟩
def Zra (a b:Bool×List Nat):Bool:=(a.1&&b.1)||a.2.all λx=>!(b.2.contains x)
def ZvM {a b:Bool×List Nat}(h:Zra a b=true):Zfe a b:=by
 simp only[Zra,Bool.or_eq_true,Bool.and_eq_true,List.all_eq_true] at h
 refine h.imp id λh x hx hy=>?_
 have:=h x hx
 simp[hy] at this
abbrev EU:=Option ((Bool×List Nat)×Bool×TM×AH)
def evNU (m:Nat) (t:Bool×List Nat) (ext:Bool) (M:TM) (d:Option Nat) (c:AV) (h:AH):EU:=match Zks m M d c with
 | some M'=>some (t,ext,M',h)
 | none=>none
def Zmj (h:AH):List (Nat×Ent):=(List.range h.length).filterMap λi=>(h[i]?).map λe=>(i,e)
def Zgp {h:AH}{p:Nat×Ent}:p∈Zmj h↔h[p.1]?=some p.2:=by
 unfold Zmj
 simp only[List.mem_filterMap,List.mem_range,Option.map_eq_some_iff]
 constructor
 .rintro⟨i,_,e,he,rfl⟩;exact he
 .intro hp;exact⟨p.1,(List.getElem?_eq_some_iff.1 hp).1,p.2,hp,rfl⟩
def Znb {h:AH}{e:Ent}{i:Nat}(he:h[i]?=some e):h.set i e=h:=by
 apply List.ext_getElem?
 intro j
 by_cases hj:j=i
 .subst hj;rw[List.getElem?_set_self (List.getElem?_eq_some_iff.1 he).1,he]
 .rw[List.getElem?_set_ne (Ne.symm hj)]
def evOpU (m:Nat) (C:CE) (h0:AH) (o:AOper) (ext:Bool) (M:TM) (h:AH):EU :=
 match o.op with
 | .call f xs=>match Zjz C [] (evO M f) (xs.map (evO M)) with
  | some c=>evNU m (false,[]) ext M o.dst c h
  | none=>match (bif ext then Zjz C h0 (evO M f) (xs.map (evO M)) else none) with
   | some c=>evNU m (true,List.range h0.length) ext M o.dst c h
   | none=>match h[0]?,Zjz C h (evO M f) (xs.map (evO M)) with
    | some _,some c=>evNU m (false,(Zmj h).map (·.1)) ext M o.dst c h
    | _,_=>none
 | .panic _=>none
 | .eqn _ _=>none
 | .loadR _ _ _=>none
 | op=>match aval [] (evO M) op with
  | some c=>evNU m (false,[]) ext M o.dst c h
  | none=>match (bif ext then aval h0 (evO M) op else none) with
   | some c=>evNU m (true,List.range h0.length) ext M o.dst c h
   | none=>match aupd h (evO M) op with
    | some (c,need,id,e2)=>evNU m (false,need.map (·.1)) (ext&&Nat.ble h0.length id) M o.dst c (h.set id e2)
    | none=>match aallo h.length (evO M) op with
     | some (c,e)=>evNU m (false,[h.length]) ext M o.dst c (h++[e])
     | none=>match Zcp h.length (evO M) op with
      | some (c,e)=>evNU m (false,[h.length]) ext M o.dst c (h++[e])
      | none=>none
def evU (m:Nat) (C:CE) (h0:AH):List (List Nat)->List AOper->List (Bool×List Nat)->Bool->TM->AH->EK
 | _,[],_,_,M,h=>some (M,h)
 | q,o::rest,tc,ext,M,h=>match evG o.guard M with
  | some true=>match evOpU m C h0 o ext M h with
   | some (t,ext',M',h')=>bif (q.headD []).all (λi=>Zra (tc.getD i (false,[])) t) then evU m C h0 q.tail rest (tc++[t]) ext' M' h' else none
   | none=>none
  | some false=>match Zks m M o.dst (.v undef) with
   | some M'=>evU m C h0 q.tail rest (tc++[(false,[])]) ext M' h
   | none=>none
  | none=>none
def Zru {h0 h:AH}{e:Ent}(hx:HExt h0 h):HExt h0 (h++[e]):=λi x hi=>by
 have:=hx i x hi
 rw[List.getElem?_append_left (List.getElem?_eq_some_iff.1 this).1];exact this
def hext_set {h0 h:AH}{e:Ent}{id:Nat}(hx:HExt h0 h) (hid:h0.length<=id):HExt h0 (h.set id e):=λi x hi=>by
 have h1:=(List.getElem?_eq_some_iff.1 hi).1
 rw[List.getElem?_set_ne om];exact hx i x hi
def evNU_ok {M:TM}{T:List AV}(hR:Rl m M T) {t0 t:Bool×List Nat}{e0 ext':Bool}{d:Option Nat}{c:AV}{h h':AH}{M':TM}(he:evNU m t0 e0 M d c h=some (t,ext',M',h')):t=t0/\ext'=e0/\h'=h/\Rl m M' (aPut T d c):=by
 unfold evNU at he
 split at he <;> cases he
 rename_i hp
 exact⟨rfl,rfl,rfl,Zed hR hp⟩
def evOpU_ok {C:CE}(hC:Zdn P C) {h0:AH}{o:AOper}{ext ext':Bool}{M M':TM}{T:List AV}(hR:Rl m M T) {h h':AH}{t:Bool×List Nat}(he:evOpU m C h0 o ext M h=some (t,ext',M',h')) (hx:ext=true->HExt h0 h):(ext'=true->HExt h0 h') /\ ∀ (K:Bool×List Nat->List AV->AH->Prop),(∀ T',Rl m M' T'->K t T' h')->austep P h0 o T h K:=by
 obtain⟨d,g,op⟩:=o
 have fin : ∀ {t0:Bool×List Nat} {e0:Bool} {c:AV} {h2:AH},evNU m t0 e0 M d c h2=some (t,ext',M',h')->(e0=true->HExt h0 h2)->(ext'=true->HExt h0 h') /\ ∀ (K:Bool×List Nat->List AV->AH->Prop),(∀ T',Rl m M' T'->K t T' h')->K t0 (aPut T d c) h2:=by
  intro t0 e0 c h2 he hx
  obtain⟨rfl,rfl,rfl,e4⟩:=evNU_ok hR he
  exact⟨hx,λK hk=>hk _ e4⟩
 have gen:(match aval [] (evO M) op with
  | some c=>evNU m (false,[]) ext M d c h
  | none=>match (bif ext then aval h0 (evO M) op else none) with
   | some c=>evNU m (true,List.range h0.length) ext M d c h
   | none=>match aupd h (evO M) op with
    | some (c,need,id,e2)=>evNU m (false,need.map (·.1)) (ext&&Nat.ble h0.length id) M d c (h.set id e2)
    | none=>match aallo h.length (evO M) op with
     | some (c,e)=>evNU m (false,[h.length]) ext M d c (h++[e])
     | none=>match Zcp h.length (evO M) op with
      | some (c,e)=>evNU m (false,[h.length]) ext M d c (h++[e])
      | none=>none)=some (t,ext',M',h')->(ext'=true->HExt h0 h') /\ ∀ (K:Bool×List Nat->List AV->AH->Prop),(∀ T',Rl m M' T'->K t T' h') ->
   (∃ c,aval [] (evO M) op=some c/\K (false,[]) (aPut T d c) h) \/
   (∃ c,aval h0 (evO M) op=some c/\HExt h0 h/\K (true,List.range h0.length) (aPut T d c) h) \/
   (∃ c need id e2,aupd h (evO M) op=some (c,need,id,e2)/\K (false,need.map (·.1)) (aPut T d c) (h.set id e2)) \/
   ∃ c ent,(aallo h.length (evO M) op=some (c,ent)\/Zcp h.length (evO M) op=some (c,ent))/\K (false,[h.length]) (aPut T d c) (h++[ent]):=by
  intro he
  split at he
  .rename_i c h1;exact⟨(fin he hx).1,λK hk=>.inl ⟨c,h1,(fin he hx).2 K hk⟩⟩
  .split at he
   .rename_i c h1
    cases hb:ext with
    | false=>rw[hb] at h1;cases h1
    | true=>rw[hb] at h1;exact⟨(fin he hx).1,λK hk=>.inr (.inl ⟨c,h1,hx hb,(fin he hx).2 K hk⟩)⟩
   .split at he
    .rename_i c need id e2 h1
     have hf:=fin he λhb=>by
      simp only[Bool.and_eq_true] at hb
      exact hext_set (e:=e2) (hx hb.1) (Nat.le_of_ble_eq_true hb.2)
     exact⟨hf.1,λK hk=>.inr (.inr (.inl ⟨c,need,id,e2,h1,hf.2 K hk⟩))⟩
    .split at he
     .rename_i c e h1
      have hf:=fin he λhb=>Zru (e:=e) (hx hb)
      exact⟨hf.1,λK hk=>.inr (.inr (.inr ⟨c,e,.inl h1,hf.2 K hk⟩))⟩
     .split at he <;> try (cases he;done)
      rename_i c e h1
      have hf:=fin he λhb=>Zru (e:=e) (hx hb)
      exact⟨hf.1,λK hk=>.inr (.inr (.inr ⟨c,e,.inr h1,hf.2 K hk⟩))⟩
 unfold austep
 rw[hR.eval]
 cases op <;> first | exact gen he | (simp only[evOpU] at he;cases he;done) | skip
 case call f xs =>
  simp only[evOpU] at he
  dsimp only
  split at he
  .rename_i c h1;exact⟨(fin he hx).1,λK hk=>.inl ⟨c,λh=>Zfp hC h1 h Zrt,(fin he hx).2 K hk⟩⟩
  .split at he
   .rename_i c h1
    cases hb:ext with
    | false=>rw[hb] at h1;cases h1
    | true =>
     rw[hb] at h1
     have hf:=fin he hx
     exact⟨hf.1,λK hk=>.inr (.inl ⟨c,Zfp hC h1,hx hb,hf.2 K hk⟩)⟩
   .split at he <;> try (cases he;done)
    rename_i e0 c h1 h2
    have hf:=fin he hx
    refine⟨hf.1,λK hk=>.inr (.inr ⟨c,Zmj h,0,e0,λh2' hn=>?_,λp hp=>Zgp.1 hp,⟨e0,Zgp.2 h1⟩,by rw[Znb h1];exact hf.2 K hk⟩)⟩
    have hxx:HExt h h2':=λi e hi=>hn (i,e) (Zgp.2 hi)
    rw[Znb (hxx 0 e0 h1)]
    exact Zfp hC h2 h2' hxx
def Zwh {C:CE}(hC:Zdn P C) {h0:AH}{K:List AV->AH->Prop} : ∀ (q:List (List Nat)) (al:List AOper) (tc:List (Bool×List Nat)) (ext:Bool) (M:TM) (T:List AV) (h:AH) (r:TM×AH),Rl m M T->(ext=true->HExt h0 h)->evU m C h0 q al tc ext M h=some r->(∀ T',Rl m r.1 T'->K T' r.2)->Zbi P h0 q al tc T h K
 | q,[],tc,ext,M,T,h,r,hR,hx,he,hr=>by simp only[evU,Option.some.injEq] at he;subst he;simp only[Zbi];exact hr _ hR
 | q,o::rest,tc,ext,M,T,h,r,hR,hx,he,hr=>by
  simp only[evU] at he
  simp only[Zbi]
  split at he <;> try (cases he;done)
  .rename_i hg
   split at he <;> try (cases he;done)
   rename_i t ext' M' h' ho
   obtain⟨h1,h2⟩:=evOpU_ok hC hR ho hx
   cases hb:(q.headD []).all (λi=>Zra (tc.getD i (false,[])) t) with
   | false=>rw[hb] at he;cases he
   | true =>
    rw[hb] at he
    rw[List.all_eq_true] at hb
    exact Ziq hR hg ⟨λ_=>h2 _ λT' hR'=>⟨λi hi=>ZvM (hb i hi),Zwh hC _ rest _ _ M' T' h' _ hR' h1 he hr⟩,λh=>by cases h⟩
  .rename_i hg
   split at he <;> try (cases he;done)
   rename_i hp
   exact Ziq hR hg ⟨λh=>(by cases h),λ_=>Zwh hC _ rest _ _ _ _ _ _ (Zed hR hp) hx he hr⟩
def ZrA (F:TM->AH->ES):Nat->TM->AH->ES
 | 0,_,_=>none
 | n+1,M,h=>match F M h with
  | some (.normal,M1,h1)=>ZrA F n M1 h1
  | r=>r
def evAC (m:Nat) (C:CE) (L:Nat):AC->TM->AH->ES
 | .skip,M,h=>some (.normal,M,h)
 | .reg al,M,h=>Zpu m C al M h
 | .drw b q t,M,h=>match evD m C h b M [] [] with
  | some (M1,ents,rs)=>match evK m C rs q t M1 (h++ents) with
   | some (M2,h2)=>some (.normal,M2,h2)
   | none=>none
  | none=>none
 | .drwU q al,M,h=>match evU m C h q al [] true M h with
  | some (M2,h2)=>some (.normal,M2,h2)
  | none=>none
 | .orPan a _ _ _ _,M,h=>evAC m C L a M h
 | .seq a b,M,h=>match evAC m C L a M h with
  | some (.normal,M1,h1)=>evAC m C L b M1 h1
  | r=>r
 | .cond c a b,M,h=>match evO M c with
  | .v (.bool true)=>evAC m C L a M h
  | .v (.bool false)=>evAC m C L b M h
  | _=>none
 | .block id a,M,h=>match evAC m C L a M h with
  | some (.exit i,M1,h1)=>bif Nat.beq i id then some (.normal,M1,h1) else some (.exit i,M1,h1)
  | r=>r
 | .loop a,M,h=>ZrA (evAC m C L a) L M h
 | .exit id,M,h=>some (.exit id,M,h)
 | .ret,M,h=>some (.ret,M,h)
def evN_ax {M:TM}{d:Option Nat}{c:AV}{h:AH}{r:AX×TM×AH}(he:evN m M d c h=some r):r.1=.normal:=by
 unfold evN at he
 split at he <;> cases he;rfl
def Zms {C:CE} : ∀ (al:List AOper) (M:TM) (h:AH) (r:AX×TM×AH),Zpu m C al M h=some r->r.1=.normal \/ ∃ c,r.1=.pan c
 | [],M,h,r,he=>by cases he;exact .inl rfl
 | o::rest,M,h,r,he=>by
  simp only[Zpu] at he
  split at he <;> try (cases he;done)
  .split at he
   .exact Zms rest _ _ r he
   .unfold evOp at he
    repeat' (split at he)
    all_goals first | exact .inl (evN_ax he) | (cases he;done) | (cases he;exact .inr ⟨_,rfl⟩)
  .split at he <;> try (cases he;done)
   exact Zms rest _ _ r he
def Zpw {C:CE}(hC:Zdn P C) {n0 L:Nat} : ∀ (a:AC) (M:TM) (T:List AV) (h:AH) (r:AX×TM×AH) (Q:AX->List AV->AH->Prop),Rl m M T->evAC m C L a M h=some r->(∀ T',Rl m r.2.1 T'->Q r.1 T' r.2.2)->aw P n0 a Q T h:=by
 intro a
 induction a with
 | skip=>intro M T h r Q hR he hq;cases he;exact hq _ hR
 | reg al =>
  intro M T h r Q hR he hq
  refine Zmr hC al M T h r hR he ?_
  obtain⟨x,M',h'⟩:=r
  rcases Zms al M h _ he with e | ⟨c,e⟩ <;> (simp only at e;subst e;exact hq)
 | drw b q t =>
  intro M T h r Q hR he hq
  simp only[evAC] at he
  split at he <;> try (cases he;done)
  rename_i M1 ents rs h1
  split at he <;> cases he
  rename_i M2 h2 h3
  exact⟨rs,(Zwo hC _ _ _ _ _ _ hR h1).2 rs _ (λ_ h=>h) λT' hR'=>Zwm hC _ _ _ _ _ _ hR' h3 hq⟩
 | drwU q al =>
  intro M T h r Q hR he hq
  simp only[evAC] at he
  split at he <;> cases he
  rename_i M2 h2 h3
  exact Zwh hC _ _ _ _ _ _ _ _ hR (λ_ i x hi=>hi) h3 hq
 | orPan a x f al d0 ih=>intro M T h r Q hR he hq;exact .inl (ih M T h r Q hR he hq)
 | seq a b iha ihb =>
  intro M T h r Q hR he hq
  simp only[evAC] at he
  split at he
  .rename_i M1 h1 h2
   exact iha M T h _ _ hR h2 λT1 hR1=>⟨T1,h1,ALe.refl,ihb M1 T1 h1 r Q hR1 he hq⟩
  .rename_i hne
   refine iha M T h _ _ hR he ?_
   obtain⟨x,M',h'⟩:=r
   cases x
   .exact (hne M' h' he).elim
   all_goals exact hq
 | cond c a b iha ihb =>
  intro M T h r Q hR he hq
  simp only[evAC] at he
  simp only[aw]
  rw[hR.eval]
  split at he <;> try (cases he;done)
  .rename_i hc;rw[hc];exact⟨λ_=>iha M T h r Q hR he hq,λh=>by cases h⟩
  .rename_i hc;rw[hc];exact⟨λh=>(by cases h),λ_=>ihb M T h r Q hR he hq⟩
 | block id a ih =>
  intro M T h r Q hR he hq
  simp only[evAC] at he
  split at he
  .rename_i i M1 h1 h2
   refine ih M T h _ _ hR h2 λT' hR'=>?_
   simp only[AX.blk]
   simp only[Zw5] at he
   by_cases hi:i=id
   .simp only[hi,decide_true,cond_true] at he;cases he;rw[if_pos hi];exact hq _ hR'
   .simp only[hi,decide_false,cond_false] at he;cases he;rw[if_neg hi];exact hq _ hR'
  .rename_i hne
   refine ih M T h _ _ hR he ?_
   obtain⟨x,M',h'⟩:=r
   cases x
   case exit i=>exact (hne i M' h' he).elim
   all_goals exact hq
 | loop a ih =>
  intro M T h r Q hR he hq
  simp only[evAC] at he
  refine⟨λn T h => ∃ M,Rl m M T/\ZrA (evAC m C L a) n M h=some r,L,⟨T,h,ALe.refl,M,hR,he⟩,?_⟩
  rintro n T h ⟨M,hR,hn⟩
  cases n with
  | zero=>cases hn
  | succ k =>
   simp only[ZrA] at hn
   split at hn
   .rename_i M1 h1 h2
    exact ih M T h _ _ hR h2 λT1 hR1=>⟨k,Nat.lt_succ_self k,T1,h1,ALe.refl,M1,hR1,hn⟩
   .rename_i hne
    refine ih M T h _ _ hR hn ?_
    obtain⟨x,M',h'⟩:=r
    cases x
    .exact (hne M' h' hn).elim
    all_goals exact hq
 | exit id=>intro M T h r Q hR he hq;cases he;exact hq _ hR
 | ret=>intro M T h r Q hR he hq;cases he;exact hq _ hR
end
def tmIn:List AV->Nat->TM->TM
 | [],_,M=>M
 | c::cs,i,M=>tmIn cs (i+1) (TM.put c (pth i) M)
def ZqE : ∀ (cs:List AV) (i:Nat) (M:TM) (j:Nat),i+cs.length<=4095->(tmIn cs i M).get (pth j)=if i<=j/\j<i+cs.length then (cs[j-i]?).getD .any else M.get (pth j)
 | [],i,M,j,h=>by simp only[tmIn,List.length_nil];rw[if_neg om]
 | c::cs,i,M,j,h=>by
  simp only[List.length_cons] at h ⊢
  rw[tmIn,ZqE cs (i+1) _ j om,TM.get_put]
  by_cases hj:j=i
  .subst hj
   rw[if_neg om,if_pos rfl,if_pos om];simp
  .rw[if_neg (pth_ne om hj)]
   by_cases h1:i+1<=j/\j<i+1+cs.length
   .rw[if_pos h1,if_pos om,show j-i=j-(i+1)+1 by omega];rfl
   .rw[if_neg h1,if_neg om]
def tmIn_rl {args:List AV}{m:Nat}(h1:args.length<=m) (h2:args.length<=4095):Rl m (tmIn args 0 .leaf) (args++List.replicate (m-args.length) .any):=by
 refine⟨by simp;omega,λi=>?_⟩
 rw[ZqE args 0 .leaf i om]
 by_cases hi:i<args.length
 .rw[if_pos om,List.getElem?_append_left hi];rfl
 .rw[if_neg om,List.getElem?_append_right om,List.getElem?_replicate]
  split <;> rfl
def evR1 (m:Nat) (M:TM) (h:AH):AR->Option AV
 | .tmp t=>bif Nat.blt t m then some (M.get (pth t)) else none
 | .cell t agg sz=>match Zcx h (M.get (pth t)) with
  | some cs=>Zcm agg sz cs
  | none=>none
def evR1_ok {m:Nat}{M:TM}{T:List AV}(hR:Rl m M T) {h:AH} : ∀ {r:AR}{c:AV},evR1 m M h r=some c->Zff T h r=some c
 | .tmp t,c,he=>by
  simp only[evR1] at he
  cases hb:Nat.blt t m with
  | false=>rw[hb] at he;cases he
  | true =>
   rw[hb] at he
   cases he
   rw[Nat.blt_eq] at hb
   have:=hR.get t
   rw[List.getElem?_eq_getElem (by rw[hR.len];exact hb)] at this
   simp only[Zff]
   rw[List.getElem?_eq_getElem (by rw[hR.len];exact hb),<-this];rfl
 | .cell t agg sz,c,he=>by
  simp only[evR1] at he
  split at he <;> try (cases he;done)
  rename_i cs hc
  have hg:=hR.get t
  simp only[Zff]
  cases hT:T[t]? with
  | none=>rw[hT] at hg;rw[<-hg] at hc;cases hc
  | some p =>
   rw[hT] at hg
   rw[show p=M.get (pth t) from hg]
   simp only[hc,Option.bind_some];exact he
def evRs (m:Nat) (M:TM) (h:AH):List AR->Option (List AV)
 | []=>some []
 | r::rs=>match evR1 m M h r,evRs m M h rs with
  | some c,some cs=>some (c::cs)
  | _,_=>none
def Zwj {m:Nat}{M:TM}{T:List AV}(hR:Rl m M T) {h:AH} : ∀ {rs:List AR}{cs:List AV},evRs m M h rs=some cs->rs.mapM (Zff T h)=some cs
 | [],cs,he=>by cases he;rfl
 | r::rs,cs,he=>by
  simp only[evRs] at he
  split at he <;> cases he
  rename_i h1 h2
  rw[List.mapM_cons,evR1_ok hR h1,Zwj hR h2];rfl
def Zwi:List AV->AV
 | [c]=>c
 | cs=>.tup cs
def Zry {m:Nat}{M:TM}{T:List AV}(hR:Rl m M T) {h:AH}{rs:List AR}{cs:List AV}(he:evRs m M h rs=some cs):aRes rs T h=some (Zwi cs):=by
 unfold aRes
 rw[Zwj hR he]
 match cs with
 | [c]=>rfl
 | []=>rfl
 | c::d::cs=>rfl
def evFin (n:Nat) (r:AV) (h:AH):Option (AE×AH):=bif Nat.ble n h.length&&(h.take n).all (Ent.lt n) then (match r.frz h n 100000 with
 | some d=>some (.ret d,h.take n)
 | none=>some (.ret r,h)) else some (.ret r,h)
def ZrB {f:FuncId}{args:List AV}{h h1:AH}{r:AV}{x:AE}{h2:AH}(hc:ACalls P f args h λy z=>z=h1/\y=.ret r) (he:evFin h.length r h1=some (x,h2)):ACalls P f args h λy z=>z=h2/\y=x:=by
 unfold evFin at he
 cases hb:Nat.ble h.length h1.length&&(h1.take h.length).all (Ent.lt h.length) with
 | false=>rw[hb] at he;cases he;exact hc
 | true =>
  rw[hb] at he
  simp only[cond_true] at he
  simp only[Bool.and_eq_true] at hb
  split at he <;> cases he
  .rename_i d hd;exact hc.frz (Nat.le_of_ble_eq_true hb.1) hb.2 hd
  .exact hc
def evEnd (af:AF) (n:Nat) (r:ES):Option (AE×AH):=match r with
 | some (.normal,M,h1)=>match evRs af.ntmps M h1 af.res with
  | some cs=>evFin n (Zwi cs) h1
  | none=>none
 | some (.ret,M,h1)=>match evRs af.ntmps M h1 af.res with
  | some cs=>evFin n (Zwi cs) h1
  | none=>none
 | some (.pan c,_,h1)=>some (.pan c,h1)
 | _=>none
def evRun (C:CE) (L:Nat) (args:List AV) (h:AH):Option AF->Option (AE×AH)
 | some af=>bif Nat.ble args.length af.ntmps&&Nat.ble args.length 4095 then evEnd af h.length (evAC af.ntmps C L af.code (tmIn args 0 .leaf) h) else none
 | none=>none
def Zrx {C:CE}(hC:Zdn P C) {L:Nat}{f:FuncId}{args:List AV}{h:AH}{o:Option AF}(ho : ∀ af,o=some af -> ∀ {R:AE->AH->Prop},aw P h.length af.code (retA af.res R) (args++List.replicate (af.ntmps-args.length) .any) h->ACalls P f args h R) {x:AE}{h1:AH}(he:evRun C L args h o=some (x,h1)):ACalls P f args h λy k=>k=h1/\y=x:=by
 unfold evRun at he
 split at he <;> try (cases he;done)
 rename_i af
 have hf := @ho af rfl
 cases hb:Nat.ble args.length af.ntmps&&Nat.ble args.length 4095 with
 | false=>rw[hb] at he;cases he
 | true =>
  rw[hb] at he
  simp only[cond_true] at he
  simp only[Bool.and_eq_true] at hb
  have hR:=tmIn_rl (Nat.le_of_ble_eq_true hb.1) (Nat.le_of_ble_eq_true hb.2)
  unfold evEnd at he
  split at he
  .rename_i M h2 hr
   split at he <;> try (cases he;done)
   rename_i cs ha
   refine ZrB (h1:=h2) (r:=Zwi cs) (hf (Zpw hC _ _ _ _ _ _ hR hr λT' hR'=>?_)) he
   show retA _ _ _ _ _
   simp only[retA,Zry hR' ha,and_self]
  .rename_i M h2 hr
   split at he <;> try (cases he;done)
   rename_i cs ha
   refine ZrB (h1:=h2) (r:=Zwi cs) (hf (Zpw hC _ _ _ _ _ _ hR hr λT' hR'=>?_)) he
   show retA _ _ _ _ _
   simp only[retA,Zry hR' ha,and_self]
  .rename_i c M h2 hr
   cases he
   exact hf (Zpw hC _ _ _ _ _ _ hR hr λT' hR'=>⟨rfl,rfl⟩)
  .cases he
def evF (P:Program) (O:CE) (L:Nat):Nat->CE
 | 0=>λ_ _ _=>none
 | k+1=>λf args h=>match O f args h with
  | some r=>some r
  | none=>match evRun (evF P O L k) L args h (ZbT P f) with
   | some r=>some r
   | none=>evRun (evF P O L k) L args h (Zfw P none f)
def Zwn {O:CE}(hO:Zdn P O) {L:Nat} : ∀ k,Zdn P (evF P O L k)
 | 0=>λf args h x h1 he=>by cases he
 | k+1=>λf args h x h1 he=>by
  simp only[evF] at he
  split at he
  .rename_i r hr;cases he;exact hO _ _ _ _ _ hr
  .split at he
   .rename_i r hr;cases he;exact Zrx (Zwn hO k) (λaf hf=>ACalls.of_aw hf) hr
   .exact Zrx (Zwn hO k) (λaf hf=>ACalls.of_awU hf) he
def noO:CE:=λ_ _ _=>none
def noO_ok:Zdn P noO:=λ_ _ _ _ _ he=>by cases he
def orc (f:FuncId) (args:List AV) (c:AV):CE:=λf' ats h=>bif Nat.beq f' f&&AV.eqbL ats args then some (.ret c,h) else none
def orc_ok {f:FuncId}{args:List AV}{c:AV}(hc : ∀ h,ACalls P f args h λy z=>z=h/\y=.ret c):Zdn P (orc f args c):=λf' ats h x h1 he=>by
 unfold orc at he
 cases hb:Nat.beq f' f&&AV.eqbL ats args with
 | false=>rw[hb] at he;cases he
 | true =>
  rw[hb] at he
  cases he
  simp only[Bool.and_eq_true] at hb
  have e1:=Nat.eq_of_beq_eq_true hb.1
  have e2:=AV.eqbL_eq hb.2
  subst e1 e2
  exact hc h
def ACalls.ev {f:FuncId}{args:List AV}{c:AV}{O:CE}{h:AH}(L k:Nat) (hO:Zdn P O) (he:evF P O L k f args []=some (.ret c,[])) (hl:AV.ltL 0 args=true:=by rfl) (hc:c.lt 0=true:=by rfl):ACalls P f args h λy z=>z=h/\y=.ret c :=
 ACalls.frame h (Zwn hO k _ _ _ _ _ he) rfl hc hl (λ_ h=>by cases h)
end
end
end Go.Ab
section
namespace Go.Proofs.YthmgnolcfjiicaaGreatDoor
namespace Civ
def Zkr (y:Int):Bool:=y%4==0&&(y%100 != 0||y%400==0)
def lp (y:Int):Int:=if Zkr y then 1 else 0
def bef (y:Int):Int:=365*(y-1)+(y-1)/4-(y-1)/100+(y-1)/400
def mlen (y m:Int):Int :=
 if m=2 then 28+lp y else if m=4 then 30 else if m=6 then 30 else if m=9 then 30 else if m=11 then 30 else 31
def cum (y m:Int):Int:=if m<=2 then 31*(m-1) else 59+lp y+(153*(m-3)+2)/5
def num (y m d:Int):Int:=bef y-719162+d-1+cum y m
def Zbx (y m d:Int):Bool:=decide (1<=y)&&decide (y<=9999)&&decide (1<=m)&&decide (m<=12)&&decide (1<=d)&&decide (d<=mlen y m)
def ZbW {y m d:Int}:Zbx y m d=true↔1<=y/\y<=9999/\1<=m/\m<=12/\1<=d/\d<=mlen y m:=by
 simp[Zbx,and_assoc]
def lp_iff (y:Int):lp y=if y%4=0/\(y%100≠0\/y%400=0) then 1 else 0:=by
 unfold lp Zkr
 congr 1
 simp
def Zpc (y:Int):0<=lp y/\lp y<=1:=by unfold lp;split <;> omega
def ZfP (y:Int):bef (y+1)=bef y+365+lp y:=by
 rw[lp_iff];unfold bef;split <;> omega
def Ze2 {a b:Int}(h:a<=b):bef a<=bef b:=by unfold bef;omega
def ZmD {a b:Int}(h:a<b):bef a+365<=bef b:=by unfold bef;omega
def bef_bd {y:Int}(h0:1<=y) (h:y<=20000):0<=bef y/\bef y<=8000000:=by unfold bef;omega
def bef_1970:bef 1970=719162:=by decide
def bef_1:bef 1=0:=by decide
def Zdl:bef 10000=3652059:=by decide
def Zds (y m:Int):28<=mlen y m/\mlen y m<=31:=by
 have:=Zpc y;unfold mlen;split <;> (try split) <;> (try split) <;> (try split) <;> (try split) <;> omega
def ZgX {y m:Int}(h1:1<=m) (h2:m<=12):cum y (m+1)=cum y m+mlen y m:=by
 have:m=1\/m=2\/m=3\/m=4\/m=5\/m=6\/m=7\/m=8\/m=9\/m=10\/m=11\/m=12:=by omega
 rcases this with h | h | h | h | h | h | h | h | h | h | h | h <;> subst h <;> simp[cum,mlen] <;> omega
def Zwz (y:Int):cum y 1=0:=by simp[cum]
def Zwy (y:Int):cum y 13=365+lp y:=by simp[cum];omega
def ZnY {y m:Int}(h1:1<=m) (h2:m<=13):0<=cum y m/\cum y m<=366:=by
 have:=Zpc y;unfold cum;split <;> omega
def cum_le {y a b:Int}(h1:1<=a) (h:a<=b):cum y a<=cum y b:=by
 have:=Zpc y;unfold cum;split <;> split <;> omega
def ZrL {y a b:Int}(h1:1<=a) (h:a<b) (h2:b<=13):cum y a+mlen y a<=cum y b:=by
 rw[<-ZgX (y:=y) h1 om]
 exact cum_le om om
def Zmh {y m d:Int}(h:Zbx y m d=true):bef y<=num y m d+719162/\num y m d+719162<bef (y+1):=by
 rw[ZbW] at h
 have hs:=ZfP y
 have hc:=ZnY (y:=y) (m:=m) om om
 have:cum y m+mlen y m<=365+lp y:=by rw[<-Zwy];exact ZrL h.2.2.1 om om
 unfold num;omega
def Znw {y m d:Int}(h:Zbx y m d=true) : -719162<=num y m d/\num y m d<=2932896:=by
 have h1:=Zmh h
 rw[ZbW] at h
 have a:=Ze2 (a:=1) (b:=y) om
 have b:=Ze2 (a:=y+1) (b:=10000) om
 rw[bef_1] at a;rw[Zdl] at b;omega
def Zjh {y m d y' m' d':Int}(h:Zbx y m d=true) (h':Zbx y' m' d'=true) (hl:y<y'):num y m d<num y' m' d':=by
 have a:=Zmh h;have b:=Zmh h'
 have c:=Ze2 (a:=y+1) (b:=y') om;omega
def Zil {y m d m' d':Int}(h:Zbx y m d=true) (h':Zbx y m' d'=true) (hl:m<m'):num y m d<num y m' d':=by
 rw[ZbW] at h h'
 have:=ZrL (y:=y) h.2.2.1 hl om
 unfold num;omega
def Zk0 {y m d y' m' d':Int}(h:Zbx y m d=true) (h':Zbx y' m' d'=true) :
  num y m d<num y' m' d'↔y<y'\/y=y'/\(m<m'\/m=m'/\d<d'):=by
 constructor
 .intro hlt
  rcases Int.lt_trichotomy y y' with a | a | a
  .exact .inl a
  .subst a
   rcases Int.lt_trichotomy m m' with b | b | b
   .exact .inr ⟨rfl,.inl b⟩
   .subst b;refine .inr ⟨rfl,.inr ⟨rfl,?_⟩⟩;unfold num at hlt;omega
   .have:=Zil h' h b;omega
  .have:=Zjh h' h a;omega
 .rintro (a | ⟨rfl,a | ⟨rfl,a⟩⟩)
  .exact Zjh h h' a
  .exact Zil h h' a
  .unfold num;omega
def num_inj {y m d y' m' d':Int}(h:Zbx y m d=true) (h':Zbx y' m' d'=true) (he:num y m d=num y' m' d'):y=y'/\m=m'/\d=d':=by
 have a:=(Zk0 h h').2;have b:=(Zk0 h' h).2
 rcases Int.lt_trichotomy y y' with c | c | c
 .have:=a (.inl c);omega
 .subst c
  rcases Int.lt_trichotomy m m' with c | c | c
  .have:=a (.inr ⟨rfl,.inl c⟩);omega
  .subst c;unfold num at he;exact⟨rfl,rfl,by omega⟩
  .have:=b (.inr ⟨rfl,.inl c⟩);omega
 .have:=b (.inl c);omega
def yrUp:Nat->Int->Int->Int
 | 0,_,y=>y
 | k+1,n,y=>if bef (y+1)<=n then yrUp k n (y+1) else y
def moUp:Nat->Int->Int->Int->Int×Int
 | 0,_,m,r=>(m,r)
 | k+1,y,m,r=>if mlen y m<=r then moUp k y (m+1) (r-mlen y m) else (m,r)
def yrOf (days:Int):Int:=yrUp 60 (days+719162) ((days+719162)/366+1)
def Zbn (days:Int):Int×Int×Int :=
 let y:=yrOf days
 let p:=moUp 12 y 1 (days+719162-bef y)
 (y,p.1,p.2+1)
def ZmR : ∀ (k:Nat) (n y:Int),bef y<=n->n<bef y+365*(k:Int)+365->bef (yrUp k n y)<=n/\n<bef (yrUp k n y+1)
 | 0,n,y,h1,h2=>by
  simp only[yrUp]
  have:=ZfP y;have:=Zpc y
  exact⟨h1,by simp at h2;omega⟩
 | k+1,n,y,h1,h2=>by
  simp only[yrUp]
  split
  .rename_i h
   refine ZmR k n (y+1) h ?_
   have:=ZmD (a:=y) (b:=y+1) om
   simp only[Int.natCast_add,Int.cast_ofNat_Int] at h2;omega
  .exact⟨h1,by omega⟩
def Zrv {n:Int}(h0:0<=n):bef (n/366+1)<=n:=by unfold bef;omega
def Zk6 {n:Int}(h0:0<=n) (h1:n<=3652058):n<bef (n/366+1)+365*60:=by unfold bef;omega
def ZmS {days:Int}(h0 : -719162<=days) (h1:days<=2932896):bef (yrOf days)<=days+719162/\days+719162<bef (yrOf days+1):=by
 refine ZmR 60 _ _ (Zrv om) ?_
 have:=Zk6 (n:=days+719162) om om
 simp;omega
def Znz (y:Int) : ∀ (k:Nat) (m r:Int),1<=m->m+k=13->0<=r->cum y m+r<365+lp y ->
  1<=(moUp k y m r).1/\(moUp k y m r).1<=12/\0<=(moUp k y m r).2/\(moUp k y m r).2<mlen y (moUp k y m r).1/\cum y (moUp k y m r).1+(moUp k y m r).2=cum y m+r
 | 0,m,r,h1,h2,h3,h4=>by
  have:m=13:=by simpa using h2
  subst this;rw[Zwy] at h4;omega
 | k+1,m,r,h1,h2,h3,h4=>by
  simp only[Int.natCast_add,Int.cast_ofNat_Int] at h2
  have hs:=ZgX (y:=y) (m:=m) h1 om
  simp only[moUp]
  split
  .rename_i h
   have ih:=Znz y k (m+1) (r-mlen y m) om om om om
   omega
  .exact⟨h1,by omega,h3,by show r<mlen y m;omega,rfl⟩
def Zgs {days:Int}(h0 : -719162<=days) (h1:days<=2932896) :
  Zbx (Zbn days).1 (Zbn days).2.1 (Zbn days).2.2=true/\num (Zbn days).1 (Zbn days).2.1 (Zbn days).2.2=days:=by
 have hy:=ZmS h0 h1
 have hs:=ZfP (yrOf days)
 have hm:=Znz (yrOf days) 12 1 (days+719162-bef (yrOf days)) om om om (by rw[Zwz];omega)
 rw[Zwz] at hm
 rw[ZbW]
 have y1:1<=yrOf days:=by
  rcases Int.lt_or_le (yrOf days) 1 with c | c
  .have:=Ze2 (a:=yrOf days+1) (b:=1) om;rw[bef_1] at this;omega
  .exact c
 have y2:yrOf days<=9999:=by
  rcases Int.lt_or_le 9999 (yrOf days) with c | c
  .have:=Ze2 (a:=10000) (b:=yrOf days) om;rw[Zdl] at this;omega
  .exact c
 unfold Zbn num
 dsimp only
 refine⟨⟨y1,y2,hm.1,hm.2.1,by omega,by omega⟩,by omega⟩
def ZsC {y m d:Int}(h:Zbx y m d=true):Zbn (num y m d)=(y,m,d):=by
 have hb:=Znw h
 have hs:=Zgs hb.1 hb.2
 obtain⟨a,b,c⟩:=num_inj hs.1 h hs.2
 ext <;> simp[a,b,c]
def Zww {days y m d:Int}(h:Zbx y m d=true) (hn:num y m d=days):Zbn days=(y,m,d):=by
 rw[<-hn];exact ZsC h
def wd (n:Int):Int:=(n+4)%7
def wd_bd (n:Int):0<=wd n/\wd n<=6:=by unfold wd;omega
def Zr1 (n:Int):n.tmod 7=if 0<=n then n%7 else -((-n)%7):=by
 split
 .rename_i h;exact Int.tmod_eq_emod_of_nonneg h
 .rename_i h
  have:n = - (-n):=by omega
  rw[this,Int.neg_tmod,Int.tmod_eq_emod_of_nonneg om];simp
def wd_go (n:Int):(((n.tmod 7+4).tmod 7)+7).tmod 7=wd n:=by
 simp only[Zr1,wd]
 repeat' split
 all_goals omega
end Civ
end Go.Proofs.YthmgnolcfjiicaaGreatDoor
namespace Go.Proofs.YthmgnolcfjiicaaGreatDoor
def wi (n a b:Int):Bool:=decide (a<=n)&&decide (n<=b)
end Go.Proofs.YthmgnolcfjiicaaGreatDoor
end
namespace Go.Proofs.YthmgnolcfjiicaaGreatDoor
open Go.Ab
variable {k:Nat}
section
open Civ
def letB (n:Int):Bool:=decide (97<=n/\n<=122\/65<=n/\n<=90)
def digB (n:Int):Bool:=decide (48<=n/\n<=57)
def ZbV (n:Int):Bool:=letB n||digB n||n==43||n==45
def allB (p:Int->Bool) (s:ByteArray):Bool:=s.data.toList.all λc=>p c.toNat
def ZpR {p:Int->Bool}{s:ByteArray}(hk:k<s.size) (h:p s[k].toNat=false):allB p s=false:=by
 unfold allB
 rw[List.all_eq_false]
 refine⟨s[k],?_,by simpa using h⟩
 have:s[k]=s.data.toList[k]'(by simpa using hk):=rfl
 rw[this];exact List.getElem_mem _
def ZmG {p:Int->Bool}{s:ByteArray}(h : ∀ k (hk:k<s.size),p s[k].toNat=true):allB p s=true:=by
 unfold allB
 rw[List.all_eq_true]
 intro x hx
 obtain⟨i,hi,rfl⟩:=List.getElem_of_mem hx
 exact h i (by simpa using hi)
abbrev Loc:=Int×Int×ByteArray
abbrev Chg:=Int×Loc
abbrev Tab:=Loc×List Chg
def locE (l:Loc):Int :=
 if ¬(-75600<=l.1/\l.1<=75600)\/¬(0<=l.2.1/\l.2.1<=10800) then 3
 else if l.2.2.size=0\/24<l.2.2.size\/allB ZbV l.2.2=false then 1 else 0
def Zgh (a:Int):Bool:=wi a (-62135596800) 253402300799
def Zsr (a b:Loc):Bool:=a.1==b.1&&(a.2.1==b.2.1&&a.2.2.toList==b.2.2.toList)
def ZwZ {a b:ByteArray}:a.toList=b.toList↔a=b:=by
 constructor
 .intro h
  rw[ByteArray.toList_eq,ByteArray.toList_eq] at h
  obtain⟨⟨x⟩⟩:=a;obtain⟨⟨y⟩⟩:=b
  simpa using h
 .intro h;rw[h]
def ZgP {a b:Loc}:Zsr a b=true↔a=b:=by
 obtain⟨a1,a2,a3⟩:=a;obtain⟨b1,b2,b3⟩:=b
 unfold Zsr
 simp[ZwZ]
def ZiU {a b:Loc}(h:a≠b):Zsr a b=false:=by rw[<-Bool.not_eq_true];exact λe=>h (ZgP.1 e)
def chk:Int->Loc->List Chg->Int
 | _,_,[]=>0
 | a,l,c::cs=>if Zgh c.1=false then 3 else if c.1<=a then 4 else if locE c.2≠0 then locE c.2 else if Zsr c.2 l=true then 4 else chk c.1 c.2 cs
def Za3 (t:Tab):Int:=if 1000<t.2.length then 2 else if locE t.1≠0 then locE t.1 else chk (-62135596801) t.1 t.2
def Zv2 {l:Loc}(h:locE l=0):(-75600<=l.1/\l.1<=75600)/\(0<=l.2.1/\l.2.1<=10800)/\0<l.2.2.size/\l.2.2.size<=24/\allB ZbV l.2.2=true:=by
 unfold locE at h
 split at h
 .omega
 .split at h
  .omega
  .rename_i h1 h2
   have:allB ZbV l.2.2=true:=by
    cases ha:allB ZbV l.2.2
    .exact absurd (.inr (.inr ha)) h2
    .rfl
   exact⟨by omega,by omega,by omega,by omega,this⟩
def Zm0 {a:Int}:Zgh a=true ↔ -62135596800<=a/\a<=253402300799:=by unfold Zgh wi;simp
def ZwN (a:Int) (l:Loc):chk a l []=0:=rfl
def Ze0 {a:Int}{l:Loc}{c:Chg}{cs:List Chg}(h1:Zgh c.1=true) (h2:a<c.1) (h3:locE c.2=0) (h4:Zsr c.2 l=false):chk a l (c::cs)=chk c.1 c.2 cs:=by
 rw[chk,if_neg (by rw[h1];simp),if_neg om,if_neg (by simp[h3]),if_neg (by rw[h4];simp)]
def Zlc {a:Int}{l:Loc}{c:Chg}{cs:List Chg}(h1:Zgh c.1=false):chk a l (c::cs)=3:=by
 rw[chk,if_pos h1]
def Zlb {a:Int}{l:Loc}{c:Chg}{cs:List Chg}(h1:Zgh c.1=true) (h2:c.1<=a):chk a l (c::cs)=4:=by
 rw[chk,if_neg (by rw[h1];simp),if_pos h2]
def ZhI {a:Int}{l:Loc}{c:Chg}{cs:List Chg}(h1:Zgh c.1=true) (h2:a<c.1) (h3:locE c.2≠0):chk a l (c::cs)=locE c.2:=by
 rw[chk,if_neg (by rw[h1];simp),if_neg om,if_pos h3]
def ZhH {a:Int}{l:Loc}{c:Chg}{cs:List Chg}(h1:Zgh c.1=true) (h2:a<c.1) (h3:locE c.2=0) (h4:Zsr c.2 l=true):chk a l (c::cs)=4:=by
 rw[chk,if_neg (by rw[h1];simp),if_neg om,if_neg (by simp[h3]),if_pos h4]
end
section
open Go.Ab Civ
section
def ZlN {a0 a1 a2 a3:AV}{l:List AV}:(a0::a1::a2::a3::l).take 4=[a0,a1,a2,a3]:=rfl
def ZmQ {a0 b0:Int}{a1 b1:Int}{a2 b2:Int}{a3 b3:ByteArray}:Za7 [.int,.int,.int,.str] [iv a0,iv a1,iv a2,sv a3] [iv b0,iv b1,iv b2,sv b3]=some (decide (a0=b0/\a1=b1/\a2=b2/\a3=b3)):=by
 simp only[Za7,ZcY,if_true,ZbP,Option.some.injEq]
 simp only[Bool.decide_and,Bool.and_true]
 try (congr 1 <;> simp)
 try rfl
end
def c107:AC:=(Sr [Mc 4 0] (Sr [Mc 5 0] (.seq (.block 0 (.loop (.seq (Sd [Mv 6 5,Mv 7 0,Oo 8 (.len false (t 7)),Bn 9 .lss 6 8,Mv 10 9,Ot 11 10 (mt 5),Ot 12 10 (mt 1),Ot 13 10 (.len false (t 12)),Ot 14 10 (.bin .lss (t 11) (t 13)),Oo 15 (.pick (t 10) (t 14) (.const (.bool false))),Mv 16 15,Ot 17 16 (mt 0),Ot 18 16 (mt 5),Ot 19 16 (.ia 4 (t 17) (t 18)),Ot 20 16 (.load true 4 (t 19)),Ot 21 16 (mt 1),Ot 22 16 (mt 5),Ot 23 16 (.ia 4 (t 21) (t 22)),Ot 24 16 (.load true 4 (t 23)),Ot 25 16 (.eqs false [.int,.int,.int,.str] (t 20) (t 24)),Oo 26 (.pick (t 16) (t 25) (.const (.bool false)))] (Cd 26 .skip (.exit 0))) (.block 1 (.reg [Mv 27 5,Bc 28 .add 27 1,Mv 5 28]))))) (Sr [Mv 29 5,Mv 4 29] .ret))))
def k107:ZbT Tryz.prog 107=some ⟨c107,[(.tmp 4)],30⟩:=by kernel_rfl
abbrev chgC (c:Chg):List AV:=[iv c.1,iv c.2.1,iv c.2.2.1,sv c.2.2.2]
def Zbl {n:Nat}(l:List Chg):AV.ltL n (rows chgC l)=true:=ZcV (λ_ _=>rfl) l
attribute [local simp] Zbl
def Zef (l:List Chg):(rows chgC l).all leaf=true:=ZdU (λ_=>rfl) l
def ZaT : ∀ x,(chgC x).length=4:=λ_=>rfl
def Za1 (l:List Chg):(rows chgC l).length=l.length*4:=Zbp ZaT l
abbrev chS (l:List Chg):AV:=.sl l.length 4 false (rows chgC l)
abbrev tabA (t:Tab):AV:=.agg [iv t.1.1,iv t.1.2.1,sv t.1.2.2,chS t.2]
def com:List Chg->List Chg->Nat
 | a::l,b::m=>if a=b then com l m+1 else 0
 | _,_=>0
def ZwC : ∀ l m,com l m<=l.length/\com l m<=m.length
 | a::l,b::m=>by
  have:=ZwC l m
  unfold com
  split <;> simp <;> omega
 | [],_=>by simp[com]
 | _::_,[]=>by simp[com]
def ZmA {l m:List Chg}(h1:k<l.length) (h2:k<m.length) (h:l[k]=m[k]):com (l.drop k) (m.drop k)=com (l.drop (k+1)) (m.drop (k+1))+1:=by
 rw[List.drop_eq_getElem_cons h1,List.drop_eq_getElem_cons h2,com,if_pos h]
def ZdE {l m:List Chg}(h1:k<l.length) (h2:k<m.length) (h:l[k]≠m[k]):com (l.drop k) (m.drop k)=0:=by
 rw[List.drop_eq_getElem_cons h1,List.drop_eq_getElem_cons h2,com,if_neg h]
def ZeZ {l m:List Chg}(h:l.length<=k\/m.length<=k):com (l.drop k) (m.drop k)=0:=by
 rcases h with h | h
 .rw[List.drop_eq_nil_of_le h];rfl
 rw[List.drop_eq_nil_of_le h];cases l.drop k <;> rfl
def ZjH {a b:Chg}(h:a.1=b.1/\a.2.1=b.2.1/\a.2.2.1=b.2.2.1/\a.2.2.2=b.2.2.2):a=b:=by
 obtain⟨a1,a2,a3,a4⟩:=a;obtain⟨b1,b2,b3,b4⟩:=b;simp at h ⊢;exact h
def common_a (l m:List Chg) (h:AH):Ac 107 [chS l,chS m] h (iv (com l m)):=by
 refine tI' k107 λN hn _ _ hbd=>?_
 simp only[tb'] at hbd ⊢
 refine wk'<|wk'<|Zab<|Zag<|?_
 refine w_lp (ι:=Nat) (λ(k:Nat)=>[(5,iv (k:Int))]++rn' 6 23) (λ(k:Nat)=>[]) (λ(k:Nat)=>k<=l.length/\k<=m.length/\com l m=k+com (l.drop k) (m.drop k)) (λ(k:Nat)=>l.length-k) (0) (by refine⟨by omega,by omega,by simp⟩) ?_
 rintro k hi1
 try simp only[sm',Nat.reduceAdd]
 obtain⟨hk1,hk2,hkc⟩:=hi1
 refine Zab<|Zab<|ZaD<|Dw vm<|Dw vm<|Dw (Zaz lk)<|Dw (ZaJ lk lk)<|Dw vm<|?_
 refine dq' (t:=10) gt pt pt (λhg10=>?_) (λhg10=>?_)
 .refine dO<|Dw vm<|dO<|Dw vm<|dO<|Dw (Zaz lk)<|dO<|Dw (ZaJ lk lk)<|Dw (Zaj lk lk)<|Dw vm<|?_
  refine dq' (t:=16) gt pt pt (λhg16=>?_) (λhg16=>?_)
  .refine dO<|Dw vm<|dO<|Dw vm<|dO<|?_
   refine D' (ZaE lk lk (λ_=>rfl) nb ro om ro rfl) pt ?_
   refine dO<|Dw (Zar lk ZlN rfl)<|dO<|Dw vm<|dO<|Dw vm<|dO<|?_
   refine D' (ZaE lk lk (λ_=>rfl) nb ro om ro rfl) pt ?_
   refine dO<|Dw (Zar lk ZlN rfl)<|dO<|Dw (Zic lk lk ZmQ)<|Dw (Zaj lk lk)<|ZaH<|?_
   refine ZaU ?_
   refine sn' ?_
   refine cd' lk (λhc1=>?_) (λhc1=>?_)
   .refine za<|Zag<|Zao<|mw<|?_
    refine ad<|mw<|Zam<|Zau<|Zaw<|?_
    refine lT' (k+1) (by (try dsimp only);refine⟨by omega,by omega,?_⟩;rw[hkc,ZmA om om (ZjH hc1)];omega)
   refine Zax<|Zas<|Zas<|ZaK<|Zan<|wm<|mr<|Zae rz<|rT'<|?_
   congr 2;first | (rw[hkc,ZeZ om];simp;done) | (rw[hkc,ZdE om om (λe=>hc1 (by rw[e];simp))];simp;done)
  refine dn<|dn<|dn<|dn<|dn<|dn<|dn<|dn<|dn<|Dw (Zak lk lkb)<|ZaH<|?_
  refine ZaU ?_
  refine sn'<|ZaV lk<|Zax<|Zas<|Zas<|ZaK<|Zan<|wm<|ms<|?_
  refine Zbh<|Zae rz<|rT'<|?_
  congr 2;first | (rw[hkc,ZeZ om];simp;done) | (rw[hkc,ZdE om om (λe=>hc1 (by rw[e];simp))];simp;done)
 refine dn<|dn<|dn<|dn<|Dw (Zak lk lkb)<|Dw vm<|dn<|dn<|dn<|dn<|dn<|dn<|dn<|dn<|?_
 refine dn<|Dw (Zak lk lkb)<|ZaH<|?_
 refine ZaU ?_
 refine sn'<|ZaV lk<|Zax<|Zas<|Zas<|ZaK<|Zan<|wm<|ms<|?_
 refine Zbh<|Zae rz<|rT'<|?_
 congr 2;first | (rw[hkc,ZeZ om];simp;done) | (rw[hkc,ZdE om om (λe=>hc1 (by rw[e];simp))];simp;done)
def ZnZ {l m:List Chg}{f1 f2:Bool}{h:AH}(hk:com l m=k):Ac 107 [.sl l.length 4 f1 (rows chgC l),.sl m.length 4 f2 (rows chgC m)] h (iv (k:Int)):=by
 subst hk
 exact ACalls.wk (wkw Wk.full (wkw Wk.full wk0)) (common_a l m h)
end
section
open Go.Ab Civ
def k94:=Kx 94 []
def k97:=Kx 97 []
def k227:=Kx 227 []
def k95:=Kx 95 []
def k149:=Kx 149 []
def k148:=Kx 148 []
def k161:=Kx 161 []
def k162:=Kx 162 []
def k150:=Kx 150 []
def k210:=Kx 210 []
def k100:=Kx 100 []
def k136:=Kx 136 []
def k101:=Kx 101 []
def k99:=Kx 99 []
abbrev uv (n:Int):AV:=.v (.int .u8 n)
def bvx {a b:Bool}(h:a=b):bv a=bv b:=by rw[h]
end
end Go.Proofs.YthmgnolcfjiicaaGreatDoor
