/-
  Part 1 of the proof: own lemmas and contracts on plain data. No condition beyond those that each lemma states.
-/
import Derived.Test.YtfcecekilahfiaaGreatDoorZr0
import Derived.Defers
import Derived.Recover
import Derived.RangeFuncLeaves
import Derived.Sort.Walk0
import Derived.Lib.Strings
import Derived.KernelRfl
import Derived.WalkKit
import Derived.ProofKit
import Derived.Carry
import Derived.Lib.SmallJoins
import Derived.Deep.Slices
set_option linter.all false
set_option maxRecDepth 1000000
set_option maxHeartbeats 4000000
namespace Go.Ab
variable {h:AH}{c g i:AV}{e0 e1 e2 e3 e4 e5 e6 e7 e8:Ent}{f:FuncId}{b:Int}{k k':IntKind}{T ats cells cs l zero:List AV}{n o off s st sz ty v ver:Nat}
section
section
variable {P : Program} {n0 : Nat}
def rC [Rd] {ops:Array Oper}{h:AH}{tr:Nat->Yd}{i0:Nat}{x:Operand}{f:FuncId}{c cp:AV}{Pp:AH->Prop}{K:List AV->AH->Prop}{Q:AX->List AV->AH->Prop}{w0:World}{S0:Nat->Prop}{g0:Gh}{o0:Oper}{ts:Array TypeId}
  (ho0:ops[i0]?=some o0) (hop:o0.op=.call { callee:=.value (.func f),args := #[x],argTypes:=ts }) (hg : ∀ (j:Nat) (o:Oper),ops[j]?=some o->o.guard=none) (hdep : ∀ (j:Nat) (o:Oper),ops[j]?=some o -> ∀ e∈o.after,Region.binds .any e=true->e.on<j)
  (hy : ∀ j,(tr j).act=.fr\/(tr j).act=.rd) (hc:(tr i0).c=c) (hcall:ACalls P f [c] h λr h''=>r=.pan cp/\Pp h'') (hQ : ∀ T'' h'',Pp h''->Q (.pan cp) T'' h'') :
  ∀ (fuel:Nat) (listed:Array Bool) (T:List AV) (a:Act) (w:World) (g:Gh),listed.size=ops.size->Closed .any ops listed->listed.getD i0 true=false->St n0 w0 S0 g0 T h a w g->N5 P .any (Do ops i0 x) h tr K fuel listed T h->wpAnyIn Rd.F 0 P .any ops (Vj n0 w0 S0 g0 Q) fuel listed a w:=by
 have hlt0:i0<ops.size:=(Array.getElem?_eq_some_iff.1 ho0).1;have hrd : ∀ listed:Array Bool,Region.ready .any (Do ops i0 x) listed=[]->Region.ready .any ops listed=[]:=by
  intro listed hr;cases hl:Region.ready .any ops listed with
  | nil=>rfl
  | cons j l =>
   have:j∈Region.ready .any (Do ops i0 x) listed:=Xf.2 (by rw[hl];simp)
   rw[hr] at this;cases this
 intro fuel;induction fuel with
 | zero =>
  intro listed T a w g hsz hcl hun hs hD
  exact absurd (hrd _ hD.1) (Xe hdep hsz i0 i0 (Nat.le_refl _) hlt0 hun)
 | succ fuel ih =>
  intro listed T a w g hsz hcl hun hs hD
  refine⟨λhr=>absurd hr (Xe hdep hsz i0 i0 (Nat.le_refl _) hlt0 hun),λi hi=>?_⟩
  have hDi:=hD.2 i (Xf.2 hi)
  obtain⟨hiun,o,ho,hall⟩:=mem_ready.1 hi
  by_cases hii:i=i0
  .subst hii
   rw[ho0] at ho
   cases ho
   unfold qOpD at hDi
   rw[Io,ho0] at hDi
   simp only[Option.map_some,if_true] at hDi
   obtain⟨hyd,_,_⟩:=hDi
   have hgn:=hg i o0 ho0
   unfold YD Kc at hyd
   simp only[hgn] at hyd
   rcases hyd with ⟨_,hyd⟩ | ⟨hyd,_⟩
   .have hq:AQuiet P { o0 with op:=.move x } (Ae T) h c:=by
     rcases hy i with hyi | hyi
     .rw[hyi] at hyd;rw[<-hc];exact hyd h
     .rw[hyi] at hyd;rw[<-hc];exact hyd h (HExt.refl h)
    have hval:Rep w g c (a.eval x):=by
     rcases hq w g a.eval hs.sim (λz _=>Fp hs.tmps z) with ⟨v,h1,h2⟩ | ⟨f',vs,h1,_⟩ | ⟨l,f',tm,as1,bd,h1,_⟩
     .simp only[execOp,Sem.run_pure,Result.ok.injEq,and_true] at h1;cases h1;exact h2
     .simp[execOp] at h1
     .simp[execOp] at h1
    unfold wpOpIn
    simp only[ho0]
    have hw:Region.wanted o0 (yielded ops a.tmps)=true:=by simp[Region.wanted,hgn]
    rw[hw]
    simp only[if_true]
    obtain⟨hen,hcl2⟩:=hcall
    have hrun:=W4 (P:=P) (o:=o0) (f:=.func f) (xs:=[x]) (ρ:=a.eval) (fn:=f) (caps := #[]) hop rfl hen w
    refine Oper.wpR_enter hrun ((hcl2 w g _ hs.sim (by simpa [RepL] using hval)).mono ?_)
    rintro e w' ⟨y,h',g',k1,k2,k3,k4,k5,rfl,k6⟩
    have hst:=hs.call k2 k3 k4 k5
    cases e <;> simp only[EndR] at k1
    exact⟨_,T,h',g',hst,by simp only[ExR];exact k1,hQ _ _ k6⟩
   .cases hyd
  .have hna:(anc .any ops i 12).contains i0=false:=by
    cases hcn:(anc .any ops i 12).contains i0 with
    | false=>rfl
    | true =>
     have h1:=Ri hcl hi 12 i0 (by simpa using hcn)
     have h2:=getD_unl hun
     rw[h2] at h1;cases h1
   have hqq:qOpD P ops h tr i (N5 P .any (Do ops i0 x) h tr K fuel (listed.setIfInBounds i true)) T h:=by
    unfold qOpD at hDi ⊢;rw[Io,ho] at hDi;simp only[Option.map_some] at hDi;rw[if_neg hii,if_neg (by rw[hna];simp)] at hDi;simp only[ho];exact⟨(YD.dead (hg i o ho)).1 hDi.1,hDi.2⟩
   have heff:(tr i).eff h=h:=by unfold Yd.eff;rcases hy i with hyi | hyi <;> rw[hyi]
   have hqq2:qOpD P ops h tr i (λT' h'=>h'=h/\N5 P .any (Do ops i0 x) h tr K fuel (listed.setIfInBounds i true) T' h) T h:=by
    unfold qOpD at hqq ⊢;simp only[ho] at hqq ⊢;refine⟨hqq.1,hqq.2.1,heff,?_⟩;have:=hqq.2.2;rw[heff] at this;exact this
   refine Rn hs (λT' h' a' w' g' hs' hk=>?_) hqq2
   obtain⟨rfl,hk⟩:=hk
   refine ih _ T' a' w' g' (by simpa using hsz) (hcl.set hi) ?_ hs' hk
   rw[getD_set_ne true hii];exact hun
def lL [Rd] {ops:Array Oper}{id:Nat}{al:List AOper}{Q:AX->List AV->AH->Prop}{T:List AV}{h:AH}{i0:Nat}{x:Operand}{f:FuncId}{al':List AOper}{d0:Nat}{c cp:AV}{Pp:AH->Prop}(hm:ops.toList.mapM (D6 P [] ops)=some al) (hp:panAt P ops al i0=some (x,f,al',d0))
  (h1:adrun P [] h al' T [] λT' ents=>ents=[]/\T'[d0]?=some c) (h2:ACalls P f [c] h λr h''=>r=.pan cp/\Pp h'') (h3 : ∀ T'' h'',Pp h''->Q (.pan cp) T'' h''):AW P n0 (.region id ops true) Q T h:=by
 unfold panAt at hp;split at hp <;> try (cases hp;done)
 rename_i d1 f1 x1 hal;split at hp <;> try (cases hp;done)
 rename_i al2 hm2;split at hp <;> try (cases hp;done)
 rename_i hcond;cases hp;obtain⟨hfm,hB,hdst,hgn⟩:=hcond;obtain⟨o0,ho0,hco⟩:=gQ _ _ _ _ _ hm hal;have ho0':ops[i0]?=some o0:=by simpa using ho0
 unfold D6 at hco;split at hco <;> try (cases hco;done)
 rename_i aop gd hao hgd;simp only[Option.some.injEq,AOper.mk.injEq] at hco;obtain⟨hd0,rfl,rfl⟩:=hco;have hop : ∃ ts,o0.op=.call { callee:=.value (.func f),args := #[x],argTypes:=ts }:=by
  rcases Hw hao with ⟨_,_,hnc,_⟩ | ⟨f',xs,ts,e,ho⟩ | ⟨_,e,_⟩ | ⟨_,_,_,_,_,e,_⟩
  .exact absurd rfl (hnc _ _)
  .cases e;exact⟨ts,ho⟩
  .cases e
  .cases e
 obtain⟨ts,hop⟩:=hop;have hg : ∀ (j:Nat) (o:Oper),ops[j]?=some o->o.guard=none:=by
  intro j o ho;have:=List.all_eq_true.1 hgn o (by simpa using Array.mem_of_getElem? ho);simpa using this
 simp only[Region.lexB,Bool.and_eq_true] at hB;have hrep : ∀ (j:Nat) (m:Nat),(Array.replicate m false).getD j false=true->j<0:=by
  intro j m hj;by_cases h:j<m
  .simp[Array.getD,h] at hj
  .simp[Array.getD,h] at hj
 have hdep : ∀ (j:Nat) (o:Oper),ops[j]?=some o -> ∀ e∈o.after,Region.binds .any e=true->e.on<j:=by
  intro j o ho e he hb;have hd:(Do ops i0 x)[j]?≠none:=by rw[Io,ho];simp
  obtain⟨o2,ho2⟩:=Option.ne_none_iff_exists'.1 hd;obtain⟨o',h1,h2,_⟩:=Mf ho2;rw[ho] at h1;cases h1;have hj:j<(Do ops i0 x).size:=(Array.getElem?_eq_some_iff.1 ho2).1;exact gX _ 0 _ (λj hj=>hrep j _ hj) hB.2 j o2 (Nat.zero_le _) (by omega) ho2 e (by rw[h2];exact he) hb
 intro w0 S0 g0 a w g hst;obtain⟨ys,Tf,ef,hy,rfl,hT⟩:=Yz (ops:=Do ops i0 x) _ _ hm2 T [] h1;obtain⟨_,hq⟩:=Zo _ _ _ _ _ _ _ hy;obtain⟨hq1,hq2⟩:=hq rfl;let tr:Nat->Yd:=λk=>ys.getD k nilY;have hyt : ∀ j,(tr j).act=.fr\/(tr j).act=.rd:=by
  intro j;show (ys.getD j nilY).act=_\/(ys.getD j nilY).act=_;rw[List.getD_eq_getElem?_getD];cases hj:ys[j]? with
  | none=>exact .inl rfl
  | some y=>exact hq1 y (List.mem_of_getElem? hj)
 have hlen:=(bY _ _ _ _ _ _ _ hy).1;have hcc:(tr i0).c=c:=by
  have hdead:(Do ops i0 x).toList[i0]?=some { o0 with op:=.move x }:=by
   have:=Io (ops:=ops) (i0:=i0) (x:=x) (j:=i0);rw[ho0'] at this;simpa using this
  refine trB_at _ _ _ _ _ _ _ i0 _ c hy hdead (by simpa using hd0) ?_ hT;intro o ho;have:=List.all_eq_true.1 hdst o ho;simpa using this
 have hlex:=Wr (P:=P) (ops:=Do ops i0 x) (h0:=h) (tr:=tr) (N:=0) (Do ops i0 x).toList _ ys 0 T [] Tf [] (λj hj=>by simp) (λj hj=>by rw[Nat.zero_add]) (by rw[hq2];rfl) hy;simp only[List.append_nil,List.length_nil,Nat.sub_zero,List.replicate_zero,Array.length_toList] at hlex;have hpair : ∀ i j,i<j->j<(Do ops i0 x).size->(∃ n,i∈anc .any (Do ops i0 x) j n)\/Compat h (tr i) (tr j):=by
  intro i j _ _;right;rcases hyt i with h1 | h1
  .exact Ha h1
  .rcases hyt j with h2 | h2
   .exact Es h2
   .unfold Compat;rw[h1,h2];trivial
 have hclosed : ∀ os:Array Oper,Closed .any os (Array.replicate os.size false):=by
  intro os k o ho hk;have:k<os.size:=(Array.getElem?_eq_some_iff.1 ho).1;simp[this] at hk
 have hD:=Nb (P:=P) (md:=.any) (h0:=h) (tr:=tr) hpair (Do ops i0 x).size 0 (Array.replicate (Do ops i0 x).size false) T _ (by omega) (by simp) (hclosed _) (by omega) hB.2 hlex;have hi0:i0<ops.size:=(Array.getElem?_eq_some_iff.1 ho0').1;refine wpIn_region_any hfm ?_;rw[eC] at hD;exact rC ho0' hop hg hdep hyt hcc h2 h3 ops.size (Array.replicate ops.size false) T a _ g (by simp) (hclosed _) (by simp[Array.getD,hi0]) hst.drew hD
def orPans (o:Option (Operand×FuncId×List AOper×Nat)) (a:AC):AC:=match o with
 | some (x,f,al',d0)=>.orPan a x f al' d0
 | none=>a
def Oz (P:Program) (ops:Array Oper) (al:List AOper):Option AC :=
 (drawn P ops [] (Vs P al)).or ((drawn P ops (gM ops al (Vs P al)) (Vs P al)).or ((if 2<=(al.filter (cU P)).length then Q9 P ops else none).or ((drawn P ops [] (cH al)).or ((drawn P ops (gM ops al (cH al)) (cH al)).or (Q9 P ops)))))
def comp (P:Program):Code->Option AC
 | .skip=>some .skip
 | .region _ ops draw=>match ops.toList.mapM (D6 P [] ops) with
  | some al=>if draw=false then some (.reg al) else
   (Oz P ops al).map (orPans (panOf P ops al))
  | none=>none
 | .seq a b=>match comp P a,comp P b with
  | some x,some y=>some (.seq x y)
  | _,_=>none
 | .cond c a b=>match comp P a,comp P b with
  | some x,some y=>some (.cond c x y)
  | _,_=>none
 | .block id a=>(comp P a).map (.block id)
 | .loop a=>(comp P a).map .loop
 | .exit id=>some (.exit id)
 | .scope a=>comp P a
 | .ret=>some .ret
 | _=>none
def aw (P:Program) (n0:Nat):AC->(AX->List AV->AH->Prop)->List AV->AH->Prop
 | .skip,Q,T,h=>Q .normal T h
 | .reg al,Q,T,h=>arun P (λc T h=>Q (.pan c) T h) al T h (λT h=>Q .normal T h)
 | .drw b q t,Q,T,h => ∃ rs,adrun P rs h b T [] λT ents=>En P rs q t T (h++ents) (λT h=>Q .normal T h)
 | .drwU q al,Q,T,h=>Di P h q al [] T h λT h=>Q .normal T h
 | .orPan a x f al d0,Q,T,h=>aw P n0 a Q T h \/ ∃ (cp:AV) (Pp:AH->Prop) (c:AV),adrun P [] h al T [] (λT' ents=>ents=[]/\T'[d0]?=some c)/\ACalls P f [c] h (λr h''=>r=.pan cp/\Pp h'') /\ ∀ T'' h'',Pp h''->Q (.pan cp) T'' h''
 | .seq a b,Q,T,h=>aw P n0 a (AX.thn (λT h => ∃ T1 h1,ALe n0 T h T1 h1/\aw P n0 b Q T1 h1) Q) T h
 | .cond c a b,Q,T,h=>match Ae T c with
  | .v (.bool t)=>(t=true->aw P n0 a Q T h)/\(t=false->aw P n0 b Q T h)
  | _=>False
 | .block id a,Q,T,h=>aw P n0 a (AX.blk id Q) T h
 | .loop a,Q,T,h => ∃ (I:Nat->List AV->AH->Prop) (n:Nat),(∃ T1 h1,ALe n0 T h T1 h1/\I n T1 h1) /\ ∀ n T h,I n T h->aw P n0 a (AX.thn (λT' h' => ∃ m,m<n /\ ∃ T1 h1,ALe n0 T' h' T1 h1/\I m T1 h1) Q) T h
 | .exit id,Q,T,h=>Q (.exit id) T h
 | .ret,Q,T,h=>Q .ret T h
def Oh [Rd] {ops:Array Oper}{id:Nat}{al:List AOper}{ac:AC}{Q:AX->List AV->AH->Prop}(hc:Oz P ops al=some ac) (hw:aw P n0 ac Q T h):AW P n0 (.region id ops true) Q T h:=by
 unfold Oz at hc;have key : ∀ S s,drawn P ops S s=some ac->AW P n0 (.region id ops true) Q T h:=by
  intro S s hd;unfold drawn at hd;split at hd <;> try (cases hd;done)
  rename_i al2 hm2;split at hd <;> try (cases hd;done)
  rename_i hcond;cases hd;obtain⟨rs,hw⟩:=hw;exact Vn hcond.1 hcond.2.1 hm2 hcond.2.2.1 hcond.2.2.2 hw
 have keyU:Q9 P ops=some ac->AW P n0 (.region id ops true) Q T h:=by
  intro hc;unfold Q9 at hc;split at hc <;> try (cases hc;done)
  rename_i al2 hm2;split at hc <;> try (cases hc;done)
  rename_i hcond;cases hc;exact Vi hcond.1 hcond.2 hm2 hw
 rcases Option.or_eq_some_iff.1 hc with h1 | ⟨_,hc⟩
 .exact key _ _ h1
 rcases Option.or_eq_some_iff.1 hc with h1 | ⟨_,hc⟩
 .exact key _ _ h1
 rcases Option.or_eq_some_iff.1 hc with h1 | ⟨_,hc⟩
 .split at h1
  .exact keyU h1
  .cases h1
 rcases Option.or_eq_some_iff.1 hc with h1 | ⟨_,hc⟩
 .exact key _ _ h1
 rcases Option.or_eq_some_iff.1 hc with h1 | ⟨_,hc⟩
 .exact key _ _ h1
 .exact keyU hc
def Fw [Rd] : ∀ (c:Code) (ac:AC),comp P c=some ac -> ∀ {Q:AX->List AV->AH->Prop}{T:List AV}{h:AH},aw P n0 ac Q T h->AW P n0 c Q T h:=by
 intro c;induction c with
 | skip=>intro ac hc Q T h hw;cases hc;exact qX hw
 | region id ops draw =>
  intro ac hc Q T h hw
  simp only[comp] at hc
  split at hc <;> try (cases hc;done)
  rename_i al hm
  split at hc
  .rename_i hd;subst hd;cases hc;exact bP hm hw
  .rename_i hd
   obtain rfl:draw=true:=by simpa using hd
   rw[Option.map_eq_some_iff] at hc
   obtain⟨ac,hc,rfl⟩:=hc
   cases hp:panOf P ops al with
   | none=>rw[hp] at hw;exact Oh hc hw
   | some p =>
    obtain⟨x,f,al',d0⟩:=p
    rw[hp] at hw
    rcases hw with hw | ⟨cp,Pp,c,h1,h2,h3⟩
    .exact Oh hc hw
    .unfold panOf at hp
     split at hp <;> try (cases hp;done)
     rename_i i0 hf0
     exact lL hm hp h1 h2 h3
 | seq a b iha ihb =>
  intro ac hc Q T h hw
  simp only[comp] at hc
  split at hc <;> try (cases hc;done)
  rename_i x y hx hy
  cases hc
  refine AW_seq ((iha x hx hw).mono ?_)
  intro z T' h' hq
  cases z <;> simp only[AX.thn] at hq ⊢ <;> first | exact hq | (obtain⟨T1,h1,hle,hq⟩:=hq;exact AW_le hle (ihb y hy hq))
 | cond c a b iha ihb =>
  intro ac hc Q T h hw
  simp only[comp] at hc
  split at hc <;> try (cases hc;done)
  rename_i x y hx hy
  cases hc
  simp only[aw] at hw
  split at hw <;> try (exact hw.elim)
  rename_i t ht
  exact rA ht (λe=>iha x hx (hw.1 e)) (λe=>ihb y hy (hw.2 e))
 | block id a iha =>
  intro ac hc Q T h hw
  simp only[comp,Option.map_eq_some_iff] at hc
  obtain⟨x,hx,rfl⟩:=hc
  exact kO (iha x hx hw)
 | loop a iha =>
  intro ac hc Q T h hw
  simp only[comp,Option.map_eq_some_iff] at hc
  obtain⟨x,hx,rfl⟩:=hc
  obtain⟨I,n,h0,hr⟩:=hw
  refine qY (λn T h => ∃ T1 h1,ALe n0 T h T1 h1/\I n T1 h1) n h0 ?_
  rintro n T h ⟨T1,h1,hle,hI⟩
  exact AW_le hle (iha x hx (hr n T1 h1 hI))
 | rangeFunc f ps x y iha ihb=>intro ac hc;cases hc
 | exit id=>intro ac hc Q T h hw;cases hc;exact qZ hw
 | scope a iha=>intro ac hc Q T h hw;exact AW_scope (iha ac hc hw)
 | label l=>intro ac hc;cases hc
 | goto l=>intro ac hc;cases hc
 | ret=>intro ac hc Q T h hw;cases hc;exact AW_ret hw
 | refuse w=>intro ac hc;cases hc
inductive AR where
 | tmp (t:Nat)
 | cell (t:Nat) (agg:Bool) (sz:Nat)
def Ja (T:List AV) (h:AH):AR->Option AV
 | .tmp t=>T[t]?
 | .cell t agg sz=>match T[t]? with
  | some p=>(Fe h p).bind (Ed agg sz)
  | none=>none
def aRes (rs:List AR) (T:List AV) (h:AH):Option AV :=
 match rs.mapM (Ja T h) with
 | some [c]=>some c
 | some cs=>some (.tup cs)
 | none=>none
def Lz (P:Program):ResultVar->Option AR
 | .tmp t=>some (.tmp t)
 | .cell a t=>match P.underlying t,P.info? t with
  | some d,some i=>some (.cell a (Ie d) i.size)
  | _,_=>none
def retA (rs:List AR) (R:AE->AH->Prop):AX->List AV->AH->Prop
 | .normal,T,h=>match aRes rs T h with
  | some c=>R (.ret c) h
  | none=>False
 | .ret,T,h=>match aRes rs T h with
  | some c=>R (.ret c) h
  | none=>False
 | .pan c,_,h=>R (.pan c) h
 | .exit _,_,_=>False
def rvS (tmps:Array Value) (r:ResultVar):Sem Value :=
 match r with
 | .tmp t=>pure (tmps.getD t undef)
 | .cell a t=>do loadVar t (<-asAddr (tmps.getD a undef))
def fS (fn:Func) (tmps:Array Value):results fn tmps=(do
  let vs <-fn.results.mapM (rvS tmps)
  pure (if h:vs.size=1 then vs[0] else .tuple vs)):=by
 unfold results;congr 2
def cO {r:ResultVar}{ar:AR}(hc:Lz P r=some ar) {T:List AV}{h:AH}{c:AV}(hv:Ja T h ar=some c) {w:World}{g:Gh}{a:List Value}(hs:SimH w g h) (ht:RepL w g T a) :
  ∃ v,(rvS a.toArray r).run P w=.ok v w/\Rep w g c v:=by
 cases r with
 | tmp t =>
  cases hc
  obtain⟨u,h1,h2⟩:=ht.get (show T[t]?=some c from hv)
  refine⟨u,?_,h2⟩
  have:a.toArray[t]?=some u:=by simpa using h1
  simp[rvS,this]
 | cell b t =>
  simp only[Lz] at hc
  split at hc <;> try (cases hc;done)
  rename_i d i hd hi
  cases hc
  simp only[Ja] at hv
  split at hv <;> try (cases hv;done)
  rename_i p hp
  simp only[Option.bind_eq_some_iff] at hv
  obtain⟨cs,h1,h2⟩:=hv
  obtain⟨u,h3,h4⟩:=ht.get hp
  obtain⟨bb,off,e,hrc⟩:=Vd hs h4 h1
  obtain⟨v,h5,h6⟩:=Wz (P:=P) hrc h2 (F3 hd w) (C8 hi w)
  refine⟨v,?_,h6⟩
  have hu:a.toArray[b]?=some u:=by simpa using h3
  have:a.toArray.getD b undef=.pointer (some ⟨bb,off,none⟩):=by simp[hu,e]
  simp only[rvS,this]
  simpa [asAddr,Instr.loadAt,Instr.sureAddr] using h5
def R3 {T:List AV}{h:AH}{w:World}{g:Gh}{a:List Value}(hs:SimH w g h) (ht:RepL w g T a) : ∀ (rl:List ResultVar) (rs:List AR) (cs:List AV),rl.mapM (Lz P)=some rs->rs.mapM (Ja T h)=some cs ->
  ∃ vs,(rl.mapM (rvS a.toArray)).run P w=.ok vs w/\RepL w g cs vs
 | [],rs,cs,h1,h2=>by simp at h1;subst h1;simp at h2;subst h2;exact⟨[],by simp,by simp only[RepL]⟩
 | r::rl,rs,cs,h1,h2=>by
  simp only[List.mapM_cons,Option.bind_eq_bind,Option.bind_eq_some_iff,Option.pure_def,Option.some.injEq] at h1;obtain⟨ar,k1,rs',k2,rfl⟩:=h1;simp only[List.mapM_cons,Option.bind_eq_bind,Option.bind_eq_some_iff,Option.pure_def,Option.some.injEq] at h2;obtain⟨c,k3,cs',k4,rfl⟩:=h2;obtain⟨v,e1,e2⟩:=cO k1 k3 hs ht;obtain⟨vs,e3,e4⟩:=R3 hs ht rl rs' cs' k2 k4;refine⟨v::vs,?_,by simp only[RepL];exact⟨v,vs,rfl,e2,e4⟩⟩;simp only[List.mapM_cons,Sem.run_bind,e1,Result.andThen_ok,e3,Sem.run_pure]
def Ii {fn:Func}{rs:List AR}(hrs:fn.results.toList.mapM (Lz P)=some rs) {T:List AV}{h:AH}{c:AV}(hc:aRes rs T h=some c) {w:World}{g:Gh}{a:List Value}(hs:SimH w g h) (ht:RepL w g T a) :
  ∃ v,(results fn a.toArray).run P w=.ok v w/\Rep w g c v:=by
 unfold aRes at hc;cases hm:rs.mapM (Ja T h) with
 | none=>simp[hm] at hc
 | some cs =>
  obtain⟨vs,h1,h2⟩:=R3 hs ht fn.results.toList rs cs hrs hm
  have hrun:(results fn a.toArray).run P w=.ok (if h:vs.toArray.size=1 then vs.toArray[0] else .tuple vs.toArray) w:=by
   rw[fS];rw[Array.mapM_eq_mapM_toList];simp only[Sem.run_bind,Sem.run_map];rw[h1];simp
  have hl:=h2.length
  rw[hm] at hc
  match cs,hc with
  | [c'],hc =>
   cases hc
   simp only[RepL] at h2
   obtain⟨u,us,rfl,h3,rfl⟩:=h2
   exact⟨u,by rw[hrun];simp,h3⟩
  | [],hc =>
   cases hc
   have:vs=[]:=by simpa using hl
   subst this
   exact⟨.tuple #[],by rw[hrun];simp,by simp only[Rep];exact⟨#[],rfl,by simp only[RepL]⟩⟩
  | c1::c2::cs',hc =>
   cases hc
   have hne:¬vs.toArray.size=1:=by simp[hl]
   exact⟨.tuple vs.toArray,by rw[hrun,dif_neg hne],by simp only[Rep];exact⟨_,rfl,by simpa using h2⟩⟩
structure AF where
 code:AC
 res:List AR
 ntmps:Nat
def Em (P:Program) (f:FuncId):Option AF :=
 match P.funcs[f]? with
 | some fn=>if fn.name == "runtime.NumGoroutine" then none else match fn.body with
  | some c=>match comp P c,fn.results.toList.mapM (Lz P) with
   | some ac,some rs=>some ⟨ac,rs,fn.ntmps⟩
   | _,_=>none
  | none=>none
 | none=>none
def ACalls.of_aw {af:AF}(hc:Em P f=some af) {args:List AV}{R:AE->AH->Prop}(hw:aw P h.length af.code (retA af.res R) (args++List.replicate (af.ntmps-args.length) .any) h):ACalls P f args h R:=by
 unfold Em at hc;split at hc <;> try (cases hc;done)
 rename_i fn hfn;split at hc <;> try (cases hc;done)
 rename_i hname;split at hc <;> try (cases hc;done)
 rename_i c hb;split at hc <;> try (cases hc;done)
 rename_i ac rs hac hrs;cases hc;letI:Rd:=rdN;refine ACalls.of_AW hfn hb ?_ ((Fw c ac hac hw).mono ?_)
 .simp only[enters,hfn,hb];simp only[Bool.not_eq_true] at hname;simp[bne,hname]
 .intro x T' h' hq;cases x <;> simp only[retA,RetQ] at hq ⊢
  .split at hq <;> try (exact hq.elim)
   rename_i r hr;exact⟨r,λw g a hs ht=>Ii hrs hr hs ht,hq⟩
  .split at hq <;> try (exact hq.elim)
   rename_i r hr;exact⟨r,λw g a hs ht=>Ii hrs hr hs ht,hq⟩
  .exact hq
end
end
variable {af:AF}
section
section
variable {P : Program} {n0 : Nat}
mutual
def lt_mono {n m:Nat}(hnm:n<=m) : ∀ (c:AV),c.lt n=true->c.lt m=true
 | .v _,_=>rfl
 | .any,_=>rfl
 | .sl _ _ _ cs,h=>by simp only[AV.lt] at h ⊢;exact Hr hnm cs h
 | .own id _ _,h=>by simp only[AV.lt,decide_eq_true_eq] at h ⊢;omega
 | .ptr id _ _,h=>by simp only[AV.lt,decide_eq_true_eq] at h ⊢;omega
 | .rp cs,h=>by simp only[AV.lt] at h ⊢;exact Hr hnm cs h
 | .agg cs,h=>by simp only[AV.lt] at h ⊢;exact Hr hnm cs h
 | .tup cs,h=>by simp only[AV.lt] at h ⊢;exact Hr hnm cs h
 | .clo _ cs,h=>by simp only[AV.lt] at h ⊢;exact Hr hnm cs h
 | .bnd _ cs,h=>by simp only[AV.lt] at h ⊢;exact Hr hnm cs h
 | .rx _ _ cs,h=>by simp only[AV.lt] at h ⊢;exact Hr hnm cs h
 | .fs _ _ cs,h=>by simp only[AV.lt] at h ⊢;exact Hr hnm cs h
def Hr {n m:Nat}(hnm:n<=m) : ∀ (cs:List AV),AV.ltL n cs=true->AV.ltL m cs=true
 | [],_=>rfl
 | c::cs,h=>by simp only[AV.ltL,Bool.and_eq_true] at h ⊢;exact⟨lt_mono hnm c h.1,Hr hnm cs h.2⟩
end
def Ent.lt_mono {m:Nat}(hnm:n<=m) {e:Ent}(h:e.lt n=true):e.lt m=true:=by
 cases e <;> simp only[Ent.lt] at h ⊢ <;> exact Hr hnm _ h
def Sub:List AV->List AV->Prop
 | [],[]=>True
 | c::cs,d::ds=>(d=c\/d=.any)/\Sub cs ds
 | _,_=>False
def RepL.sub {w:World}{g:Gh} : ∀ {T T1:List AV}{vs:List Value},Sub T T1->RepL w g T vs->RepL w g T1 vs
 | [],[],vs,_,h=>h
 | c::cs,d::ds,vs,hs,h=>by
  simp only[RepL] at h ⊢;obtain⟨u,us,e,h1,h2⟩:=h;refine⟨u,us,e,?_,RepL.sub hs.2 h2⟩;rcases hs.1 with rfl | rfl
  .exact h1
  .simp only[Rep]
 | [],_::_,_,hs,_=>hs.elim
 | _::_,[],_,hs,_=>hs.elim
def ALe.sub {T1:List AV}(hs:Sub T T1):ALe n0 T h T1 h:=λw0 S0 g0 a w g st=>⟨g,st.tmps.sub hs,st.defers,st.sim,st.fr,st.le,st.bd,st.ow⟩
def ALe.refl :ALe n0 T h T h:=λw0 S0 g0 a w g st=>⟨g,st⟩
def ALe.trans {T1 T2:List AV}{h1 h2:AH}(a:ALe n0 T h T1 h1) (b:ALe n0 T1 h1 T2 h2):ALe n0 T h T2 h2:=λw0 S0 g0 x w g st=>by
 obtain⟨g1,s1⟩:=a w0 S0 g0 x w g st;exact b w0 S0 g0 x w g1 s1
def ALe.cut {x:AH}(hn:n0<=h.length) (hT:AV.ltL h.length T=true) (hh : ∀ e∈h,e.lt h.length=true):ALe n0 T (h++x) T h:=λw0 S0 g0 a w g st =>
 ⟨g.cut h.length,RepL.cut _ _ hT st.tmps,st.defers,st.sim.cut hh,st.fr,st.le.cut (λi v l hl=>Nat.lt_of_lt_of_le (st.bd i v l hl) hn),st.bd,λk hk=>st.ow k hk.of_cut⟩
def AV.slf:Bool->Nat->Nat->List AV->AV
 | true,n,s,cs=>.fs n s cs
 | false,n,s,cs=>.sl n s false cs
def Rep.slf {b:Bool}{w:World}{g:Gh}{y:Value}(h:Rep w g (.fs n s cs) y):Rep w g (AV.slf b n s cs) y:=by
 cases b
 .exact h.fs
 .exact h
def ALe.iceB (b:Bool) {id d:Nat}(hi:h[id]?=some (.mk ver ty s cells)) (hd:T[d]?=some (.own id ver n)) (hl:n*s<=cells.length) :
  ALe n0 T h (T.set d (AV.slf b n s (cells.take (n*s)))) (h.set id .gone):=λw0 S0 g0 a w g st=>by
 obtain⟨h1,h2,h3⟩:=st.sim.ice hi;have htm:=RepL.mono (g.le_ice h id) (λ_ _=>rfl) _ _ st.tmps;obtain⟨u,hu,hr⟩:=st.tmps.get hd;have hset:=htm.set (k:=d) ((h3 n u hl hr).slf (b:=b));have hself:a.tmps.toList.set d u=a.tmps.toList:=by
  apply List.ext_getElem?;intro j;by_cases hj:j=d
  .subst hj;have:j<a.tmps.toList.length:=(List.getElem?_eq_some_iff.1 hu).1;rw[List.getElem?_set_self this,hu]
  .rw[List.getElem?_set_ne (Ne.symm hj)]
 rw[hself] at hset;exact⟨g.ice h id,hset,st.defers,h1,st.fr,st.le.trans (g.le_ice h id),st.bd,λk hk=>st.ow k (h2 k hk)⟩
def ALe.ice {id d:Nat}(hi:h[id]?=some (.mk ver ty s cells)) (hd:T[d]?=some (.own id ver n)) (hl:n*s<=cells.length) :
  ALe n0 T h (T.set d (.sl n s false (cells.take (n*s)))) (h.set id .gone):=ALe.iceB false hi hd hl
def Jo {id:Nat}{e:Ent}(he : ∀ k o T vs,e ≠ .raw k o T vs) {i k:Nat}{o:Obj}{vs:List Value}(h1:(h.set id e)[i]?=some (.raw k o T vs)):h[i]?=some (.raw k o T vs):=by
 by_cases hi:i=id
 .subst hi;by_cases hl:i<h.length
  .rw[List.getElem?_set_self hl] at h1;cases h1;exact absurd rfl (he _ _ _ _)
  .rw[List.getElem?_eq_none (by simpa using hl)] at h1;cases h1
 .rw[List.getElem?_set_ne (Ne.symm hi)] at h1;exact h1
def SimH.tell {w:World}{g:Gh}(hs:SimH w g h) {id k:Nat}{c':AV}(hi:h[id]?=some (.mk ver ty s cells)) (hk:cells[k]?=some c) (hc : ∀ u,Rep w g c u->Rep w g c' u) :
  SimH w g (h.set id (.mk ver ty s (cells.set k c'))) /\ ∀ j,Ow g (h.set id (.mk ver ty s (cells.set k c'))) j->Ow g h j:=by
 have hid:id<h.length:=(List.getElem?_eq_some_iff.1 hi).1;have hget : ∀ {i v t s':Nat} {cs:List AV},(h.set id (.mk ver ty s (cells.set k c')))[i]?=some (.mk v t s' cs) -> ∃ cs',h[i]?=some (.mk v t s' cs')/\(i≠id->cs'=cs)/\(i=id->cs'=cells/\cs=cells.set k c'):=by
  intro i v t s' cs he;by_cases hii:i=id
  .subst hii;rw[List.getElem?_set_self hid] at he;cases he;exact⟨cells,hi,λh=>absurd rfl h,λ_=>⟨rfl,rfl⟩⟩
  .rw[List.getElem?_set_ne (Ne.symm hii)] at he;exact⟨cs,he,λ_=>rfl,λh=>absurd h hii⟩
 have how : ∀ i j,OwAt g (h.set id (.mk ver ty s (cells.set k c'))) i j->OwAt g h i j:=by
  rintro i j ⟨v,t,s',cs,b,cap,e1,e2,e3,e4⟩;obtain⟨cs',f1,_⟩:=hget e1;exact⟨v,t,s',cs',b,cap,f1,e2,e3,e4⟩
 refine⟨⟨?_,λi j k' h1 h2=>hs.inj i j k' (how i k' h1) (how j k' h2),hs.lt,?_,?_,⟨hs.glob.w,hs.glob.d⟩,λi k o T vs he=>hs.raw i k o T vs (Jo (by simp) he),λi j k ⟨o,T,vs,e1⟩ ⟨o',T',vs',e2⟩=>hs.rinj i j k ⟨o,T,vs,Jo (by simp) e1⟩ ⟨o',T',vs',Jo (by simp) e2⟩,hs.xw (Nat.le_refl _) rfl (λ_=>.inl) (λj hj=>.inl (hj.imp (λ⟨i,hj⟩=>⟨i,how i j hj⟩) (λ⟨i,o,T,vs,e⟩=>⟨i,o,T,vs,Jo (by simp) e⟩)))⟩,λj hj=>hj.imp (λ⟨i,hj⟩=>⟨i,how i j hj⟩) (λ⟨i,o,T,vs,e⟩=>⟨i,o,T,vs,Jo (by simp) e⟩)⟩
 .intro i v t s' cs he;obtain⟨cs',f1,f2,f3⟩:=hget he;obtain⟨A,cap,e1,e2,e3⟩:=hs.ent _ _ _ _ _ f1;refine⟨A,cap,e1,e2,?_⟩;by_cases hii:i=id
  .obtain⟨rfl,rfl⟩:=f3 hii;rcases e3 with ⟨h0,h1⟩ | ⟨b,arr,rfl,x1,x2,x3,x4,x5,x6⟩
   .rw[h0] at hk;simp at hk
   .refine .inr ⟨b,arr,rfl,x1,x2,x3,x4,by simpa using x5,?_⟩;obtain⟨u,hu,hr⟩:=x6.get hk;have:=x6.set (k:=k) (hc u hr);have hself:(arr.toList.take cs'.length).set k u=arr.toList.take cs'.length:=by
     apply List.ext_getElem?;intro j;by_cases hj:j=k
     .subst hj;have:j<(arr.toList.take cs'.length).length:=(List.getElem?_eq_some_iff.1 hu).1;rw[List.getElem?_set_self this,hu]
     .rw[List.getElem?_set_ne (Ne.symm hj)]
    rw[hself] at this;simpa using this
  .rw[<-f2 hii];exact e3
 .intro i v l hl;have:=hs.fresh i v l hl;refine⟨by simpa using this.1,λv' t s' cs he=>?_⟩;obtain⟨cs',f1,_⟩:=hget he;exact this.2 _ _ _ _ f1
 .intro i v l hl he;by_cases hii:i=id
  .subst hii;rw[List.getElem?_set_self hid] at he;cases he
  .rw[List.getElem?_set_ne (Ne.symm hii)] at he;exact hs.free _ _ _ hl he
def ALe.iceCellB (b:Bool) {id j v' t' s' k:Nat}(hi:h[id]?=some (.mk ver ty s cells)) (hj:h[j]?=some (.mk v' t' s' cs)) (hne:j≠id) (hk:cs[k]?=some (.own id ver n)) (hl:n*s<=cells.length) :
  ALe n0 T h T ((h.set id .gone).set j (.mk v' t' s' (cs.set k (AV.slf b n s (cells.take (n*s)))))):=λw0 S0 g0 a w g st=>by
 obtain⟨h1,h2,h3⟩:=st.sim.ice hi;have htm:=RepL.mono (g.le_ice h id) (λ_ _=>rfl) _ _ st.tmps;obtain⟨k1,k2⟩:=h1.tell (id:=j) (by rw[List.getElem?_set_ne (Ne.symm hne)];exact hj) hk (λu hu=>(h3 n u hl (by
  simp only[Rep] at hu ⊢;exact hu)).slf (b:=b))
 exact⟨g.ice h id,htm,st.defers,k1,st.fr,st.le.trans (g.le_ice h id),st.bd,λi hi=>st.ow i (h2 i (k2 i hi))⟩
def ALe.iceCell {id j v' t' s' k:Nat}(hi:h[id]?=some (.mk ver ty s cells)) (hj:h[j]?=some (.mk v' t' s' cs)) (hne:j≠id) (hk:cs[k]?=some (.own id ver n)) (hl:n*s<=cells.length) :
  ALe n0 T h T ((h.set id .gone).set j (.mk v' t' s' (cs.set k (.sl n s false (cells.take (n*s)))))):=ALe.iceCellB false hi hj hne hk hl
def Gr (hc:Em P f=some af):enters P f=true:=by
 unfold Em at hc;split at hc <;> try (cases hc;done)
 rename_i fn hfn;split at hc <;> try (cases hc;done)
 rename_i hname;split at hc <;> try (cases hc;done)
 rename_i c hb;simp only[enters,hfn,hb];simp only[Bool.not_eq_true] at hname;simp[bne,hname]
def ACalls.enter (hc:Em P f=some af) {args:List AV}{R:AE->Prop}
  (hw : ∀ n,h.length=n->(∀ e∈h,e.lt n=true)->AV.ltL n args=true->aw P n af.code (retA af.res λx h' => ∃ z,h'=h++z/\x.lt n=true/\R x) (args++List.replicate (af.ntmps-args.length) .any) (h++[])):ACalls P f args h λx h'=>h'=h/\R x :=
 ⟨Gr hc,λw g vs hs ha=>(ACalls.gc_same (ACalls.of_aw hc (by
  have:=hw h.length rfl hs.ltE (RepL.lt (λi v l hl=>(hs.fresh i v l hl).1) _ _ ha);rwa [List.append_nil] at this))).2 w g vs hs ha⟩
def ACalls.enterG (hc:Em P f=some af) {args:List AV}{R:AE->AH->Prop}
  (hw : ∀ n,h.length=n->(∀ e∈h,e.lt n=true)->AV.ltL n args=true->aw P n af.code (retA af.res λx h' => ∃ y z,h'=y++z/\y.length=n/\(∀ e∈y,e.lt n=true)/\x.lt n=true/\R x y) (args++List.replicate (af.ntmps-args.length) .any) (h++[])):ACalls P f args h R :=
 ⟨Gr hc,λw g vs hs ha=>(ACalls.gc (ACalls.of_aw hc (by
  have:=hw h.length rfl hs.ltE (RepL.lt (λi v l hl=>(hs.fresh i v l hl).1) _ _ ha);rwa [List.append_nil] at this))).2 w g vs hs ha⟩
def LoopTo (n0:Nat) {ι:Type}(S:ι->List AV×AH) (I:ι->Prop) (m:ι->Nat) (i:ι) (T:List AV) (h:AH):Prop :=
 ∃ k,k<m i /\ ∃ T1 h1,ALe n0 T h T1 h1 /\ ∃ j,m j=k/\I j/\T1=(S j).1/\h1=(S j).2
def LoopTo.mk {ι:Type}{S:ι->List AV×AH}{I:ι->Prop}{m:ι->Nat}{i:ι}(j:ι) (hm:m j<m i) (hI:I j) (hl:ALe n0 T h (S j).1 (S j).2):LoopTo n0 S I m i T h :=
 ⟨m j,hm,_,_,hl,j,rfl,hI,rfl,rfl⟩
def qT {a:AC}{Q:AX->List AV->AH->Prop}{ι:Type}(S:ι->List AV×AH) (I:ι->Prop) (m:ι->Nat) (i0:ι) (hI:I i0) (h0:ALe n0 T h (S i0).1 (S i0).2)
  (round : ∀ i,I i->aw P n0 a (AX.thn (LoopTo n0 S I m i) Q) (S i).1 (S i).2):aw P n0 (.loop a) Q T h:=by
 refine⟨λn T h => ∃ i,m i=n/\I i/\T=(S i).1/\h=(S i).2,m i0,⟨_,_,h0,i0,rfl,hI,rfl,rfl⟩,?_⟩;rintro n T h ⟨i,rfl,hi,rfl,rfl⟩;exact round i hi
end
section
variable {P : Program} {n0 : Nat}
abbrev iv (n:Int):AV:=.v (.int .i64 n)
abbrev bv (b:Bool):AV:=.v (.bool b)
abbrev sv (s:ByteArray):AV:=.v (.string s)
section run
variable {Kp : AV -> List AV -> AH -> Prop} {K : List AV -> AH -> Prop} {rest : List AOper} {T T' : List AV} {h h' h0 ents ents' : AH} {rs : List Nat} {d : Option Nat} {op : AOp} {c : AV}
def noD (o:AOper):Bool:=Ge o&&!isL o.op
def s_val (hn:Ge ⟨d,none,op⟩=true) (hv:aval h (Ae T) op=some c) (hp:aPut T d c=T') (hk:arun P Kp rest T' h K):arun P Kp (⟨d,none,op⟩::rest) T h K:=by
  subst hp;refine⟨λ_=>?_,λh=>by cases h⟩
  have : (match aval h (Ae T) op with
      | some c=>arun P Kp rest (aPut T d c) h K
      | none=>match aeff h (Ae T) op with
        | some (c,h')=>arun P Kp rest (aPut T d c) h' K
        | none=>False):=by rw[hv];exact hk
  cases op <;> first | exact this | (simp[Ge] at hn;done)
def s_eff (hn:Ge ⟨d,none,op⟩=true) (hv:aval h (Ae T) op=none) (he:aeff h (Ae T) op=some (c,h')) (hp:aPut T d c=T') (hk:arun P Kp rest T' h' K):arun P Kp (⟨d,none,op⟩::rest) T h K:=by
  subst hp;refine⟨λ_=>?_,λh=>by cases h⟩
  have : (match aval h (Ae T) op with
      | some c=>arun P Kp rest (aPut T d c) h K
      | none=>match aeff h (Ae T) op with
        | some (c,h')=>arun P Kp rest (aPut T d c) h' K
        | none=>False):=by rw[hv,he];exact hk
  cases op <;> first | exact this | (simp[Ge] at hn;done)
def d_val (hn:noD ⟨d,none,op⟩=true) (hv:aval h0 (Ae T) op=some c) (hp:aPut T d c=T') (hk:adrun P rs h0 rest T' ents K):adrun P rs h0 (⟨d,none,op⟩::rest) T ents K:=by
  subst hp;refine⟨λ_=>?_,λh=>by cases h⟩
  have : (match aval h0 (Ae T) op with
      | some c=>adrun P rs h0 rest (aPut T d c) ents K
      | none => ∃ c ent,(aallo (h0.length+ents.length) (Ae T) op=some (c,ent)\/Fb (h0.length+ents.length) (Ae T) op=some (c,ent))/\adrun P rs h0 rest (aPut T d c) (ents++[ent]) K):=by rw[hv];exact hk
  cases op <;> first | exact this | (simp[noD,Ge,isL] at hn;done)
def D5 {ent:Ent}{id:Nat}(hn:noD ⟨d,none,op⟩=true) (hv:aval h0 (Ae T) op=none) (hl:h0.length+ents.length=id) (he:aallo id (Ae T) op=some (c,ent)) (hp:aPut T d c=T') (hx:ents++[ent]=ents') (hk:adrun P rs h0 rest T' ents' K):adrun P rs h0 (⟨d,none,op⟩::rest) T ents K:=by
  subst hp hx hl;refine⟨λ_=>?_,λh=>by cases h⟩
  have : (match aval h0 (Ae T) op with
      | some c=>adrun P rs h0 rest (aPut T d c) ents K
      | none => ∃ c ent,(aallo (h0.length+ents.length) (Ae T) op=some (c,ent)\/Fb (h0.length+ents.length) (Ae T) op=some (c,ent))/\adrun P rs h0 rest (aPut T d c) (ents++[ent]) K):=by rw[hv];exact⟨c,ent,.inl he,hk⟩
  cases op <;> first | exact this | (simp[noD,Ge,isL] at hn;done)
def d_effI {ent:Ent}{id:Nat}(hn:noD ⟨d,none,op⟩=true) (hv:aval h0 (Ae T) op=none) (hl:h0.length+ents.length=id) (he:Fb id (Ae T) op=some (c,ent)) (hp:aPut T d c=T') (hx:ents++[ent]=ents') (hk:adrun P rs h0 rest T' ents' K):adrun P rs h0 (⟨d,none,op⟩::rest) T ents K:=by
  subst hp hx hl;refine⟨λ_=>?_,λh=>by cases h⟩
  have : (match aval h0 (Ae T) op with
      | some c=>adrun P rs h0 rest (aPut T d c) ents K
      | none => ∃ c ent,(aallo (h0.length+ents.length) (Ae T) op=some (c,ent)\/Fb (h0.length+ents.length) (Ae T) op=some (c,ent))/\adrun P rs h0 rest (aPut T d c) (ents++[ent]) K):=by rw[hv];exact⟨c,ent,.inr he,hk⟩
  cases op <;> first | exact this | (simp[noD,Ge,isL] at hn;done)
def d_ldP {agg:Bool}{id:Nat}{x:Operand}(hx:Ae T x=.ptr id v off) (he:h0[id]?=some (.mk v ty s cells)) (hc:Ed agg sz (cells.drop off)=some c) (hm:id∈rs) (hp:aPut T d c=T') (hk:adrun P rs h0 rest T' ents K):adrun P rs h0 (⟨d,none,.loadR agg sz x⟩::rest) T ents K:=by
 subst hp;refine⟨λ_=>?_,λh=>by cases h⟩;simp only[adstep,hx];exact⟨ty,s,cells,c,he,hc,hm,hk⟩
def d_ldR {agg:Bool}{x:Operand}(hx:Ae T x=.rp cs) (hc:Ed agg sz cs=some c) (hp:aPut T d c=T') (hk:adrun P rs h0 rest T' ents K):adrun P rs h0 (⟨d,none,.loadR agg sz x⟩::rest) T ents K:=by
 subst hp;refine⟨λ_=>?_,λh=>by cases h⟩;simp only[adstep,hx,hc];exact hk
def U4 {q:List Bool}(hk:K T h):En P rs q [] T h K:=by cases q <;> exact hk
def Uz {m:Bool}{q:List Bool}(hn:Ge ⟨d,none,op⟩=true) (hv:aval h (Ae T) op=some c) (hp:aPut T d c=T') (hk:En P rs q rest T' h K):En P rs (m::q) (⟨d,none,op⟩::rest) T h K:=by
  subst hp;refine⟨λ_=>?_,λh=>by cases h⟩
  have : (match aval h (Ae T) op with
      | some c=>En P rs q rest (aPut T d c) h K
      | none=>match aeff h (Ae T) op with
        | some (c,h')=>(∀ id∈(bif m then rs else []),h'[id]?=h[id]?)/\En P rs q rest (aPut T d c) h' K
        | none=>False):=by rw[hv];exact hk
  cases op <;> first | exact this | (simp[Ge] at hn;done)
def U5 {m:Bool}{q:List Bool}(hn:Ge ⟨d,none,op⟩=true) (hv:aval h (Ae T) op=none) (he:aeff h (Ae T) op=some (c,h')) (hr : ∀ id∈(bif m then rs else []),h'[id]?=h[id]?) (hp:aPut T d c=T') (hk:En P rs q rest T' h' K):En P rs (m::q) (⟨d,none,op⟩::rest) T h K:=by
  subst hp;refine⟨λ_=>?_,λh=>by cases h⟩
  have : (match aval h (Ae T) op with
      | some c=>En P rs q rest (aPut T d c) h K
      | none=>match aeff h (Ae T) op with
        | some (c,h')=>(∀ id∈(bif m then rs else []),h'[id]?=h[id]?)/\En P rs q rest (aPut T d c) h' K
        | none=>False):=by rw[hv,he];exact⟨hr,hk⟩
  cases op <;> first | exact this | (simp[Ge] at hn;done)
def dN {m:Bool}{q:List Bool}{xs:List Operand}(hx:xs.map (Ae T)=ats) (hc:ACalls P f ats h λr h2=>r=.ret c/\h2=h') (hr : ∀ id∈(bif m then rs else []),h'[id]?=h[id]?) (hp:aPut T d c=T') (hk:En P rs q rest T' h' K):En P rs (m::q) (⟨d,none,.call (.func f) xs⟩::rest) T h K:=by
 subst hp hx;refine⟨λ_=>?_,λh=>by cases h⟩;exact⟨c,h',⟨rfl,rfl,hc.mono λr h2 hr=>⟨hr.2,hr.1⟩⟩,hr,hk⟩
def O9 {g:Option (Nat×Bool)}{f f':Bool->Prop}(hf : ∀ b,f b->f' b) (h:agd g T f):agd g T f':=by
 unfold agd at *;split
 .exact hf _ h
 .split <;> rename_i hx <;> simp only[hx] at h <;> first | exact hf _ h | exact h
def dL : ∀ {al:List AOper}{q:List Bool}{T:List AV}{h:AH},al.all Ge=true->arun P Kp al T h K->En P [] q al T h K
 | [],q,_,_,_,hr=>U4 hr
 | ⟨d,g,op⟩::al,q,T,h,hn,hr=>by
  simp only[List.all_cons,Bool.and_eq_true] at hn;simp only[arun] at hr;simp only[En];refine O9 (λb hb=>⟨λe=>?_,λe=>dL hn.2 (hb.2 e)⟩) hr;have h1:=hb.1 e
  have:(match aval h (Ae T) op with
   | some c=>En P [] q.tail al (aPut T d c) h K
   | none=>match aeff h (Ae T) op with
    | some (c,h')=>(∀ id∈(bif q.headD true then ([]:List Nat) else []),h'[id]?=h[id]?)/\En P [] q.tail al (aPut T d c) h' K
    | none=>False):=by
   have h2:(match aval h (Ae T) op with
    | some c=>arun P Kp al (aPut T d c) h K
    | none=>match aeff h (Ae T) op with
     | some (c,h')=>arun P Kp al (aPut T d c) h' K
     | none=>False):=by
    cases op <;> first | exact h1 | (simp[Ge] at hn;done)
   cases hv:aval h (Ae T) op with
   | some c=>rw[hv] at h2;exact dL hn.2 h2
   | none =>
    rw[hv] at h2
    cases hv2:aeff h (Ae T) op with
    | some p=>rw[hv2] at h2;exact⟨λ_ hm=>(by cases hq:q.headD true <;> rw[hq] at hm <;> cases hm),dL hn.2 h2⟩
    | none=>rw[hv2] at h2;exact h2
  cases op <;> first | exact this | (simp[Ge] at hn;done)
def s_do {t:Nat}{b:Bool}(ht:T[t]?=some (.v (.bool b))) (hk:arun P Kp (⟨d,none,op⟩::rest) T h K):arun P Kp (⟨d,some (t,b),op⟩::rest) T h K:=by
 have h1:=hk.1 rfl;simp only[arun,agd,ht];cases b <;> exact⟨λ_=>h1,λh=>(by cases h)⟩
def s_no {t:Nat}{b:Bool}(ht:T[t]?=some (.v (.bool (!b)))) (hp:aPut T d (.v undef)=T') (hk:arun P Kp rest T' h K):arun P Kp (⟨d,some (t,b),op⟩::rest) T h K:=by
 subst hp;simp only[arun,agd,ht];cases b <;> exact⟨λh=>(by cases h),λ_=>hk⟩
def s_nu {t:Nat}{b:Bool}{vs:Array Value}(ht:T[t]?=some (.v (.tuple vs))) (hp:aPut T d (.v undef)=T') (hk:arun P Kp rest T' h K):arun P Kp (⟨d,some (t,b),op⟩::rest) T h K:=by
 subst hp;simp only[arun,agd,ht];exact⟨λh=>(by cases h),λ_=>hk⟩
def d_do {t:Nat}{b:Bool}(ht:T[t]?=some (.v (.bool b))) (hk:adrun P rs h0 (⟨d,none,op⟩::rest) T ents K):adrun P rs h0 (⟨d,some (t,b),op⟩::rest) T ents K:=by
 have h1:=hk.1 rfl;simp only[adrun,agd,ht];cases b <;> exact⟨λ_=>h1,λh=>(by cases h)⟩
def d_no {t:Nat}{b:Bool}(ht:T[t]?=some (.v (.bool (!b)))) (hp:aPut T d (.v undef)=T') (hk:adrun P rs h0 rest T' ents K):adrun P rs h0 (⟨d,some (t,b),op⟩::rest) T ents K:=by
 subst hp;simp only[adrun,agd,ht];cases b <;> exact⟨λh=>(by cases h),λ_=>hk⟩
def d_nu {t:Nat}{b:Bool}{vs:Array Value}(ht:T[t]?=some (.v (.tuple vs))) (hp:aPut T d (.v undef)=T') (hk:adrun P rs h0 rest T' ents K):adrun P rs h0 (⟨d,some (t,b),op⟩::rest) T ents K:=by
 subst hp;simp only[adrun,agd,ht];exact⟨λh=>(by cases h),λ_=>hk⟩
def Tk {f:FuncId}{xs:List Operand}{ats:List AV}{R:AE->AH->Prop}(hx:xs.map (Ae T)=ats) (hc:ACalls P f ats h R) (hk : ∀ r h',R r h'->match r with
  | .ret c=>arun P Kp rest (aPut T d c) h' K
  | .pan c=>Kp c T h'):arun P Kp (⟨d,none,.call (.func f) xs⟩::rest) T h K:=by
 subst hx;refine⟨λ_=>?_,λh=>by cases h⟩;exact⟨rfl,rfl,hc.mono λr h' hr=>hk r h' hr⟩
def Af {xs:List Operand}(hx:xs.map (Ae T)=ats) (hc:ACalls P f ats h λr h'=>h'=h/\r=.ret c) (hp:aPut T d c=T') (hk:arun P Kp rest T' h K):arun P Kp (⟨d,none,.call (.func f) xs⟩::rest) T h K:=by
 subst hp;refine Tk hx hc ?_;rintro r h' ⟨rfl,rfl⟩;exact hk
def Br {xs:List Operand}(hx:xs.map (Ae T)=ats) (hc : ∀ h,HExt h0 h->ACalls P f ats h λr h'=>h'=h/\r=.ret c) (hp:aPut T d c=T') (hk:adrun P rs h0 rest T' ents K):adrun P rs h0 (⟨d,none,.call (.func f) xs⟩::rest) T ents K:=by
 subst hp hx;refine⟨λ_=>⟨c,λh hh=>⟨rfl,rfl,hc h hh⟩,hk⟩,λh=>by cases h⟩
end run
section vals
variable {h : AH} {T : List AV} {x y i : Operand} {c : AV}
def v_mv (hx:Ae T x=c):aval h (Ae T) (.mv x)=some c:=by simp only[aval,hx]
def Ar {a b k:Operand}(hk:Ae T k=bv true) (ha:Ae T a=c):aval h (Ae T) (.pick k a b)=some c:=by simp only[aval,hk,cond_true,ha]
def Ao {a b k:Operand}(hk:Ae T k=bv false) (hb:Ae T b=c):aval h (Ae T) (.pick k a b)=some c:=by simp only[aval,hk,cond_false,hb]
def Aa {id:Nat}(hx:Ae T x=.ptr id v o) (he:h[id]?=some (.mk v ty s cells)) (hc:cells[o]?=some c):aval h (Ae T) (.load false sz x)=some c:=by
 simp only[aval,hx,Fe,he,if_true,Option.bind_some];have:cells.drop o=c::cells.drop (o+1):=by
  obtain⟨hlt,rfl⟩:=List.getElem?_eq_some_iff.1 hc;exact List.drop_eq_getElem_cons hlt
 rw[this];rfl
def Ak {id:Nat}(hx:Ae T x=.ptr id v o) (he:h[id]?=some (.mk v ty s cells)) (hc:(cells.drop o).take sz=cs) (hl:cs.length=sz):aval h (Ae T) (.load true sz x)=some (.agg cs):=by
 simp only[aval,hx,Fe,he,if_true,Option.bind_some,Ed];subst hc;rw[List.length_take] at hl;rw[if_pos (by omega)]
def Ba {sz:Nat}{cells:List AV}(hx:Ae T x=.rp cells) (hc:cells[0]?=some c):aval h (Ae T) (.load false sz x)=some c:=by
 simp only[aval,hx,Fe,Option.bind_some];cases cells with
 | nil=>simp at hc
 | cons a l=>simp at hc;subst hc;rfl
def Fs {b:Nat}(hx:Ae T x=.rx b off cells) (hc:cells.take sz=cs) (hl:cs.length=sz):aval h (Ae T) (.load true sz x)=some (.agg cs):=by
 simp only[aval,hx,Fe,Option.bind_some,Ed];subst hc;rw[List.length_take] at hl;rw[if_pos (by omega)]
def Ax (hx:Ae T x=.rp cells) (hc:cells.take sz=cs) (hl:cs.length=sz):aval h (Ae T) (.load true sz x)=some (.agg cs):=by
 simp only[aval,hx,Fe,Option.bind_some,Ed];subst hc;rw[List.length_take] at hl;rw[if_pos (by omega)]
def Cr {id:Nat}(hx:Ae T x=.ptr id v o):aval h (Ae T) (.nck x)=some (.ptr id v o):=by simp only[aval,hx]
def Df {id:Nat}(hx:Ae T x=.ptr id v o):aval h (Ae T) (.fa off x)=some (.ptr id v (o+off)):=by simp only[aval,hx]
def G0 {id:Nat}(hx:Ae T x=.ptr id v 0):aval h (Ae T) (.fa off x)=some (.ptr id v off):=by simp only[aval,hx,Nat.zero_add]
def Cj {ds:List AV}(hx:Ae T x=.rp cs) (hd:cs.drop off=ds):aval h (Ae T) (.fa off x)=some (.rp ds):=by simp only[aval,hx,hd]
def v_fld (hx:Ae T x=.agg cs) (hc:cs[off]?=some c):aval h (Ae T) (.fld false off sz x)=some c:=by
 simp only[aval,hx,cY];have:cs.drop off=c::cs.drop (off+1):=by
  obtain⟨hlt,rfl⟩:=List.getElem?_eq_some_iff.1 hc;exact List.drop_eq_getElem_cons hlt
 rw[this];rfl
def Hl {op:BinOp}{a b:Value}(hx:Ae T x=.v a) (hy:Ae T y=.v b) (hv:vBin op a b=some c):aval h (Ae T) (.bin op x y)=some c:=by simp only[aval,hx,hy,hv]
def w64 {e:Int}(h1 : -9223372036854775808<=e) (h2:e<=9223372036854775807):IntKind.i64.wrap e=e:=by rw[IntKind.wrap_i64];omega
def Du {a:Int}(hx:Ae T x=iv a) (hy:Ae T y=iv b) (h1 : -9223372036854775808<=a+b) (h2:a+b<=9223372036854775807):aval h (Ae T) (.bin .add x y)=some (iv (a+b)):=Hl hx hy (by simp only[vBin,if_true,iBin,w64 h1 h2])
def Ch {a:Int}(hx:Ae T x=iv a) (hy:Ae T y=iv b) (h1 : -9223372036854775808<=a-b) (h2:a-b<=9223372036854775807):aval h (Ae T) (.bin .sub x y)=some (iv (a-b)):=Hl hx hy (by simp only[vBin,if_true,iBin,w64 h1 h2])
def J8 {a:Int}(hx:Ae T x=iv a) (hy:Ae T y=iv b) (h1 : -9223372036854775808<=a*b) (h2:a*b<=9223372036854775807):aval h (Ae T) (.bin .mul x y)=some (iv (a*b)):=Hl hx hy (by simp only[vBin,if_true,iBin,w64 h1 h2])
def Mj {a:Int}(hx:Ae T x=iv a) (hy:Ae T y=iv b) (h0:0<=a) (hb:0<b) (h2:a<=9223372036854775807):aval h (Ae T) (.bin .quo x y)=some (iv (a/b)):=Hl hx hy (by
 have e:a.tdiv b=a/b:=Int.tdiv_eq_ediv_of_nonneg h0;have h3:a/b<=a:=Int.ediv_le_self _ h0;have h4:0<=a/b:=Int.ediv_nonneg h0 (by omega);simp only[vBin,if_true,iBin,if_neg (show ¬b=0 by omega),e,w64 (show -9223372036854775808<=a/b by omega) (show a/b<=9223372036854775807 by omega)])
def Lm {a:Int}(hx:Ae T x=.v (.int k a)) (hy:Ae T y=.v (.int k b)) (h0:0<=a) (hb:b≠0):aval h (Ae T) (.bin .rem x y)=some (.v (.int k (a%b))):=Hl hx hy (by
 have e:a.tmod b=a%b:=Int.tmod_eq_emod_of_nonneg h0;simp only[vBin,if_true,iBin,if_neg hb,e])
def bU {a:Int}(hx:Ae T x=.v (.int k a)) (hy:Ae T y=.v (.int k b)) (hb:b≠0):aval h (Ae T) (.bin .rem x y)=some (.v (.int k (a.tmod b))):=Hl hx hy (by simp only[vBin,if_true,iBin,if_neg hb])
def Bm {a:Int}(hx:Ae T x=.v (.int k a)) (hy:Ae T y=.v (.int k b)):aval h (Ae T) (.bin .lss x y)=some (bv (decide (a<b))):=Hl hx hy (by simp only[vBin,if_true,iBin])
def Gy {a:Int}(hx:Ae T x=.v (.int k a)) (hy:Ae T y=.v (.int k b)):aval h (Ae T) (.bin .leq x y)=some (bv (decide (a<=b))):=Hl hx hy (by simp only[vBin,if_true,iBin])
def C7 {a:Int}(hx:Ae T x=.v (.int k a)) (hy:Ae T y=.v (.int k b)):aval h (Ae T) (.bin .gtr x y)=some (bv (decide (b<a))):=Hl hx hy (by simp only[vBin,if_true,iBin,gt_iff_lt])
def Gz {a:Int}(hx:Ae T x=.v (.int k a)) (hy:Ae T y=.v (.int k b)):aval h (Ae T) (.bin .geq x y)=some (bv (decide (b<=a))):=Hl hx hy (by simp only[vBin,if_true,iBin,ge_iff_le])
def Cy {a:Int}(hx:Ae T x=.v (.int k a)) (hy:Ae T y=.v (.int k b)):aval h (Ae T) (.bin .eql x y)=some (bv (decide (a=b))):=Hl hx hy (by simp only[vBin,if_true,iBin];rfl)
def Ca {a:Int}(hx:Ae T x=.v (.int k a)) (hy:Ae T y=.v (.int k b)):aval h (Ae T) (.bin .neq x y)=some (bv (decide (a≠b))):=Hl hx hy (by
 simp only[vBin,if_true,iBin];by_cases hab:a=b <;> simp[hab])
def Ko (a b:ByteArray):(a==b)=decide (a=b):=by
 rw[beq_toListBytes,ByteArray.toList_eq,ByteArray.toList_eq];by_cases h:a=b
 .subst h;simp
 .have:a.data≠b.data:=λe=>h (ByteArray.ext e);simp[h,this]
def J6 {a b:ByteArray}(hx:Ae T x=sv a) (hy:Ae T y=sv b):aval h (Ae T) (.bin .eql x y)=some (bv (decide (a=b))):=Hl hx hy (by simp only[vBin,sBin,Ko])
def H7 {a b:ByteArray}(hx:Ae T x=sv a) (hy:Ae T y=sv b):aval h (Ae T) (.bin .neq x y)=some (bv (decide (a≠b))):=Hl hx hy (by
 simp only[vBin,sBin,Ko];by_cases hab:a=b <;> simp[hab])
def v_addS {a b:ByteArray}(hx:Ae T x=sv a) (hy:Ae T y=sv b) (hl:a.size+b.size<=9223372036854775807):aval h (Ae T) (.bin .add x y)=some (sv (a++b)):=Hl hx hy (by simp only[vBin,sBin,if_pos hl])
def v_eqb {neg a b:Bool}(hx:Ae T x=bv a) (hy:Ae T y=bv b):aval h (Ae T) (.eqb neg x y)=some (bv (bif neg then !(a==b) else a==b)):=by simp only[aval,hx,hy]
def v_eqs {neg b:Bool}{ks:List LK}{ds:List AV}(hx:Ae T x=.agg cs) (hy:Ae T y=.agg ds) (he:Ei ks cs ds=some b):aval h (Ae T) (.eqs neg ks x y)=some (bv (bif neg then !b else b)):=by simp only[aval,hx,hy,he,Option.map_some]
def v_neg {a:Int}(hx:Ae T x=iv a) (h1 : -9223372036854775807<=a) (h2:a<=9223372036854775807):aval h (Ae T) (.un .neg x)=some (iv (-a)):=by simp only[aval,hx,Int.zero_sub,w64 (show -9223372036854775808 <= -a by omega) (show -a<=9223372036854775807 by omega)]
def v_not {p:Prop} [Decidable p] (hx:Ae T x=bv (decide p)):aval h (Ae T) (.un .not x)=some (bv (decide (¬p))):=by
 simp only[aval,hx];by_cases hp:p <;> simp[hp]
def v_lssS {a b:ByteArray}(hx:Ae T x=sv a) (hy:Ae T y=sv b):aval h (Ae T) (.bin .lss x y)=some (bv (Op.bytesLess a.toList b.toList)):=Hl hx hy (by simp only[vBin,sBin])
def v_leqS {a b:ByteArray}(hx:Ae T x=sv a) (hy:Ae T y=sv b):aval h (Ae T) (.bin .leq x y)=some (bv (Op.bytesLess a.toList b.toList||a.toList==b.toList)):=Hl hx hy (by simp only[vBin,sBin])
def v_gtrS {a b:ByteArray}(hx:Ae T x=sv a) (hy:Ae T y=sv b):aval h (Ae T) (.bin .gtr x y)=some (bv (!(Op.bytesLess a.toList b.toList||a.toList==b.toList))):=Hl hx hy (by simp only[vBin,sBin])
def v_shr {a:Int}(hx:Ae T x=.v (.int k a)) (hy:Ae T y=.v (.int k' b)) (hb:¬b<0):aval h (Ae T) (.bin .shr x y)=some (.v (.int k (a.fdiv (2 ^ (min b.toNat k.bits))))):=Hl hx hy (by simp only[vBin,if_neg hb])
def v_cvi {a:Int}(hx:Ae T x=.v (.int k' a)):aval h (Ae T) (.cvi k x)=some (.v (.int k (k.wrap a))):=by simp only[aval,hx]
def Vp {a:Int}(hx:Ae T x=.v (.int k' a)) (h1 : -9223372036854775808<=a) (h2:a<=9223372036854775807):aval h (Ae T) (.cvi .i64 x)=some (iv a):=by simp only[aval,hx,w64 h1 h2]
def v_ix {s:ByteArray}{j:Int}(hx:Ae T x=sv s) (hi:Ae T i=.v (.int k j)) (h0:0<=j) (h1:j<s.size):aval h (Ae T) (.ix x i)=some (.v (.int .u8 (Dy s j.toNat).toNat)):=by simp only[aval,hx,hi,if_pos (And.intro h0 h1)]
def B7 (hx:Ae T x=.tup l) (hl:l[n]?=some c):aval h (Ae T) (.ext x n)=some c:=by simp only[aval,hx,hl]
def E6 {s:ByteArray}(hx:Ae T x=sv s):aval h (Ae T) (.len true x)=some (iv s.size):=by simp only[aval,hx]
def Bf {full:Bool}(hx:Ae T x=.sl n st full cs):aval h (Ae T) (.len false x)=some (iv n):=by simp only[aval,hx]
def Ej {id:Nat}(hx:Ae T x=.own id v n):aval h (Ae T) (.len false x)=some (iv n):=by simp only[aval,hx]
def v_ia {full:Bool}{ds:List AV}{j:Int}(hx:Ae T x=.sl n st full cs) (hi:Ae T i=.v (.int k j)) (hst:0<st) (h0:0<=j) (h1:j<n) (hd:(cs.drop (j.toNat*st)).take st=ds):aval h (Ae T) (.ia st x i)=some (.rp ds):=by
 simp[aval,hx,hi,hst,h0,h1,hd]
def v_iaO {id:Nat}{j:Int}(hx:Ae T x=.own id v n) (hi:Ae T i=.v (.int k j)) (he:h[id]?=some (.mk v ty st cells)) (hst:0<st) (h0:0<=j) (h1:j<n) (hl:n*st<=cells.length):aval h (Ae T) (.ia st x i)=some (.ptr id v (j.toNat*st)):=by
 simp[aval,hx,hi,he,hst,h0,h1,hl]
def Bb {ps:List (Nat×Nat×Operand)}(hf:Cm (Ae T) ps zero=some cs):aval h (Ae T) (.build zero ps)=some (.agg cs):=by simp only[aval,hf,Option.map_some]
def eZ {s:ByteArray}{lo hi:Option Operand}{l u:Int}(hx:Ae T x=sv s) (hl:Dm (Ae T) 0 lo=some l) (hh:Dm (Ae T) s.size hi=some u) (h0:0<=l) (h1:l<=u) (h2:u<=s.size):aval h (Ae T) (.sls x lo hi)=some (sv (s.extract l.toNat u.toNat)):=by
 simp only[aval,hx,hl,hh,if_pos (And.intro h0 (And.intro h1 h2))]
def v_slc {full:Bool}{lo hi:Option Operand}{l u:Int}(hx:Ae T x=.sl n st full cs) (hl:Dm (Ae T) 0 lo=some l) (hh:Dm (Ae T) n hi=some u) (h0:0<=l) (h1:l<=u) (h2:u<=n) :
  aval h (Ae T) (.slc st x lo hi none)=some (.sl (u.toNat-l.toNat) st (full&&decide (u=n)) ((cs.drop (l.toNat*st)).take ((u.toNat-l.toNat)*st))):=by
 simp[aval,hx,hl,hh,h0,h1,h2]
def kU {f:Nat}{caps:List Operand}(hc:caps.map (Ae T)=cs):aval h (Ae T) (.mkbd f caps)=some (.bnd (.func f) cs):=by simp only[aval,hc]
def J5 {f:Nat}{caps:List Operand}(hc:caps.map (Ae T)=cs):aval h (Ae T) (.mkfn f caps)=some (.clo (.func f) cs):=by simp only[aval,hc]
def v_cap (hx:Ae T x=.sl n st true cs):aval h (Ae T) (.cap x)=some (iv n):=by simp only[aval,hx]
def v_mm {m:Bool}{a:Int}(hx:Ae T x=.v (.int k a)) (hy:Ae T y=.v (.int k' b)):aval h (Ae T) (.mm m x y)=some (.v (.int k (bif m then (if b>a then b else a) else (if b<a then b else a)))):=by simp only[aval,hx,hy]
end vals
section effs
variable {h h' : AH} {T : List AV} {x y : Operand} {c : AV}
def Bz {id:Nat}{z:List AV}(hl:h.length=id) (hh:h++[.mk 0 ty sz z]=h'):aeff h (Ae T) (.new ty sz z)=some (.ptr id 0 0,h'):=by subst hl hh;rfl
def Bq {id:Nat}(hc:D8 (Ae T x)=some cs) (hs:cs.length=sz) (hl:h.length=id) (hh:h++[.mk 0 ty sz cs]=h'):aeff h (Ae T) (.box ty sz x)=some (.ptr id 0 0,h'):=by
 subst hl hh;simp only[aeff,hc,if_pos hs]
def Ep {len id:Nat}{ps:List (Nat×Nat×Operand)}(hf:Cm (Ae T) ps zero=some cs) (hl:h.length=id) (hh:h++[.mk 0 ty st cs]=h'):aeff h (Ae T) (.lit ty st len zero ps)=some (.own id 0 len,h'):=by
 subst hl hh;simp only[aeff,hf]
def Ai {id:Nat}{cells':List AV}(hp:Ae T x=.ptr id v o) (hc:D8 (Ae T y)=some cs) (he:h[id]?=some (.mk v ty s cells)) (hs:cs.length=sz) (hle:o+sz<=cells.length) (hlf:cs.all leaf=true) (hst:setCells cells o cs=cells') (hh:h.set id (.mk v ty s cells')=h') :
  aeff h (Ae T) (.store sz x y)=some (.v undef,h'):=by
 subst hst hh;simp only[aeff,hp,hc,he];rw[if_pos ⟨trivial,hs,hle,hlf⟩]
def C6 {bytes id m:Nat}{news:List AV}(hx:Et h sz (Ae T y)=some (m,news)) (hs:Ae T x=.own id v n) (he:h[id]?=some (.mk v ty sz cells)) (hl:cells.length=n*sz) (hb:(n+m)*bytes<=140737488355328) (hlf:news.all leaf=true) (hh:h.set id (.mk (v+1) ty sz (cells++news))=h') :
  aeff h (Ae T) (.app ty sz bytes x y)=some (.own id (v+1) (n+m),h'):=by
 subst hh;simp only[aeff,hx,hs,he];rw[if_pos ⟨trivial,trivial,trivial,hl,.inl hb,hlf⟩]
def e_appz {bytes id:Nat}{k:Int}{kd:IntKind}(hs:Ae T x=.sl 0 st true cs) (hy:Ae T y=.v (.int kd k)) (h0:0<k) (hz:0<sz) (hb0:0<bytes) (hb:k*bytes<=140737488355328) (hl:h.length=id) (hh:h++[.mk 0 ty sz []]=h') :
  aeff h (Ae T) (.appz ty sz bytes x y)=some (.own id 0 k.toNat,h'):=by
 subst hl hh;simp only[aeff,hs,hy,if_pos (And.intro h0 (And.intro hz (And.intro hb0 hb)))]
def Lv {id:Nat}{z:List AV}:aallo id (Ae T) (.new ty sz z)=some (.ptr id 0 0,.mk 0 ty sz z):=rfl
def l_box {id:Nat}(hc:D8 (Ae T x)=some cs) (hs:cs.length=sz):aallo id (Ae T) (.box ty sz x)=some (.ptr id 0 0,.mk 0 ty sz cs):=by simp only[aallo,hc,if_pos hs]
def l_litI {len id:Nat}{ps:List (Nat×Nat×Operand)}(hf:Cm (Ae T) ps zero=some cs) (hl:cs.length=len*st):Fb id (Ae T) (.lit ty st len zero ps)=some (.sl len st false cs,.gone):=by simp only[Fb,hf,if_pos hl]
def G8 {len id:Nat}{ps:List (Nat×Nat×Operand)}(hf:Cm (Ae T) ps zero=some cs):aallo id (Ae T) (.lit ty st len zero ps)=some (.own id 0 len,.mk 0 ty st cs):=by simp only[aallo,hf]
end effs
section code
variable {Q : AX -> List AV -> AH -> Prop} {T : List AV} {h : AH} {a b : AC}
def Aq {al:List AOper}(hr:arun P (λc T h=>Q (.pan c) T h) al T h (λT h=>Q .normal T h)):aw P n0 (.reg al) Q T h:=hr
def w_drw {bl tl:List AOper}{q:List Bool}{rs:List Nat}(hr:adrun P rs h bl T [] λT ents=>En P rs q tl T (h++ents) (λT h=>Q .normal T h)):aw P n0 (.drw bl q tl) Q T h:=⟨rs,hr⟩
def Ab (hr:aw P n0 a (AX.thn (λT h => ∃ T1 h1,ALe n0 T h T1 h1/\aw P n0 b Q T1 h1) Q) T h):aw P n0 (.seq a b) Q T h:=hr
def Ah {id:Nat}(hr:aw P n0 a (AX.blk id Q) T h):aw P n0 (.block id a) Q T h:=hr
def Cx {c:Operand}(hc:Ae T c=bv true) (hy:aw P n0 a Q T h):aw P n0 (.cond c a b) Q T h:=by
 simp only[aw,hc];exact⟨λ_=>hy,λe=>(by cases e)⟩
def Cf {c:Operand}(hc:Ae T c=bv false) (hn:aw P n0 b Q T h):aw P n0 (.cond c a b) Q T h:=by
 simp only[aw,hc];exact⟨λe=>(by cases e),λ_=>hn⟩
def Ad {rs:List AR}{R:AE->AH->Prop}(hr:aRes rs T h=some c) (hR:R (.ret c) h):retA rs R .ret T h:=by simp only[retA,hr];exact hR
def Ul {rs:List AR}{R:AE->AH->Prop}(hr:aRes rs T h=some c) (hR:R (.ret c) h):retA rs R .normal T h:=by simp only[retA,hr];exact hR
end code
end
section
variable {g i j o p q r t u v w y z A B C D E F G H I J K L M N O P Q R S U V W X Y Z α β γ δ ε ζ η θ ι κ μ ν ξ π ρ σ τ υ φ χ ψ ω b60 b61 b62 b63 b64 b65 b66 b67 b68 b69 c d : AV} {l m : List AV}
class Lk (T:List AV) (o:Operand) (c:outParam AV):Prop where
  h:Ae T o=c
class Pt (T:List AV) (d:Option Nat) (c:AV) (U:outParam (List AV)):Prop where
  h:aPut T d c=U
class Gt (T:List AV) (n:Nat) (c:outParam AV):Prop where
  h:T[n]?=some c
def lk {o:Operand}[i:Lk T o c]:Ae T o=c:=i.h
def pt {U:List AV}{d:Option Nat}[i:Pt T d c U]:aPut T d c=U:=i.h
def gt [i:Gt T n c]:T[n]?=some c:=i.h
section
variable {A B D E F G H I J K M N O P Q R c:AV}{l m:List AV}{n:Nat}
instance:Lk (A::l) (.tmp 0) A:=⟨rfl⟩
instance:Pt (A::l) (some 0) c (c::l):=⟨rfl⟩
instance:Gt (A::l) 0 A:=⟨rfl⟩
instance:Lk (A::B::l) (.tmp 1) B:=⟨rfl⟩
instance:Pt (A::B::l) (some 1) c (A::c::l):=⟨rfl⟩
instance:Gt (A::B::l) 1 B:=⟨rfl⟩
instance:Lk (A::B::D::l) (.tmp 2) D:=⟨rfl⟩
instance:Pt (A::B::D::l) (some 2) c (A::B::c::l):=⟨rfl⟩
instance:Gt (A::B::D::l) 2 D:=⟨rfl⟩
instance:Lk (A::B::D::E::l) (.tmp 3) E:=⟨rfl⟩
instance:Pt (A::B::D::E::l) (some 3) c (A::B::D::c::l):=⟨rfl⟩
instance:Gt (A::B::D::E::l) 3 E:=⟨rfl⟩
instance:Lk (A::B::D::E::F::l) (.tmp 4) F:=⟨rfl⟩
instance:Pt (A::B::D::E::F::l) (some 4) c (A::B::D::E::c::l):=⟨rfl⟩
instance:Gt (A::B::D::E::F::l) 4 F:=⟨rfl⟩
instance:Lk (A::B::D::E::F::G::l) (.tmp 5) G:=⟨rfl⟩
instance:Pt (A::B::D::E::F::G::l) (some 5) c (A::B::D::E::F::c::l):=⟨rfl⟩
instance:Gt (A::B::D::E::F::G::l) 5 G:=⟨rfl⟩
instance:Lk (A::B::D::E::F::G::H::l) (.tmp 6) H:=⟨rfl⟩
instance:Pt (A::B::D::E::F::G::H::l) (some 6) c (A::B::D::E::F::G::c::l):=⟨rfl⟩
instance:Gt (A::B::D::E::F::G::H::l) 6 H:=⟨rfl⟩
instance:Lk (A::B::D::E::F::G::H::I::l) (.tmp 7) I:=⟨rfl⟩
instance:Pt (A::B::D::E::F::G::H::I::l) (some 7) c (A::B::D::E::F::G::H::c::l):=⟨rfl⟩
instance:Gt (A::B::D::E::F::G::H::I::l) 7 I:=⟨rfl⟩
instance:Lk (A::B::D::E::F::G::H::I::J::l) (.tmp 8) J:=⟨rfl⟩
instance:Pt (A::B::D::E::F::G::H::I::J::l) (some 8) c (A::B::D::E::F::G::H::I::c::l):=⟨rfl⟩
instance:Gt (A::B::D::E::F::G::H::I::J::l) 8 J:=⟨rfl⟩
instance:Lk (A::B::D::E::F::G::H::I::J::K::l) (.tmp 9) K:=⟨rfl⟩
instance:Pt (A::B::D::E::F::G::H::I::J::K::l) (some 9) c (A::B::D::E::F::G::H::I::J::c::l):=⟨rfl⟩
instance:Gt (A::B::D::E::F::G::H::I::J::K::l) 9 K:=⟨rfl⟩
instance:Lk (A::B::D::E::F::G::H::I::J::K::M::l) (.tmp 10) M:=⟨rfl⟩
instance:Pt (A::B::D::E::F::G::H::I::J::K::M::l) (some 10) c (A::B::D::E::F::G::H::I::J::K::c::l):=⟨rfl⟩
instance:Gt (A::B::D::E::F::G::H::I::J::K::M::l) 10 M:=⟨rfl⟩
instance:Lk (A::B::D::E::F::G::H::I::J::K::M::N::l) (.tmp 11) N:=⟨rfl⟩
instance:Pt (A::B::D::E::F::G::H::I::J::K::M::N::l) (some 11) c (A::B::D::E::F::G::H::I::J::K::M::c::l):=⟨rfl⟩
instance:Gt (A::B::D::E::F::G::H::I::J::K::M::N::l) 11 N:=⟨rfl⟩
instance:Lk (A::B::D::E::F::G::H::I::J::K::M::N::O::l) (.tmp 12) O:=⟨rfl⟩
instance:Pt (A::B::D::E::F::G::H::I::J::K::M::N::O::l) (some 12) c (A::B::D::E::F::G::H::I::J::K::M::N::c::l):=⟨rfl⟩
instance:Gt (A::B::D::E::F::G::H::I::J::K::M::N::O::l) 12 O:=⟨rfl⟩
instance:Lk (A::B::D::E::F::G::H::I::J::K::M::N::O::P::l) (.tmp 13) P:=⟨rfl⟩
instance:Pt (A::B::D::E::F::G::H::I::J::K::M::N::O::P::l) (some 13) c (A::B::D::E::F::G::H::I::J::K::M::N::O::c::l):=⟨rfl⟩
instance:Gt (A::B::D::E::F::G::H::I::J::K::M::N::O::P::l) 13 P:=⟨rfl⟩
instance:Lk (A::B::D::E::F::G::H::I::J::K::M::N::O::P::Q::l) (.tmp 14) Q:=⟨rfl⟩
instance:Pt (A::B::D::E::F::G::H::I::J::K::M::N::O::P::Q::l) (some 14) c (A::B::D::E::F::G::H::I::J::K::M::N::O::P::c::l):=⟨rfl⟩
instance:Gt (A::B::D::E::F::G::H::I::J::K::M::N::O::P::Q::l) 14 Q:=⟨rfl⟩
instance:Lk (A::B::D::E::F::G::H::I::J::K::M::N::O::P::Q::R::l) (.tmp 15) R:=⟨rfl⟩
instance:Pt (A::B::D::E::F::G::H::I::J::K::M::N::O::P::Q::R::l) (some 15) c (A::B::D::E::F::G::H::I::J::K::M::N::O::P::Q::c::l):=⟨rfl⟩
instance:Gt (A::B::D::E::F::G::H::I::J::K::M::N::O::P::Q::R::l) 15 R:=⟨rfl⟩
instance (priority := high) [i:Lk l (.tmp n) c]:Lk (A::B::D::E::F::G::H::I::J::K::M::N::O::P::Q::R::l) (.tmp (n+16)) c:=⟨i.h⟩
instance (priority := high) [i:Pt l (some n) c m]:Pt (A::B::D::E::F::G::H::I::J::K::M::N::O::P::Q::R::l) (some (n+16)) c (A::B::D::E::F::G::H::I::J::K::M::N::O::P::Q::R::m):=⟨by have h:=i.h;show _=_;simp only [aPut] at h ⊢;rw [<-h];rfl⟩
instance (priority := high) [i:Gt l n c]:Gt (A::B::D::E::F::G::H::I::J::K::M::N::O::P::Q::R::l) (n+16) c:=⟨i.h⟩
end
def lk0:Ae (g::l) (.tmp 0)=g:=rfl
def pt0:aPut (g::l) (some 0) c=c::l:=rfl
def gt0:(g::l)[0]?=some g:=rfl
def lk1:Ae (g::i::l) (.tmp 1)=i:=rfl
def pt1:aPut (g::i::l) (some 1) c=g::c::l:=rfl
def gt1:(g::i::l)[1]?=some i:=rfl
def pt2:aPut (g::i::j::l) (some 2) c=g::i::c::l:=rfl
def gt2:(g::i::j::l)[2]?=some j:=rfl
def lk3:Ae (g::i::j::o::l) (.tmp 3)=o:=rfl
def pt3:aPut (g::i::j::o::l) (some 3) c=g::i::j::c::l:=rfl
def gt3:(g::i::j::o::l)[3]?=some o:=rfl
def lk4:Ae (g::i::j::o::p::l) (.tmp 4)=p:=rfl
def pt4:aPut (g::i::j::o::p::l) (some 4) c=g::i::j::o::c::l:=rfl
def gt4:(g::i::j::o::p::l)[4]?=some p:=rfl
def pt5:aPut (g::i::j::o::p::q::l) (some 5) c=g::i::j::o::p::c::l:=rfl
def gt5:(g::i::j::o::p::q::l)[5]?=some q:=rfl
def lk6:Ae (g::i::j::o::p::q::r::l) (.tmp 6)=r:=rfl
def pt6:aPut (g::i::j::o::p::q::r::l) (some 6) c=g::i::j::o::p::q::c::l:=rfl
def gt6:(g::i::j::o::p::q::r::l)[6]?=some r:=rfl
def pt7:aPut (g::i::j::o::p::q::r::t::l) (some 7) c=g::i::j::o::p::q::r::c::l:=rfl
def gt7:(g::i::j::o::p::q::r::t::l)[7]?=some t:=rfl
def pt8:aPut (g::i::j::o::p::q::r::t::u::l) (some 8) c=g::i::j::o::p::q::r::t::c::l:=rfl
def gt8:(g::i::j::o::p::q::r::t::u::l)[8]?=some u:=rfl
def pt9:aPut (g::i::j::o::p::q::r::t::u::v::l) (some 9) c=g::i::j::o::p::q::r::t::u::c::l:=rfl
def gt9:(g::i::j::o::p::q::r::t::u::v::l)[9]?=some v:=rfl
def pt10:aPut (g::i::j::o::p::q::r::t::u::v::w::l) (some 10) c=g::i::j::o::p::q::r::t::u::v::c::l:=rfl
def gt10:(g::i::j::o::p::q::r::t::u::v::w::l)[10]?=some w:=rfl
def pt11:aPut (g::i::j::o::p::q::r::t::u::v::w::y::l) (some 11) c=g::i::j::o::p::q::r::t::u::v::w::c::l:=rfl
def gt11:(g::i::j::o::p::q::r::t::u::v::w::y::l)[11]?=some y:=rfl
def pt12:aPut (g::i::j::o::p::q::r::t::u::v::w::y::z::l) (some 12) c=g::i::j::o::p::q::r::t::u::v::w::y::c::l:=rfl
def lk13:Ae (g::i::j::o::p::q::r::t::u::v::w::y::z::A::l) (.tmp 13)=A:=rfl
def pt13:aPut (g::i::j::o::p::q::r::t::u::v::w::y::z::A::l) (some 13) c=g::i::j::o::p::q::r::t::u::v::w::y::z::c::l:=rfl
def lk14:Ae (g::i::j::o::p::q::r::t::u::v::w::y::z::A::B::l) (.tmp 14)=B:=rfl
def pt14:aPut (g::i::j::o::p::q::r::t::u::v::w::y::z::A::B::l) (some 14) c=g::i::j::o::p::q::r::t::u::v::w::y::z::A::c::l:=rfl
def lk17:Ae (g::i::j::o::p::q::r::t::u::v::w::y::z::A::B::C::D::E::l) (.tmp 17)=E:=rfl
def lk18:Ae (g::i::j::o::p::q::r::t::u::v::w::y::z::A::B::C::D::E::F::l) (.tmp 18)=F:=rfl
def pt18:aPut (g::i::j::o::p::q::r::t::u::v::w::y::z::A::B::C::D::E::F::l) (some 18) c=g::i::j::o::p::q::r::t::u::v::w::y::z::A::B::C::D::E::c::l:=rfl
def gt18:(g::i::j::o::p::q::r::t::u::v::w::y::z::A::B::C::D::E::F::l)[18]?=some F:=rfl
def lk19:Ae (g::i::j::o::p::q::r::t::u::v::w::y::z::A::B::C::D::E::F::G::l) (.tmp 19)=G:=rfl
def pt19:aPut (g::i::j::o::p::q::r::t::u::v::w::y::z::A::B::C::D::E::F::G::l) (some 19) c=g::i::j::o::p::q::r::t::u::v::w::y::z::A::B::C::D::E::F::c::l:=rfl
def pt20:aPut (g::i::j::o::p::q::r::t::u::v::w::y::z::A::B::C::D::E::F::G::H::l) (some 20) c=g::i::j::o::p::q::r::t::u::v::w::y::z::A::B::C::D::E::F::G::c::l:=rfl
def lk21:Ae (g::i::j::o::p::q::r::t::u::v::w::y::z::A::B::C::D::E::F::G::H::I::l) (.tmp 21)=I:=rfl
def pt21:aPut (g::i::j::o::p::q::r::t::u::v::w::y::z::A::B::C::D::E::F::G::H::I::l) (some 21) c=g::i::j::o::p::q::r::t::u::v::w::y::z::A::B::C::D::E::F::G::H::c::l:=rfl
def pt22:aPut (g::i::j::o::p::q::r::t::u::v::w::y::z::A::B::C::D::E::F::G::H::I::J::l) (some 22) c=g::i::j::o::p::q::r::t::u::v::w::y::z::A::B::C::D::E::F::G::H::I::c::l:=rfl
def lk23:Ae (g::i::j::o::p::q::r::t::u::v::w::y::z::A::B::C::D::E::F::G::H::I::J::K::l) (.tmp 23)=K:=rfl
def pt23:aPut (g::i::j::o::p::q::r::t::u::v::w::y::z::A::B::C::D::E::F::G::H::I::J::K::l) (some 23) c=g::i::j::o::p::q::r::t::u::v::w::y::z::A::B::C::D::E::F::G::H::I::J::c::l:=rfl
def lk26:Ae (g::i::j::o::p::q::r::t::u::v::w::y::z::A::B::C::D::E::F::G::H::I::J::K::L::M::N::l) (.tmp 26)=N:=rfl
def pt26:aPut (g::i::j::o::p::q::r::t::u::v::w::y::z::A::B::C::D::E::F::G::H::I::J::K::L::M::N::l) (some 26) c=g::i::j::o::p::q::r::t::u::v::w::y::z::A::B::C::D::E::F::G::H::I::J::K::L::M::c::l:=rfl
def hg0 (hn:h.length=n) {l:AH}:(h++(e0::l))[n+0]?=some e0:=by subst hn;simp
def hs0 (hn:h.length=n:=by assumption) {e:Ent}{l:AH}:(h++(e0::l)).set (n+0) e=h++(e::l):=by subst hn;simp
def hl0 (hn:h.length=n:=by assumption):(h++[]).length=n+0:=by subst hn;simp
def ha0 { e:Ent}:(h++[])++[e]=h++[e]:=by simp
def hs1 (hn:h.length=n:=by assumption) {e:Ent}{l:AH}:(h++(e0::e1::l)).set (n+1) e=h++(e0::e::l):=by subst hn;simp
def hl1 (hn:h.length=n:=by assumption) :(h++[e0]).length=n+1:=by subst hn;simp
def ha1 {e:Ent}:(h++[e0])++[e]=h++[e0,e]:=by simp
def hg2 (hn:h.length=n) {l:AH}:(h++(e0::e1::e2::l))[n+2]?=some e2:=by subst hn;simp
def hs2 (hn:h.length=n:=by assumption) {e:Ent}{l:AH}:(h++(e0::e1::e2::l)).set (n+2) e=h++(e0::e1::e::l):=by subst hn;simp
def hl2 (hn:h.length=n:=by assumption) :(h++[e0,e1]).length=n+2:=by subst hn;simp
def ha2 {e:Ent}:(h++[e0,e1])++[e]=h++[e0,e1,e]:=by simp
def hg3 (hn:h.length=n) {l:AH}:(h++(e0::e1::e2::e3::l))[n+3]?=some e3:=by subst hn;simp
def hs3 (hn:h.length=n:=by assumption) {e:Ent}{l:AH}:(h++(e0::e1::e2::e3::l)).set (n+3) e=h++(e0::e1::e2::e::l):=by subst hn;simp
def hl3 (hn:h.length=n:=by assumption) :(h++[e0,e1,e2]).length=n+3:=by subst hn;simp
def ha3 {e:Ent}:(h++[e0,e1,e2])++[e]=h++[e0,e1,e2,e]:=by simp
def hs4 (hn:h.length=n:=by assumption) {e:Ent}{l:AH}:(h++(e0::e1::e2::e3::e4::l)).set (n+4) e=h++(e0::e1::e2::e3::e::l):=by subst hn;simp
def hl4 (hn:h.length=n:=by assumption) :(h++[e0,e1,e2,e3]).length=n+4:=by subst hn;simp
def ha4 {e:Ent}:(h++[e0,e1,e2,e3])++[e]=h++[e0,e1,e2,e3,e]:=by simp
def hg5 (hn:h.length=n) {l:AH}:(h++(e0::e1::e2::e3::e4::e5::l))[n+5]?=some e5:=by subst hn;simp
def hs5 (hn:h.length=n:=by assumption) {e:Ent}{l:AH}:(h++(e0::e1::e2::e3::e4::e5::l)).set (n+5) e=h++(e0::e1::e2::e3::e4::e::l):=by subst hn;simp
def hl5 (hn:h.length=n:=by assumption) :(h++[e0,e1,e2,e3,e4]).length=n+5:=by subst hn;simp
def ha5 {e:Ent}:(h++[e0,e1,e2,e3,e4])++[e]=h++[e0,e1,e2,e3,e4,e]:=by simp
def hg6 (hn:h.length=n) {l:AH}:(h++(e0::e1::e2::e3::e4::e5::e6::l))[n+6]?=some e6:=by subst hn;simp
def hs6 (hn:h.length=n:=by assumption) {e:Ent}{l:AH}:(h++(e0::e1::e2::e3::e4::e5::e6::l)).set (n+6) e=h++(e0::e1::e2::e3::e4::e5::e::l):=by subst hn;simp
def hl6 (hn:h.length=n:=by assumption) :(h++[e0,e1,e2,e3,e4,e5]).length=n+6:=by subst hn;simp
def ha6 {e:Ent}:(h++[e0,e1,e2,e3,e4,e5])++[e]=h++[e0,e1,e2,e3,e4,e5,e]:=by simp
def hg7 (hn:h.length=n) {l:AH}:(h++(e0::e1::e2::e3::e4::e5::e6::e7::l))[n+7]?=some e7:=by subst hn;simp
def hs7 (hn:h.length=n:=by assumption) {e:Ent}{l:AH}:(h++(e0::e1::e2::e3::e4::e5::e6::e7::l)).set (n+7) e=h++(e0::e1::e2::e3::e4::e5::e6::e::l):=by subst hn;simp
def hl7 (hn:h.length=n:=by assumption) :(h++[e0,e1,e2,e3,e4,e5,e6]).length=n+7:=by subst hn;simp
def ha7 {e:Ent}:(h++[e0,e1,e2,e3,e4,e5,e6])++[e]=h++[e0,e1,e2,e3,e4,e5,e6,e]:=by simp
def hg8 (hn:h.length=n) {l:AH}:(h++(e0::e1::e2::e3::e4::e5::e6::e7::e8::l))[n+8]?=some e8:=by subst hn;simp
def hs8 (hn:h.length=n:=by assumption) {e:Ent}{l:AH}:(h++(e0::e1::e2::e3::e4::e5::e6::e7::e8::l)).set (n+8) e=h++(e0::e1::e2::e3::e4::e5::e6::e7::e::l):=by subst hn;simp
def hl8 (hn:h.length=n:=by assumption) :(h++[e0,e1,e2,e3,e4,e5,e6,e7]).length=n+8:=by subst hn;simp
def ha8 {e:Ent}:(h++[e0,e1,e2,e3,e4,e5,e6,e7])++[e]=h++[e0,e1,e2,e3,e4,e5,e6,e7,e]:=by simp
def hg9 (hn:h.length=n) {e9:Ent}{l:AH}:(h++(e0::e1::e2::e3::e4::e5::e6::e7::e8::e9::l))[n+9]?=some e9:=by subst hn;simp
def dp0 :(l).drop 0=l:=rfl
def dp1 :(g::l).drop 1=l:=rfl
def dp2 :(g::i::l).drop 2=l:=rfl
def dp3 {j:AV}:(g::i::j::l).drop 3=l:=rfl
def dp4 {j o:AV}:(g::i::j::o::l).drop 4=l:=rfl
def dp7 {j o p q r:AV}:(g::i::j::o::p::q::r::l).drop 7=l:=rfl
def lki {n:Int}:Ae T (.const (.int k n))=.v (.int k n):=rfl
def lkb {b:Bool}:Ae T (.const (.bool b))=bv b:=rfl
def lks {s:ByteArray}:Ae T (.const (.string s))=sv s:=rfl
def lkn :Ae T (.const (.slice none 0 0))=.sl 0 0 true []:=rfl
def lkf :Ae T (.func f)=.v (.func (.func f) #[] #[]):=rfl
def ptn :aPut T none c=T:=rfl
def mp0 :([]:List Operand).map (Ae T)=[]:=rfl
def mp1 {x:Operand}{a:AV}{xs:List Operand}(h:Ae T x=a) (hs:xs.map (Ae T)=ats):(x::xs).map (Ae T)=a::ats:=by rw[List.map_cons,h,hs]
class Mp (T:List AV) (x:List Operand) (a:outParam (List AV)):Prop where
  h:x.map (Ae T)=a
def mp {x:List Operand}{a:List AV}[i:Mp T x a]:x.map (Ae T)=a:=i.h
instance {T:List AV}:Mp T [] []:=⟨rfl⟩
instance {T:List AV}{o:Operand}{x:List Operand}{c:AV}{a:List AV}[i:Lk T o c][j:Mp T x a]:Mp T (o::x) (c::a):=⟨mp1 i.h j.h⟩
instance {T:List AV}{k:IntKind}{n:Int}:Lk T (.const (.int k n)) (.v (.int k n)):=⟨rfl⟩
instance {T:List AV}{b:Bool}:Lk T (.const (.bool b)) (bv b):=⟨rfl⟩
instance {T:List AV}{s:ByteArray}:Lk T (.const (.string s)) (sv s):=⟨rfl⟩
instance {T:List AV}:Lk T (.const (.slice none 0 0)) (.sl 0 0 true []):=⟨rfl⟩
instance {T:List AV}{f:FuncId}:Lk T (.func f) (.v (.func (.func f) #[] #[])):=⟨rfl⟩
end
end
section
section
variable {P : Program} {n0 : Nat}
def AX.thn_mono {N N':List AV->AH->Prop}{Q Q':AX->List AV->AH->Prop}(hn : ∀ T h,N T h->N' T h) (hq : ∀ x T h,Q x T h->Q' x T h) : ∀ x T h,AX.thn N Q x T h->AX.thn N' Q' x T h:=by
 intro x T h hx;cases x <;> simp only[AX.thn] at hx ⊢ <;> first | exact hn _ _ hx | exact hq _ _ _ hx
def nF {f:AV}{xs:List AV}{h:AH}{R R':AE->AH->Prop}(hr : ∀ r h,R r h->R' r h) (hc:Hy P f xs h R):Hy P f xs h R':=by
 unfold Hy at *;split
 .exact⟨hc.1,hc.2.1,hc.2.2.mono hr⟩
 .exact⟨hc.1,hc.2.1,λw g vs hs ha=>by
   obtain⟨f,t,a,b,h1,h2⟩:=hc.2.2 w g vs hs ha;exact⟨f,t,a,b,h1,h2.mono λ_ _ ⟨x,h',g',h1,h2,h3,h4,h5,h6⟩=>⟨x,h',g',h1,h2,h3,h4,h5,hr _ _ h6⟩⟩⟩
 .exact hc.mono hr
 .exact hc.mono hr
 .rename_i h1 h0 h2 h3;split at hc
  .exact absurd rfl (h1 _ _ _)
  .exact absurd rfl (h0 _ _ _)
  .exact absurd rfl (h2 _ _)
  .exact absurd rfl (h3 _ _)
  .exact hc
def nC {Kp Kp':AV->List AV->AH->Prop}{K K':List AV->AH->Prop}(hp : ∀ c T h,Kp c T h->Kp' c T h) (hk : ∀ T h,K T h->K' T h) {o:AOper}{T:List AV}{h:AH}(hs:astep P Kp o T h K):astep P Kp' o T h K':=by
 unfold astep at *;split
 .rename_i heq;rw[heq] at hs;refine nF ?_ hs;intro r h' hr;cases r <;> first | exact hk _ _ hr | exact hp _ _ _ hr
 .rename_i heq;rw[heq] at hs;dsimp only at hs;split at hs
  .exact hp _ _ _ hs
  .exact hs.elim
 .rename_i heq;rw[heq] at hs;dsimp only at hs;split at hs <;> rename_i hx
  .exact λb hb=>hk _ _ (hs b hb)
  .exact hs.elim
 .rename_i h1 h2 h3
  have hs':(match aval h (Ae T) o.op with
   | some c=>K (aPut T o.dst c) h
   | none=>match aeff h (Ae T) o.op with
    | some (c,h')=>K (aPut T o.dst c) h'
    | none=>False):=by
   split at hs
   .rename_i heq;exact absurd heq (h1 _ _)
   .rename_i heq;exact absurd heq (h2 _)
   .rename_i heq;exact absurd heq (h3 _ _)
   .exact hs
  cases hv:aval h (Ae T) o.op with
  | some c=>rw[hv] at hs';exact hk _ _ hs'
  | none =>
   rw[hv] at hs'
   cases hv2:aeff h (Ae T) o.op with
   | some p=>rw[hv2] at hs';exact hk _ _ hs'
   | none=>rw[hv2] at hs';exact hs'
def Ug {Kp Kp':AV->List AV->AH->Prop}{K K':List AV->AH->Prop}(hp : ∀ c T h,Kp c T h->Kp' c T h) (hk : ∀ T h,K T h->K' T h) : ∀ (l:List AOper) (T:List AV) (h:AH),arun P Kp l T h K->arun P Kp' l T h K'
 | [],T,h,hr=>hk _ _ hr
 | o::l,T,h,hr=>O9 (λb ⟨h1,h2⟩=>⟨λe=>nC hp (λT h hr=>Ug hp hk l T h hr) (h1 e),λe=>Ug hp hk l _ _ (h2 e)⟩) hr
def kK {rs:List Nat}{K K':List AV->AH->Prop}(hk : ∀ T h,K T h->K' T h) {h0:AH}{o:AOper}{T:List AV}{ents:AH}(hs:adstep P rs h0 o T ents K):adstep P rs h0 o T ents K':=by
 unfold adstep at *;split
 .rename_i heq;rw[heq] at hs;obtain⟨c,h1,h2⟩:=hs;exact⟨c,h1,hk _ _ h2⟩
 .rename_i agg sz x heq;rw[heq] at hs;dsimp only at hs;split at hs <;> rename_i hx
  .split at hs <;> rename_i hy
   .exact hk _ _ hs
   .exact hs.elim
  .split at hs <;> rename_i hy
   .exact hk _ _ hs
   .exact hs.elim
  .obtain⟨ty,s,cells,c,h1,h2,h3,h4⟩:=hs;exact⟨ty,s,cells,c,h1,h2,h3,hk _ _ h4⟩
  .exact hs.elim
 .rename_i h1 h1b
  have hs':(match aval h0 (Ae T) o.op with
   | some c=>K (aPut T o.dst c) ents
   | none => ∃ c ent,(aallo (h0.length+ents.length) (Ae T) o.op=some (c,ent)\/Fb (h0.length+ents.length) (Ae T) o.op=some (c,ent))/\K (aPut T o.dst c) (ents++[ent])):=by
   split at hs
   .rename_i heq;exact absurd heq (h1 _ _)
   .rename_i heq;exact absurd heq (h1b _ _ _)
   .exact hs
  cases hv:aval h0 (Ae T) o.op with
  | some c=>rw[hv] at hs';exact hk _ _ hs'
  | none =>
   rw[hv] at hs'
   obtain⟨c,ent,h1,h2⟩:=hs'
   exact⟨c,ent,h1,hk _ _ h2⟩
def Lg {rs:List Nat}{K K':List AV->AH->Prop}(hk : ∀ T h,K T h->K' T h) {h0:AH} : ∀ (l:List AOper) (T:List AV) (h:AH),adrun P rs h0 l T h K->adrun P rs h0 l T h K'
 | [],T,h,hr=>hk _ _ hr
 | o::l,T,h,hr=>O9 (λb ⟨h1,h2⟩=>⟨λe=>kK (λT h hr=>Lg hk l T h hr) (h1 e),λe=>Lg hk l _ _ (h2 e)⟩) hr
def kD {rs:List Nat}{K K':List AV->AH->Prop}(hk : ∀ T h,K T h->K' T h) {o:AOper}{T:List AV}{h:AH}(hs:Mg P rs o T h K):Mg P rs o T h K':=by
 unfold Mg at *;split
 .rename_i heq;rw[heq] at hs;obtain⟨c,h',h1,h2,h3⟩:=hs;exact⟨c,h',h1,h2,hk _ _ h3⟩
 .rename_i heq;rw[heq] at hs;exact hs
 .rename_i heq;rw[heq] at hs;exact hs
 .rename_i h1 h2 h3
  have hs':(match aval h (Ae T) o.op with
   | some c=>K (aPut T o.dst c) h
   | none=>match aeff h (Ae T) o.op with
    | some (c,h')=>(∀ id∈rs,h'[id]?=h[id]?)/\K (aPut T o.dst c) h'
    | none=>False):=by
   split at hs
   .rename_i heq;exact absurd heq (h1 _ _)
   .rename_i heq;exact absurd heq (h2 _)
   .rename_i heq;exact absurd heq (h3 _ _)
   .exact hs
  cases hv:aval h (Ae T) o.op with
  | some c=>rw[hv] at hs';exact hk _ _ hs'
  | none =>
   rw[hv] at hs'
   cases hv2:aeff h (Ae T) o.op with
   | some p=>rw[hv2] at hs';exact⟨hs'.1,hk _ _ hs'.2⟩
   | none=>rw[hv2] at hs';exact hs'
def Re {rs:List Nat}{K K':List AV->AH->Prop}(hk : ∀ T h,K T h->K' T h) : ∀ (q:List Bool) (l:List AOper) (T:List AV) (h:AH),En P rs q l T h K->En P rs q l T h K'
 | q,[],T,h,hr=>by cases q <;> exact hk _ _ hr
 | q,o::l,T,h,hr=>O9 (λb ⟨h1,h2⟩=>⟨λe=>kD (λT h hr=>Re hk q.tail l T h hr) (h1 e),λe=>Re hk q.tail l _ _ (h2 e)⟩) hr
def kB {K K':Bool×List Nat->List AV->AH->Prop}(hk : ∀ t T h,K t T h->K' t T h) {h0:AH}{o:AOper}{T:List AV}{h:AH}(hs:austep P h0 o T h K):austep P h0 o T h K':=by
 unfold austep at *;split
 .rename_i heq;rw[heq] at hs;rcases hs with ⟨c,a,b⟩ | ⟨c,a,b,d⟩ | ⟨c,n,i,e,a,b,d,k⟩
  .exact .inl ⟨c,a,hk _ _ _ b⟩
  .exact .inr (.inl ⟨c,a,b,hk _ _ _ d⟩)
  .exact .inr (.inr ⟨c,n,i,e,a,b,d,hk _ _ _ k⟩)
 .rename_i heq;rw[heq] at hs;exact hs
 .rename_i heq;rw[heq] at hs;exact hs
 .rename_i heq;rw[heq] at hs;exact hs
 .rename_i h1 h2 h3 h4;split at hs
  .rename_i heq;exact absurd heq (h1 _ _)
  .rename_i heq;exact absurd heq (h2 _)
  .rename_i heq;exact absurd heq (h3 _ _)
  .rename_i heq;exact absurd heq (h4 _ _ _)
  .rcases hs with ⟨c,a,b⟩ | ⟨c,a,b,d⟩ | ⟨c,n,i,e,a,b⟩ | ⟨c,e,a,b⟩
   .exact .inl ⟨c,a,hk _ _ _ b⟩
   .exact .inr (.inl ⟨c,a,b,hk _ _ _ d⟩)
   .exact .inr (.inr (.inl ⟨c,n,i,e,a,hk _ _ _ b⟩))
   .exact .inr (.inr (.inr ⟨c,e,a,hk _ _ _ b⟩))
def Pb {K K':List AV->AH->Prop}(hk : ∀ T h,K T h->K' T h) {h0:AH} : ∀ (q:List (List Nat)) (l:List AOper) (tc:List (Bool×List Nat)) (T:List AV) (h:AH),Di P h0 q l tc T h K->Di P h0 q l tc T h K'
 | q,[],tc,T,h,hr=>by cases q <;> exact hk _ _ hr
 | q,o::l,tc,T,h,hr=>O9 (λb ⟨h1,h2⟩=>⟨λe=>kB (λt T h hr=>⟨hr.1,Pb hk q.tail l _ T h hr.2⟩) (h1 e),λe=>Pb hk q.tail l _ _ _ (h2 e)⟩) hr
def aw_mono : ∀ (c:AC) {Q Q':AX->List AV->AH->Prop},(∀ x T h,Q x T h->Q' x T h) -> ∀ T h,aw P n0 c Q T h->aw P n0 c Q' T h:=by
 intro c;induction c with
 | skip=>intro Q Q' hq T h hw;exact hq _ _ _ hw
 | reg al=>intro Q Q' hq T h hw;exact Ug (λc T h hk=>hq _ _ _ hk) (λT h hk=>hq _ _ _ hk) _ _ _ hw
 | drw b q t =>
  intro Q Q' hq T h hw
  obtain⟨rs,hw⟩:=hw
  exact⟨rs,Lg (λT h hk=>Re (λT h hk=>hq _ _ _ hk) _ _ _ _ hk) _ _ _ hw⟩
 | drwU q al=>intro Q Q' hq T h hw;exact Pb (λT h hk=>hq _ _ _ hk) _ _ _ _ _ hw
 | orPan a x f al d0 iha =>
  intro Q Q' hq T h hw
  rcases hw with hw | ⟨cp,Pp,c,h1,h2,h3⟩
  .exact .inl (iha hq _ _ hw)
  .exact .inr ⟨cp,Pp,c,h1,h2,λT'' h'' hp=>hq _ _ _ (h3 T'' h'' hp)⟩
 | seq a b iha ihb =>
  intro Q Q' hq T h hw
  exact iha (AX.thn_mono (λT h ⟨T1,h1,hl,hk⟩=>⟨T1,h1,hl,ihb hq _ _ hk⟩) hq) _ _ hw
 | cond c a b iha ihb =>
  intro Q Q' hq T h hw
  simp only[aw] at hw ⊢
  split at hw <;> rename_i hx <;> try (exact hw.elim)
  exact⟨λe=>iha hq _ _ (hw.1 e),λe=>ihb hq _ _ (hw.2 e)⟩
 | block id a iha =>
  intro Q Q' hq T h hw
  refine iha ?_ _ _ hw
  intro x T h hx
  cases x <;> simp only[AX.blk] at hx ⊢ <;> try (exact hq _ _ _ hx)
  split at hx
  .rename_i e;rw[if_pos e];exact hq _ _ _ hx
  .rename_i e;rw[if_neg e];exact hq _ _ _ hx
 | loop a iha =>
  intro Q Q' hq T h hw
  obtain⟨I,n,h0,hr⟩:=hw
  exact⟨I,n,h0,λn T h hI=>iha (AX.thn_mono (λ_ _ hk=>hk) hq) _ _ (hr n T h hI)⟩
 | exit id=>intro Q Q' hq T h hw;exact hq _ _ _ hw
 | ret=>intro Q Q' hq T h hw;exact hq _ _ _ hw
def Wk (c d:AV):Prop := ∀ (w:World) (g:Gh) (v:Value),Rep w g c v->Rep w g d v
def Wk.refl (c:AV):Wk c c:=λ_ _ _ h=>h
def Wk.any (c:AV):Wk c .any:=λ_ _ _ _=>by simp only[Rep]
def Wk.trans {a b c:AV}(h:Wk a b) (k:Wk b c):Wk a c:=λw g v x=>k w g v (h w g v x)
def Wk.nil {st st':Nat}{full:Bool}:Wk (.sl 0 st full []) (.sl 0 st' full []):=λw g v h=>by
 simp only[Rep] at h ⊢;obtain⟨_,A,cap,h1,h2,h3,h4,h5,_⟩:=h;exact⟨by simp,A,cap,h1,h2,h3,h4,h5,λh=>absurd rfl h⟩
def Wk.full {n st:Nat}{full:Bool}{cs:List AV}:Wk (.sl n st full cs) (.sl n st false cs):=λw g v h=>by
 simp only[Rep] at h ⊢;obtain⟨h0,A,cap,h1,h2,h3,h4,h5,h6⟩:=h;exact⟨h0,A,cap,h1,h2,h3,λh=>(by cases h),h5,h6⟩
def Wk.fs {n st:Nat}{cs:List AV}:Wk (.fs n st cs) (.sl n st false cs):=λw g v h=>h.fs
def Wk.nilS {st st':Nat}{full:Bool}:Wk (.sl 0 st full []) (.fs 0 st' []):=λw g v h=>by
 simp only[Rep] at h ⊢;obtain⟨_,A,cap,h1,h2,h3,h4,h5,_⟩:=h;exact⟨by simp,A,cap,h1,h2,h3,h5,λh=>absurd rfl h⟩
def Wk.nilF {st st':Nat}{full:Bool}:Wk (.sl 0 st full []) (.sl 0 st' false []):=Wk.nil.trans Wk.full
def WkL:List AV->List AV->Prop
 | [],[]=>True
 | c::cs,d::ds=>Wk c d/\WkL cs ds
 | _,_=>False
def WkL.refl : ∀ l,WkL l l
 | []=>trivial
 | c::cs=>⟨Wk.refl c,WkL.refl cs⟩
def RepL.wk {w:World}{g:Gh} : ∀ {cs ds:List AV}{vs:List Value},WkL cs ds->RepL w g cs vs->RepL w g ds vs
 | [],[],vs,_,h=>h
 | c::cs,d::ds,vs,hs,h=>by
  simp only[RepL] at h ⊢;obtain⟨u,us,e,h1,h2⟩:=h;exact⟨u,us,e,hs.1 _ _ _ h1,RepL.wk hs.2 h2⟩
 | [],_::_,_,hs,_=>hs.elim
 | _::_,[],_,hs,_=>hs.elim
def RepC.wk {w:World}{g:Gh} : ∀ {cs ds:List AV}{b off:Nat},WkL cs ds->RepC w g cs b off->RepC w g ds b off
 | [],[],_,_,_,h=>h
 | c::cs,d::ds,_,_,hs,h=>by
  simp only[RepC] at h ⊢;obtain⟨⟨u,h1,h2⟩,h3⟩:=h;exact⟨⟨u,h1,hs.1 _ _ _ h2⟩,RepC.wk hs.2 h3⟩
 | [],_::_,_,_,hs,_=>hs.elim
 | _::_,[],_,_,hs,_=>hs.elim
def WkL.len : ∀ {cs ds:List AV},WkL cs ds->cs.length=ds.length
 | [],[],_=>rfl
 | _::cs,_::ds,h=>congrArg (· + 1) (WkL.len h.2)
 | [],_::_,h=>h.elim
 | _::_,[],h=>h.elim
def Wk.sl {n st:Nat}{full:Bool}{cs ds:List AV}(h:WkL cs ds):Wk (.sl n st full cs) (.sl n st full ds):=λw g v hr=>by
 simp only[Rep] at hr ⊢;obtain⟨h0,A,cap,h1,h2,h3,h4,h5,h6⟩:=hr;refine⟨by rw[<-h.len];exact h0,A,cap,h1,h2,h3,h4,h5,λhne=>?_⟩;obtain⟨b,off,e,hd,hc⟩:=h6 (by rintro rfl;cases ds with | nil=>exact hne rfl | cons _ _=>exact h);exact⟨b,off,e,hd,hc.wk h⟩
def Wk.agg {cs ds:List AV}(h:WkL cs ds):Wk (.agg cs) (.agg ds):=λw g v hr=>by
 simp only[Rep] at hr ⊢;obtain⟨vs,e,hc⟩:=hr;exact⟨vs,e,hc.wk h⟩
def Wk.tup {cs ds:List AV}(h:WkL cs ds):Wk (.tup cs) (.tup ds):=λw g v hr=>by
 simp only[Rep] at hr ⊢;obtain⟨vs,e,hc⟩:=hr;exact⟨vs,e,hc.wk h⟩
def ALe.wk {T T1:List AV}{h:AH}(hs:WkL T T1):ALe n0 T h T1 h:=λw0 S0 g0 a w g st=>⟨g,st.tmps.wk hs,st.defers,st.sim,st.fr,st.le,st.bd,st.ow⟩
def ACalls.wk {f:FuncId}{as1 bs:List AV}{h:AH}{R:AE->AH->Prop}(hw:WkL as1 bs) (hc:ACalls P f bs h R):ACalls P f as1 h R:=⟨hc.1,λw g vs hs ha=>hc.2 w g vs hs (ha.wk hw)⟩
section code
variable {Kp : AV -> List AV -> AH -> Prop} {K N : List AV -> AH -> Prop} {Q : AX -> List AV -> AH -> Prop} {T : List AV} {h : AH} {a b : AC} {i j : Nat}
def Am (hk:K T h):arun P Kp [] T h K:=hk
def Bi {rs:List Nat}{h0:AH}(hk:K T h):adrun P rs h0 [] T h K:=hk
def Be (hq:Q .normal T h):aw P n0 .skip Q T h:=hq
def Bd (hq:Q (.exit i) T h):aw P n0 (.exit i) Q T h:=hq
def C4 (hq:Q .ret T h):aw P n0 .ret Q T h:=hq
def An (hr:aw P n0 b Q T h):AX.thn (λT h => ∃ T1 h1,ALe n0 T h T1 h1/\aw P n0 b Q T1 h1) Q .normal T h:=⟨T,h,ALe.refl,hr⟩
def B0 {T1:List AV}{h1:AH}(hl:ALe n0 T h T1 h1) (hr:aw P n0 b Q T1 h1):AX.thn (λT h => ∃ T1 h1,ALe n0 T h T1 h1/\aw P n0 b Q T1 h1) Q .normal T h:=⟨T1,h1,hl,hr⟩
def Az (hr:N T h):AX.thn N Q .normal T h:=hr
def Aw (hr:Q .normal T h):AX.blk i Q .normal T h:=hr
def As (hr:Q (.exit i) T h):AX.thn N Q (.exit i) T h:=hr
def Bp (hr:Q .normal T h):AX.blk i Q (.exit i) T h:=by simp only[AX.blk,if_true];exact hr
def x_pas (hij:j≠i) (hr:Q (.exit j) T h):AX.blk i Q (.exit j) T h:=by simp only[AX.blk,if_neg hij];exact hr
def Ag (hr:Q .ret T h):AX.thn N Q .ret T h:=hr
def Au (hr:Q .ret T h):AX.blk i Q .ret T h:=hr
def Bg {c:Operand}{t:Bool}(hc:Ae T c=bv t) (hy:t=true->aw P n0 a Q T h) (hn:t=false->aw P n0 b Q T h):aw P n0 (.cond c a b) Q T h:=by
 simp only[aw,hc];exact⟨hy,hn⟩
def Rv {t:Nat}{c:AV}(ht:T[t]?=some c):T.set t c=T:=by
 apply List.ext_getElem?;intro j;by_cases hj:j=t
 .subst hj;have:j<T.length:=(List.getElem?_eq_some_iff.1 ht).1;rw[List.getElem?_set_self this,ht]
 .rw[List.getElem?_set_ne (Ne.symm hj)]
def Cz {t:Nat}{p:Bool}{T1 T2:List AV}{al:List AOper}(ht:T[t]?=some (bv p)) (hp1:aPut T (some t) (bv true)=T1) (hp2:aPut T (some t) (bv false)=T2) (hy:p=true->arun P Kp al T1 h K) (hn:p=false->arun P Kp al T2 h K):arun P Kp al T h K:=by
 have hs:=Rv ht;cases p
 .rw[<-hs];have:=hn rfl;rw[<-hp2] at this;exact this
 .rw[<-hs];have:=hy rfl;rw[<-hp1] at this;exact this
def Yk {rs:List Nat}{h0:AH}{t:Nat}{p:Bool}{T1 T2:List AV}{al:List AOper}(ht:T[t]?=some (bv p)) (hp1:aPut T (some t) (bv true)=T1) (hp2:aPut T (some t) (bv false)=T2) (hy:p=true->adrun P rs h0 al T1 h K) (hn:p=false->adrun P rs h0 al T2 h K):adrun P rs h0 al T h K:=by
 have hs:=Rv ht;cases p
 .rw[<-hs];have:=hn rfl;rw[<-hp2] at this;exact this
 .rw[<-hs];have:=hy rfl;rw[<-hp1] at this;exact this
def cN {t:Nat}{p b:Bool}{T1:List AV}{al:List AOper}(ht:T[t]?=some (bv p)) (hb:p=b) (hp1:aPut T (some t) (bv b)=T1) (hy:arun P Kp al T1 h K):arun P Kp al T h K:=by
 have hs:=Rv ht;subst hb;rw[<-hs];rw[<-hp1] at hy;exact hy
def d_known {rs:List Nat}{h0:AH}{t:Nat}{p b:Bool}{T1:List AV}{al:List AOper}(ht:T[t]?=some (bv p)) (hb:p=b) (hp1:aPut T (some t) (bv b)=T1) (hy:adrun P rs h0 al T1 h K):adrun P rs h0 al T h K:=by
 have hs:=Rv ht;subst hb;rw[<-hs];rw[<-hp1] at hy;exact hy
def Iu {c:Operand}{p:Bool}(hc:Ae T c=bv p) (hp:p=true) (hy:aw P n0 a Q T h):aw P n0 (.cond c a b) Q T h:=Cx (by rw[hc,hp]) hy
def F2 {c:Operand}{p:Bool}(hc:Ae T c=bv p) (hp:p=false) (hy:aw P n0 b Q T h):aw P n0 (.cond c a b) Q T h:=Cf (by rw[hc,hp]) hy
def w_seqc {ι:Type}(S:ι->List AV×AH) (J:ι->Prop) (ha:aw P n0 a (AX.thn (λT h => ∃ i,J i/\ALe n0 T h (S i).1 (S i).2) Q) T h) (hb : ∀ i,J i->aw P n0 b Q (S i).1 (S i).2):aw P n0 (.seq a b) Q T h :=
 aw_mono a (AX.thn_mono (λT h ⟨i,hi,hl⟩=>⟨_,_,hl,hb i hi⟩) (λ_ _ _ hq=>hq)) T h ha
def Hp:List AV->List (Nat×AV)->List AV
 | T,[]=>T
 | T,(k,c)::ps=>Hp (T.set k c) ps
def Jw:AH->List (Nat×Ent)->AH
 | E,[]=>E
 | E,(k,e)::ps=>Jw (E.set k e) ps
def L9 {b:AC}{E:AH}{h0:AH}{ι:Type}(f:ι->List (Nat×AV)) (g:ι->List (Nat×Ent)) (J:ι->Prop) (ha:aw P n0 a (AX.thn (λT' h' => ∃ i,J i/\ALe n0 T' h' (Hp T (f i)) (h0++Jw E (g i))) Q) T (h0++E)) (hb : ∀ i,J i->aw P n0 b Q (Hp T (f i)) (h0++Jw E (g i))):aw P n0 (.seq a b) Q T (h0++E) :=
 w_seqc (λi=>(Hp T (f i),h0++Jw E (g i))) J ha hb
def It {E:AH}{h0:AH}{ι:Type}(f:ι->List (Nat×AV)) (g:ι->List (Nat×Ent)) (I:ι->Prop) (m:ι->Nat) (i0:ι) (hI:I i0) (hl:ALe n0 T (h0++E) (Hp T (f i0)) (h0++Jw E (g i0)))
  (round : ∀ i,I i->aw P n0 a (AX.thn (LoopTo n0 (λi=>(Hp T (f i),h0++Jw E (g i))) I m i) Q) (Hp T (f i)) (h0++Jw E (g i))):aw P n0 (.loop a) Q T (h0++E) :=
 qT (λi=>(Hp T (f i),h0++Jw E (g i))) I m i0 hI hl round
def ALe.back {T T1:List AV}{h0 E E1 x:AH}{k:Nat}(hs:WkL T T1) (he:E=E1++x) (hk:h0.length+E1.length=k) (hn:n0<=k) (hT:AV.ltL k T1=true) (hh : ∀ e∈h0,e.lt k=true) (hE:E1.all (Ent.lt k)=true):ALe n0 T (h0++E) T1 (h0++E1):=by
 subst he hk;refine (ALe.wk hs).trans ?_;have hl:(h0++E1).length=h0.length+E1.length:=by simp
 rw[<-List.append_assoc];refine ALe.cut (by rw[hl];exact hn) (by rw[hl];exact hT) ?_;rw[hl];intro e he;rcases List.mem_append.1 he with h1 | h1
 .exact hh e h1
 .exact List.all_eq_true.1 hE e h1
def ALe.same {T T1:List AV}{h h1:AH}(hs:WkL T T1) (he:h=h1):ALe n0 T h T1 h1:=by subst he;exact ALe.wk hs
def wk1 {c d:AV}{cs ds:List AV}(h:d=c) (hs:WkL cs ds):WkL (c::cs) (d::ds):=⟨by subst h;exact Wk.refl _,hs⟩
def wka {c:AV}{cs ds:List AV}(hs:WkL cs ds):WkL (c::cs) (.any::ds):=⟨Wk.any _,hs⟩
def wkw {c d:AV}{cs ds:List AV}(h:Wk c d) (hs:WkL cs ds):WkL (c::cs) (d::ds):=⟨h,hs⟩
def wk0:WkL [] []:=trivial
def ivx {a b:Int}(h:a=b):iv a=iv b:=by rw[h]
def hga {l:AH}{n k:Nat}{e:Ent}(hn:h.length=n) (hk:l[k]?=some e):(h++l)[n+k]?=some e:=by subst hn;rw[List.getElem?_append_right (by omega),Nat.add_sub_cancel_left,hk]
def ltw {n m:Nat}(h:n<=m) {l:AH}(hl : ∀ e∈l,e.lt n=true) : ∀ e∈l,e.lt m=true:=λe he=>Ent.lt_mono h (hl e he)
end code
section run
variable {Kp : AV -> List AV -> AH -> Prop} {K : List AV -> AH -> Prop} {rest : List AOper} {T T' : List AV} {h h' h0 ents ents' : AH} {d : Option Nat} {op : AOp} {c : AV}
def s_eqn {neg:Bool}{x:Operand}{n st:Nat}{full:Bool}{cs:List AV}{T1:Bool->List AV}(hx:Ae T x=.sl n st full cs) (hp : ∀ b,aPut T d (bv b)=T1 b) (hk : ∀ b,(0<n->b=neg)->arun P Kp rest (T1 b) h K):arun P Kp (⟨d,none,.eqn neg x⟩::rest) T h K:=by
 refine⟨λ_=>?_,λh=>by cases h⟩;simp only[astep,hx];intro b hb;rw[hp];exact hk b hb
def Nh {f:FuncId}{x:Operand}{xs:List Operand}{as1:List AV}(hf:Ae T x=.v (.func (.func f) #[] #[])) (hx:xs.map (Ae T)=as1) (hc:ACalls P f as1 h λr h'=>h'=h/\r=.ret c) (hp:aPut T d c=T') (hk:arun P Kp rest T' h K):arun P Kp (⟨d,none,.call x xs⟩::rest) T h K:=by
 subst hp hx;refine⟨λ_=>?_,λh=>by cases h⟩;simp only[astep,hf,Hy];refine⟨trivial,trivial,hc.mono ?_⟩;rintro r h' ⟨rfl,rfl⟩;exact hk
def Rz {f:FuncId}{x:Operand}{xs:List Operand}{as1 caps:List AV}(hf:Ae T x=.clo (.func f) caps) (hx:xs.map (Ae T)=as1) (hc:ACalls P f (as1++caps) h λr h'=>h'=h/\r=.ret c) (hp:aPut T d c=T') (hk:arun P Kp rest T' h K):arun P Kp (⟨d,none,.call x xs⟩::rest) T h K:=by
 subst hp hx;refine⟨λ_=>?_,λh=>by cases h⟩;simp only[astep,hf,Hy];refine hc.mono ?_;rintro r h' ⟨rfl,rfl⟩;exact hk
def s_callh {f:FuncId}{xs:List Operand}{as1:List AV}(hx:xs.map (Ae T)=as1) (hc:ACalls P f as1 h λr h''=>r=.ret c/\h''=h') (hp:aPut T d c=T') (hk:arun P Kp rest T' h' K):arun P Kp (⟨d,none,.call (.func f) xs⟩::rest) T h K:=by
 subst hp;refine Tk hx hc ?_;rintro r h' ⟨rfl,rfl⟩;exact hk
def Vx {f:FuncId}{xs:List Operand}{as1 cells:List AV}{ty st id m:Nat}{H:Nat->AH}{T1:Nat->List AV}(hx:xs.map (Ae T)=as1) (hc:ACalls P f as1 h λr h'' => ∃ v,r=.ret (.own h.length v m)/\h''=h++[.mk v ty st cells]) (hl:h.length=id) (hh : ∀ v,h++[.mk v ty st cells]=H v) (hp : ∀ v,aPut T d (.own id v m)=T1 v) (hk : ∀ v,arun P Kp rest (T1 v) (H v) K):arun P Kp (⟨d,none,.call (.func f) xs⟩::rest) T h K:=by
 subst hl;refine Tk hx hc ?_;rintro r h' ⟨v,rfl,rfl⟩;have:=hk v;rw[<-hp,<-hh] at this;exact this
def Hh {f:FuncId}{xs:List Operand}{as1:List AV}{e e2:Ent}{id id2:Nat}{h1:AH}(hx:xs.map (Ae T)=as1) (hc:ACalls P f as1 h λr h''=>r=.ret c/\h''=(h.set id e).set id2 e2) (hh:h.set id e=h1) (hh2:h1.set id2 e2=h') (hp:aPut T d c=T') (hk:arun P Kp rest T' h' K):arun P Kp (⟨d,none,.call (.func f) xs⟩::rest) T h K:=by
 subst hp hh2 hh;refine Tk hx hc ?_;rintro r h' ⟨rfl,rfl⟩;exact hk
def H2 {f:FuncId}{xs:List Operand}{as1:List AV}{e:Ent}{id:Nat}(hx:xs.map (Ae T)=as1) (hc:ACalls P f as1 h λr h''=>r=.ret c/\h''=h.set id e) (hh:h.set id e=h') (hp:aPut T d c=T') (hk:arun P Kp rest T' h' K):arun P Kp (⟨d,none,.call (.func f) xs⟩::rest) T h K:=by
 subst hp hh;refine Tk hx hc ?_;rintro r h' ⟨rfl,rfl⟩;exact hk
def dM {m:Bool}{q:List Bool}{rs:List Nat}{f:FuncId}{xs:List Operand}{as1:List AV}{e:Ent}{id:Nat}(hx:xs.map (Ae T)=as1) (hc:ACalls P f as1 h λr h''=>r=.ret c/\h''=h.set id e) (hh:h.set id e=h') (hr : ∀ id∈(bif m then rs else []),h'[id]?=h[id]?) (hp:aPut T d c=T') (hk:En P rs q rest T' h' K):En P rs (m::q) (⟨d,none,.call (.func f) xs⟩::rest) T h K:=by
 subst hh;exact dN hx hc hr hp hk
def Wy {f:FuncId}{x:Operand}{xs:List Operand}{as1 first:List AV}(hf:Ae T x=.bnd (.func f) first) (hx:xs.map (Ae T)=as1) (hc:ACalls P f (first++as1) h λr h''=>r=.ret c/\h''=h') (hp:aPut T d c=T') (hk:arun P Kp rest T' h' K):arun P Kp (⟨d,none,.call x xs⟩::rest) T h K:=by
 subst hp hx;refine⟨λ_=>?_,λh=>by cases h⟩;simp only[astep,hf,Hy];refine hc.mono ?_;rintro r h' ⟨rfl,rfl⟩;exact hk
def s_callCh {f:FuncId}{x:Operand}{xs:List Operand}{as1 caps:List AV}(hf:Ae T x=.clo (.func f) caps) (hx:xs.map (Ae T)=as1) (hc:ACalls P f (as1++caps) h λr h''=>r=.ret c/\h''=h') (hp:aPut T d c=T') (hk:arun P Kp rest T' h' K):arun P Kp (⟨d,none,.call x xs⟩::rest) T h K:=by
 subst hp hx;refine⟨λ_=>?_,λh=>by cases h⟩;simp only[astep,hf,Hy];refine hc.mono ?_;rintro r h' ⟨rfl,rfl⟩;exact hk
end run
section more
variable {Q : AX -> List AV -> AH -> Prop} {T : List AV} {h : AH} {a : AC}
def Gg {c:AC}{h1:AH}(he:h1=h) (hw:aw P n0 c Q T h1):aw P n0 c Q T h:=by subst he;exact hw
def Ll {ι:Type}(f:ι->List (Nat×AV)) (H:ι->AH) (I:ι->Prop) (m:ι->Nat) (i0:ι) (hI:I i0) (hl:ALe n0 T h (Hp T (f i0)) (H i0))
  (round : ∀ i,I i->aw P n0 a (AX.thn (LoopTo n0 (λi=>(Hp T (f i),H i)) I m i) Q) (Hp T (f i)) (H i)):aw P n0 (.loop a) Q T h :=
 qT (λi=>(Hp T (f i),H i)) I m i0 hI hl round
def I7 {h E:AH}{id:Nat}{e:Ent}(hid:id<h.length):(h.set id e++E)[id]?=some e:=by
 rw[List.getElem?_append_left (by simpa using hid),List.getElem?_set_self hid]
def Oq {h E:AH}{id:Nat}{e e':Ent}(hid:id<h.length):(h.set id e++E).set id e'=h.set id e'++E:=by
 rw[List.set_append_left _ _ (by simpa using hid),List.set_set]
def Hi {h:AH}{id:Nat}{e:Ent}(he:h[id]?=some e):h.set id e=h:=by
 apply List.ext_getElem?;intro j;by_cases hj:j=id
 .subst hj;have:j<h.length:=(List.getElem?_eq_some_iff.1 he).1;rw[List.getElem?_set_self this,he]
 .rw[List.getElem?_set_ne (Ne.symm hj)]
def I6 {h:AH}{id n:Nat}{e:Ent}(hn:h.length=n):(h.set id e).length=n:=by simpa using hn
def Sp {h:AH}{id n:Nat}{e:Ent}(hlt : ∀ x∈h,x.lt n=true) (he:e.lt n=true) : ∀ x∈h.set id e,x.lt n=true:=by
 intro x hx;rcases List.mem_or_eq_of_mem_set hx with h1 | rfl
 .exact hlt x h1
 .exact he
def ALe.iceR {T T':List AV}{h h':AH}{id ver ty s d n:Nat}{cells cs:List AV}(hi:h[id]?=some (.mk ver ty s cells)) (hd:T[d]?=some (.own id ver n)) (hc:cells.take (n*s)=cs) (hl:n*s<=cells.length) (hp:aPut T (some d) (.sl n s false cs)=T') (hh:h.set id .gone=h'):ALe n0 T h T' h':=by
 subst hp hh hc;exact ALe.ice hi hd hl
def ALe.iceRF {T T':List AV}{h h':AH}{id ver ty s d n n':Nat}{cells cs:List AV}(hi:h[id]?=some (.mk ver ty s cells)) (hd:T[d]?=some (.own id ver n)) (hc:cells.take (n*s)=cs) (hl:n*s<=cells.length) (hn:n=n') (hp:aPut T (some d) (.fs n' s cs)=T') (hh:h.set id .gone=h'):ALe n0 T h T' h':=by
 subst hp hh hc hn;exact ALe.iceB true hi hd hl
def ALe.iceCellRF {T:List AV}{h h1 h2:AH}{id j ver ty s n n' k v' t' s':Nat}{cells cs cs' ds:List AV}(hi:h[id]?=some (.mk ver ty s cells)) (hj:h[j]?=some (.mk v' t' s' cs)) (hne:j≠id) (hk:cs[k]?=some (.own id ver n)) (hc:cells.take (n*s)=ds) (hl:n*s<=cells.length) (hn:n=n') (hp:aPut cs (some k) (.fs n' s ds)=cs') (e1:h.set id .gone=h1) (e2:h1.set j (.mk v' t' s' cs')=h2):ALe n0 T h T h2:=by
 subst e2 e1 hp hc hn;exact ALe.iceCellB true hi hj hne hk hl
def ALe.iceCellR {T:List AV}{h h1 h2:AH}{id j ver ty s n k v' t' s':Nat}{cells cs cs' ds:List AV}(hi:h[id]?=some (.mk ver ty s cells)) (hj:h[j]?=some (.mk v' t' s' cs)) (hne:j≠id) (hk:cs[k]?=some (.own id ver n)) (hc:cells.take (n*s)=ds) (hl:n*s<=cells.length) (hp:aPut cs (some k) (.sl n s false ds)=cs') (e1:h.set id .gone=h1) (e2:h1.set j (.mk v' t' s' cs')=h2):ALe n0 T h T h2:=by
 subst e2 e1 hp hc;exact ALe.iceCell hi hj hne hk hl
def ALe.iceCellN {T:List AV}{h h1 h2:AH}{id j ver ty s n n' k v' t' s':Nat}{cells cs cs' ds:List AV}(hi:h[id]?=some (.mk ver ty s cells)) (hj:h[j]?=some (.mk v' t' s' cs)) (hne:j≠id) (hk:cs[k]?=some (.own id ver n)) (hc:cells.take (n*s)=ds) (hl:n*s<=cells.length) (hn:n=n') (hp:aPut cs (some k) (.sl n' s false ds)=cs') (e1:h.set id .gone=h1) (e2:h1.set j (.mk v' t' s' cs')=h2):ALe n0 T h T h2:=by
 subst hn;exact ALe.iceCellR hi hj hne hk hc hl hp e1 e2
def SimH.tell1 {w:World}{g:Gh}{h:AH}(hs:SimH w g h) {id ver ty s k:Nat}{cells:List AV}{c c':AV}(hi:h[id]?=some (.mk ver ty s cells)) (hk:cells[k]?=some c)
  (hc : ∀ b cap u,g.loc id ver=some (some ⟨b,0,none⟩,cap)->w.cell? ⟨b,k,none⟩=some u->Rep w g c u->Rep w g c' u) :
  SimH w g (h.set id (.mk ver ty s (cells.set k c'))) /\ ∀ j,Ow g (h.set id (.mk ver ty s (cells.set k c'))) j->Ow g h j:=by
 have hid:id<h.length:=(List.getElem?_eq_some_iff.1 hi).1;have hget : ∀ {i v t s':Nat} {cs:List AV},(h.set id (.mk ver ty s (cells.set k c')))[i]?=some (.mk v t s' cs) -> ∃ cs',h[i]?=some (.mk v t s' cs')/\(i≠id->cs'=cs)/\(i=id->v=ver/\cs'=cells/\cs=cells.set k c'):=by
  intro i v t s' cs he;by_cases hii:i=id
  .subst hii;rw[List.getElem?_set_self hid] at he;cases he;exact⟨cells,hi,λh=>absurd rfl h,λ_=>⟨rfl,rfl,rfl⟩⟩
  .rw[List.getElem?_set_ne (Ne.symm hii)] at he;exact⟨cs,he,λ_=>rfl,λh=>absurd h hii⟩
 have how : ∀ i j,OwAt g (h.set id (.mk ver ty s (cells.set k c'))) i j->OwAt g h i j:=by
  rintro i j ⟨v,t,s',cs,b,cap,e1,e2,e3,e4⟩;obtain⟨cs',f1,_⟩:=hget e1;exact⟨v,t,s',cs',b,cap,f1,e2,e3,e4⟩
 refine⟨⟨?_,λi j k' h1 h2=>hs.inj i j k' (how i k' h1) (how j k' h2),hs.lt,?_,?_,⟨hs.glob.w,hs.glob.d⟩,λi k o T vs he=>hs.raw i k o T vs (Jo (by simp) he),λi j k ⟨o,T,vs,e1⟩ ⟨o',T',vs',e2⟩=>hs.rinj i j k ⟨o,T,vs,Jo (by simp) e1⟩ ⟨o',T',vs',Jo (by simp) e2⟩,hs.xw (Nat.le_refl _) rfl (λ_=>.inl) (λj hj=>.inl (hj.imp (λ⟨i,hj⟩=>⟨i,how i j hj⟩) (λ⟨i,o,T,vs,e⟩=>⟨i,o,T,vs,Jo (by simp) e⟩)))⟩,λj hj=>hj.imp (λ⟨i,hj⟩=>⟨i,how i j hj⟩) (λ⟨i,o,T,vs,e⟩=>⟨i,o,T,vs,Jo (by simp) e⟩)⟩
 .intro i v t s' cs he;obtain⟨cs',f1,f2,f3⟩:=hget he;obtain⟨A,cap,e1,e2,e3⟩:=hs.ent _ _ _ _ _ f1;refine⟨A,cap,e1,e2,?_⟩;by_cases hii:i=id
  .obtain⟨rfl,rfl,rfl⟩:=f3 hii;rcases e3 with ⟨h0,h1⟩ | ⟨b,arr,rfl,x1,x2,x3,x4,x5,x6⟩
   .rw[h0] at hk;simp at hk
   .refine .inr ⟨b,arr,rfl,x1,x2,x3,x4,by simpa using x5,?_⟩;obtain⟨u,hu,hr⟩:=x6.get hk;have hcell:w.cell? ⟨b,k,none⟩=some u:=by
     rw[cell_of_row w b k arr t (0,0) x3];rw[List.getElem?_take] at hu;split at hu
     .simpa using hu
     .cases hu
    subst hii;have:=x6.set (k:=k) (hc b cap u e1 hcell hr);have hself:(arr.toList.take cs'.length).set k u=arr.toList.take cs'.length:=by
     apply List.ext_getElem?;intro j;by_cases hj:j=k
     .subst hj;have:j<(arr.toList.take cs'.length).length:=(List.getElem?_eq_some_iff.1 hu).1;rw[List.getElem?_set_self this,hu]
     .rw[List.getElem?_set_ne (Ne.symm hj)]
    rw[hself] at this;simpa using this
  .rw[<-f2 hii];exact e3
 .intro i v l hl;have:=hs.fresh i v l hl;refine⟨by simpa using this.1,λv' t s' cs he=>?_⟩;obtain⟨cs',f1,_⟩:=hget he;exact this.2 _ _ _ _ f1
 .intro i v l hl he;by_cases hii:i=id
  .subst hii;rw[List.getElem?_set_self hid] at he;cases he
  .rw[List.getElem?_set_ne (Ne.symm hii)] at he;exact hs.free _ _ _ hl he
def Dx {h E:AH}{i j:Nat}{e f:Ent}(hne:i≠j) (hi:i<h.length):((h.set i e).set j f++E)[i]?=some e:=by
 rw[List.getElem?_append_left (by simpa using hi),List.getElem?_set_ne (Ne.symm hne),List.getElem?_set_self hi]
def F1 {h E:AH}{i j:Nat}{e f:Ent}(hj:j<h.length):((h.set i e).set j f++E)[j]?=some f:=by
 rw[List.getElem?_append_left (by simpa using hj),List.getElem?_set_self (by simpa using hj)]
def Gp {h E:AH}{i j:Nat}{e f e':Ent}(hne:i≠j) (hi:i<h.length):((h.set i e).set j f++E).set i e'=(h.set i e').set j f++E:=by
 rw[List.set_append_left _ _ (by simpa using hi),List.set_comm _ _ (Ne.symm hne),List.set_set]
def Hs {h E:AH}{i j:Nat}{e f f':Ent}(hj:j<h.length):((h.set i e).set j f++E).set j f'=(h.set i e).set j f'++E:=by
 rw[List.set_append_left _ _ (by simpa using hj),List.set_set]
def I8 {h:AH}{i j:Nat}{e f:Ent}(he:h[i]?=some e) (hf:h[j]?=some f):(h.set i e).set j f=h:=by
 rw[Hi he,Hi hf]
def Bu {h:AH}{i j n:Nat}{e f:Ent}(hn:h.length=n):((h.set i e).set j f).length=n:=by simpa using hn
def Gf {h:AH}{i j n:Nat}{e f:Ent}(hlt : ∀ x∈h,x.lt n=true) (he:e.lt n=true) (hf:f.lt n=true) : ∀ x∈(h.set i e).set j f,x.lt n=true:=Sp (Sp hlt he) hf
def Ez {h E:AH}{i:Nat}{e:Ent}(he:h[i]?=some e):(h++E)[i]?=some e:=by
 rw[List.getElem?_append_left (List.getElem?_eq_some_iff.1 he).1];exact he
def ALe.icePtr {T T':List AV}{h h':AH}{id ver ty s d:Nat}{cells:List AV}(hi:h[id]?=some (.mk ver ty s cells)) (hd:T[d]?=some (.ptr id ver 0)) (hne:cells≠[]) (hp:aPut T (some d) (.rp cells)=T') (hh:h.set id .gone=h'):ALe n0 T h T' h':=λw0 S0 g0 a w g st=>by
 subst hp hh;obtain⟨h1,h2,_⟩:=st.sim.ice hi;have htm:=RepL.mono (g.le_ice h id) (λ_ _=>rfl) _ _ st.tmps;obtain⟨u,hu,hr⟩:=st.tmps.get hd;simp only[Rep] at hr;obtain⟨b,cap,e1,rfl⟩:=hr;obtain⟨A,cap',f1,_,f3⟩:=st.sim.ent _ _ _ _ _ hi;rw[e1] at f1;simp only[Option.some.injEq,Prod.mk.injEq] at f1;obtain⟨rfl,rfl⟩:=f1;rcases f3 with ⟨h0,_⟩ | ⟨b',arr,e,hc0,hdd,hb,hsz,hle,hrl⟩
 .exact absurd h0 hne
 .cases e;have hset:=htm.set (k:=d) (c:=.rp cells) (u:=.pointer (some ⟨b,0,none⟩)) (by
   simp only[Rep];refine⟨b,0,rfl,.inr ⟨ver,ty,s,cells,_,cap,hi,e1,hc0,rfl⟩,RepC.of_row hb _ _ ?_⟩;have:=RepL.mono (g.le_ice h id) (λ_ _=>rfl) _ _ hrl;simpa using this)
  have hself:a.tmps.toList.set d (.pointer (some ⟨b,0,none⟩))=a.tmps.toList:=by
   apply List.ext_getElem?;intro j;by_cases hj:j=d
   .subst hj;have:j<a.tmps.toList.length:=(List.getElem?_eq_some_iff.1 hu).1;rw[List.getElem?_set_self this,hu]
   .rw[List.getElem?_set_ne (Ne.symm hj)]
  rw[hself] at hset;exact⟨g.ice h id,hset,st.defers,h1,st.fr,st.le.trans (g.le_ice h id),st.bd,λk hk=>st.ow k (h2 k hk)⟩
def ALe.own0Cell {T:List AV}{h h1:AH}{j v' t' s' k st st' ty id:Nat}{cs ds cs':List AV}(hj:h[j]?=some (.mk v' t' s' cs)) (hk:cs[k]?=some (.sl 0 st true ds)) (hl:h.length=id) (hp:aPut cs (some k) (.own id 0 0)=cs') (he:(h++[Ent.mk 0 ty st' []]:AH).set j (Ent.mk v' t' s' cs')=h1):ALe n0 T h T h1:=λw0 S0 g0 a w g s=>by
 subst hl he hp;obtain⟨A1,cap1,l1,l2,l3⟩:=s.sim.ent _ _ _ _ _ hj;have hjl:j<h.length:=(List.getElem?_eq_some_iff.1 hj).1;rcases l3 with ⟨h0,_⟩ | ⟨b,arr,rfl,x1,x2,x3,x4,x5,x6⟩
 .rw[h0] at hk;simp at hk
 obtain⟨u,hu,hr⟩:=x6.get hk;have hcell:w.cell? ⟨b,k,none⟩=some u:=by
  rw[cell_of_row w b k arr t' (0,0) x3];rw[List.getElem?_take] at hu;split at hu
  .simpa using hu
  .cases hu
 simp only[Rep] at hr;obtain⟨_,A,cap,rfl,_,_,hc,_,_⟩:=hr;obtain rfl:cap=0:=(hc trivial).symm;obtain⟨q1,q2,q3⟩:=s.sim.add0 (w':=w) A ty st' (λ_ _=>rfl) (Nat.le_refl _);have htm:=RepL.mono q2 (λ_ _=>rfl) _ _ s.tmps;obtain⟨r1,r2⟩:=q1.tell1 (id:=j) (c':=.own h.length 0 0) (by rw[List.getElem?_append_left hjl];exact hj) hk (by
  intro b' cap' u' e1 e2 _;have:=q2.loc _ _ _ l1;rw[this] at e1;simp only[Option.some.injEq,Prod.mk.injEq,Addr.mk.injEq] at e1;obtain⟨⟨rfl,_⟩,_⟩:=e1;rw[hcell] at e2;cases e2;exact F8 (Nat.le_refl _) (by simp[maxLen]))
 exact⟨_,htm,s.defers,r1,s.fr,s.le.trans q2,s.bd,λi hi=>(q3 i (r2 i hi)).elim (s.ow i) (λh=>.inr (Nat.le_trans s.fr.size h))⟩
def ALe.own0 {T:List AV}{d st st' ty:Nat}{cs:List AV}(hd:T[d]?=some (.sl 0 st true cs)):ALe n0 T h (T.set d (.own h.length 0 0)) (h++[.mk 0 ty st' []]):=λw0 S0 g0 a w g s=>by
 obtain⟨u,hu,hr⟩:=s.tmps.get hd;simp only[Rep] at hr;obtain⟨_,A,cap,rfl,_,_,hc,_,_⟩:=hr;obtain rfl:cap=0:=(hc trivial).symm;obtain⟨h1,h2,h3⟩:=s.sim.add0 (w':=w) A ty st' (λ_ _=>rfl) (Nat.le_refl _);have htm:=RepL.mono h2 (λ_ _=>rfl) _ _ s.tmps;have hset:=htm.set (k:=d) (c:=.own h.length 0 0) (u:=.slice A 0 0) (F8 (Nat.le_refl _) (by simp[maxLen]));have hself:a.tmps.toList.set d (.slice A 0 0)=a.tmps.toList:=by
  apply List.ext_getElem?;intro j;by_cases hj:j=d
  .subst hj;have:j<a.tmps.toList.length:=(List.getElem?_eq_some_iff.1 hu).1;rw[List.getElem?_set_self this,hu]
  .rw[List.getElem?_set_ne (Ne.symm hj)]
 rw[hself] at hset;exact⟨_,hset,s.defers,h1,s.fr,s.le.trans h2,s.bd,λk hk=>(h3 k hk).elim (s.ow k) (λh=>.inr (Nat.le_trans s.fr.size h))⟩
def ALe.own0' {T T':List AV}{h h':AH}{d st st' ty id:Nat}{cs:List AV}(hd:T[d]?=some (.sl 0 st true cs)) (hl:h.length=id) (hp:aPut T (some d) (.own id 0 0)=T') (hh:h++[.mk 0 ty st' []]=h'):ALe n0 T h T' h':=by
 subst hl hp hh;exact ALe.own0 hd
end more
end
section
variable {P : Program} {n0 : Nat}
mutual
/-- how long slices are -/
def AV.bd:AV->Prop
 | .sl n _ _ cs=>n<=9223372036854775807/\AV.bdL cs
 | .own _ _ n=>n<=9223372036854775807
 | .rp cs=>AV.bdL cs
 | .agg cs=>AV.bdL cs
 | .tup cs=>AV.bdL cs
 | .clo _ cs=>AV.bdL cs
 | .bnd _ cs=>AV.bdL cs
 | .rx _ _ cs=>AV.bdL cs
 | .fs n _ cs=>n<=9223372036854775807/\AV.bdL cs
 | _=>True
def AV.bdL:List AV->Prop
 | []=>True
 | c::cs=>AV.bd c/\AV.bdL cs
end
mutual
def Rep.bd {w:World}{g:Gh} : ∀ (c:AV) (y:Value),Rep w g c y->c.bd
 | .v x,y,_=>by simp only[AV.bd]
 | .any,y,_=>by simp only[AV.bd]
 | .sl n st full cells,y,h=>by
  simp only[Rep] at h;obtain⟨_,A,cap,h1,h2,h3,h4,h5,h6⟩:=h;simp only[AV.bd];refine⟨by simp only[maxLen] at h3;omega,?_⟩;by_cases hc:cells=[]
  .subst hc;simp only[AV.bdL]
  .obtain⟨b,off,_,_,h7⟩:=h6 hc;exact RepC.bd cells b off h7
 | .own id ver n,y,h=>by
  simp only[Rep] at h;obtain⟨A,cap,h1,h2,h3,_⟩:=h;simp only[AV.bd];simp only[maxLen] at h3;omega
 | .ptr id ver off,y,h=>by simp only[AV.bd]
 | .rp cells,y,h=>by
  simp only[Rep] at h;obtain⟨b,off,e,hd,hc⟩:=h;simp only[AV.bd];exact RepC.bd cells b off hc
 | .agg cells,y,h=>by
  simp only[Rep] at h;obtain⟨vs,e,hc⟩:=h;simp only[AV.bd];exact RepL.bd cells _ hc
 | .tup cells,y,h=>by
  simp only[Rep] at h;obtain⟨vs,e,hc⟩:=h;simp only[AV.bd];exact RepL.bd cells _ hc
 | .clo fn cells,y,h=>by
  simp only[Rep] at h;obtain⟨vs,e,hc⟩:=h;simp only[AV.bd];exact RepL.bd cells _ hc
 | .bnd fn cells,y,h=>by
  simp only[Rep] at h;obtain⟨vs,e,hc⟩:=h;simp only[AV.bd];exact RepL.bd cells _ hc
 | .rx b off cells,y,h=>by
  simp only[Rep] at h;obtain⟨e,hd,hc⟩:=h;simp only[AV.bd];exact RepC.bd cells b off hc
 | .fs n st cells,y,h=>by
  simp only[Rep] at h;obtain⟨_,A,cap,h1,h2,h3,h5,h6⟩:=h;simp only[AV.bd];refine⟨by simp only[maxLen] at h3;omega,?_⟩;by_cases hc:cells=[]
  .subst hc;simp only[AV.bdL]
  .obtain⟨b,off,_,_,h7⟩:=h6 hc;exact RepC.bd cells b off h7
def RepC.bd {w:World}{g:Gh} : ∀ (cs:List AV) (b off:Nat),RepC w g cs b off->AV.bdL cs
 | [],_,_,_=>by simp only[AV.bdL]
 | c::cs,b,off,h=>by
  simp only[RepC] at h;obtain⟨⟨u,h1,h2⟩,h3⟩:=h;simp only[AV.bdL];exact⟨Rep.bd c u h2,RepC.bd cs b (off+1) h3⟩
def RepL.bd {w:World}{g:Gh} : ∀ (cs:List AV) (vs:List Value),RepL w g cs vs->AV.bdL cs
 | [],_,_=>by simp only[AV.bdL]
 | c::cs,vs,h=>by
  simp only[RepL] at h;obtain⟨u,us,e,h1,h2⟩:=h;simp only[AV.bdL];exact⟨Rep.bd c u h1,RepL.bd cs us h2⟩
end
def ACalls.into {f:FuncId}{af:AF}(hc:Em P f=some af) {args T0:List AV}{h:AH}{R:AE->Prop}(hT:args++List.replicate (af.ntmps-args.length) .any=T0)
  (hw : ∀ n,h.length=n->(∀ e∈h,e.lt n=true)->AV.ltL n args=true->AV.bdL args->aw P n af.code (retA af.res λx h' => ∃ z,h'=h++z/\x.lt n=true/\R x) T0 (h++[])):ACalls P f args h λx h'=>h'=h/\R x:=by
 subst hT;exact⟨Gr hc,λw g vs hs ha=>(ACalls.enter (R:=R) hc λn h1 h2 h3=>hw n h1 h2 h3 (RepL.bd _ _ ha)).2 w g vs hs ha⟩
def ACalls.intoG {f:FuncId}{af:AF}(hc:Em P f=some af) {args T0:List AV}{h:AH}{R:AE->AH->Prop}(hT:args++List.replicate (af.ntmps-args.length) .any=T0)
  (hw : ∀ n,h.length=n->(∀ e∈h,e.lt n=true)->AV.ltL n args=true->AV.bdL args->aw P n af.code (retA af.res λx h' => ∃ y z,h'=y++z/\y.length=n/\(∀ e∈y,e.lt n=true)/\x.lt n=true/\R x y) T0 (h++[])):ACalls P f args h R:=by
 subst hT;exact⟨Gr hc,λw g vs hs ha=>(ACalls.enterG (R:=R) hc λn h1 h2 h3=>hw n h1 h2 h3 (RepL.bd _ _ ha)).2 w g vs hs ha⟩
def ACalls.intoN {f:FuncId}{af:AF}(hc:Em P f=some af) {args T0:List AV}{h:AH}{R:AE->AH->Prop}(hT:args++List.replicate (af.ntmps-args.length) .any=T0)
  (hw : ∀ n,h.length=n->(∀ e∈h,e.lt n=true)->AV.ltL n args=true->AV.bdL args->aw P n af.code (retA af.res R) T0 (h++[])):ACalls P f args h R:=by
 subst hT;refine⟨Gr hc,λw g vs hs ha=>(ACalls.of_aw (R:=R) hc ?_).2 w g vs hs ha⟩;have:=hw h.length rfl hs.ltE (RepL.lt (λi v l hl=>(hs.fresh i v l hl).1) _ _ ha) (RepL.bd _ _ ha);rwa [List.append_nil] at this
def ACalls.weak {f:FuncId}{args:List AV}{h:AH}{res:AV}(hc:ACalls P f args h λx h'=>h'=h /\ ∃ c,x=.ret c/\Wk c res):ACalls P f args h λx h'=>h'=h/\x=.ret res:=by
 refine⟨hc.1,λw g vs hs ha=>(hc.2 w g vs hs ha).mono ?_⟩;rintro e w' ⟨x,h',g',h1,h2,h3,h4,h5,rfl,c,rfl,hw⟩;refine⟨.ret res,_,g',?_,h2,h3,h4,h5,rfl,rfl⟩;cases e <;> simp only[EndR] at h1 ⊢;exact hw _ _ _ h1
def ACalls.wkR {f:FuncId}{args:List AV}{h:AH}{c res:AV}(hw:Wk c res) (hc:ACalls P f args h λx h'=>h'=h/\x=.ret c):ACalls P f args h λx h'=>h'=h/\x=.ret res :=
 ACalls.weak (hc.mono λ_ _ hh=>⟨hh.1,c,hh.2,hw⟩)
def rtw {n:Nat}{h E:AH}{c res:AV}(hl:c.lt n=true) (he:Wk c res) : ∃ z,h++E=h++z/\(AE.ret c).lt n=true /\ ∃ d,AE.ret c=.ret d/\Wk d res:=⟨E,rfl,hl,c,rfl,he⟩
def rt {n:Nat}{h E:AH}{c res:AV}(hl:c.lt n=true) (he:c=res) : ∃ z,h++E=h++z/\(AE.ret c).lt n=true/\AE.ret c=.ret res:=⟨E,rfl,hl,by rw[he]⟩
section
variable {T : List AV} {h : AH} {x y i : Operand} {c : AV}
def cvl {cs:List AV}(hx:Ae T x=c) (hc:D8 c=some cs):D8 (Ae T x)=some cs:=by rw[hx];exact hc
def oi {τ:Operand->AV}{d:Int}{k:IntKind}{j:Int}(hx:τ x=.v (.int k j)):Dm τ d (some x)=some j:=by simp only[Dm,hx]
def on_ {τ:Operand->AV}{d:Int}:Dm τ d none=some d:=rfl
def Bj {b:Bool}(hx:Ae T x=bv b):aval h (Ae T) (.un .not x)=some (bv (!b)):=by simp only[aval,hx]
def Nc {b:Bool}{ks:List LK}{cs ds:List AV}(hx:Ae T x=.agg cs) (hy:Ae T y=.agg ds) (he:Ei ks cs ds=some b):aval h (Ae T) (.eqs false ks x y)=some (bv b):=v_eqs hx hy he
def Ma {p:Prop} [Decidable p] {ks:List LK}{cs ds:List AV}(hx:Ae T x=.agg cs) (hy:Ae T y=.agg ds) (he:Ei ks cs ds=some (decide p)):aval h (Ae T) (.eqs true ks x y)=some (bv (decide (¬p))):=by
 rw[v_eqs hx hy he];by_cases hp:p <;> simp[hp]
def bV {a b:Bool}(hx:Ae T x=bv a) (hy:Ae T y=bv b):aval h (Ae T) (.eqb true x y)=some (bv (decide (a≠b))):=by
 rw[v_eqb hx hy];cases a <;> cases b <;> rfl
def Qf {m st sz:Nat}{full:Bool}{cs:List AV}(hx:Ae T x=.sl m st full cs) (hl:cs.length=m*sz):Et h sz (Ae T x)=some (m,cs):=by
 simp only[Et,hx,Ia,if_pos hl]
def C0 {id v m ty st sz:Nat}{cells cs:List AV}(hx:Ae T x=.own id v m) (he:h[id]?=some (.mk v ty st cells)) (hs:st=sz) (hc:cells.take (m*sz)=cs) (hl:m*sz<=cells.length):Et h sz (Ae T x)=some (m,cs):=by
 subst hc hs;have:(cells.take (m*st)).length=m*st:=by rw[List.length_take];omega
 simp only[Et,hx,Ia,he,if_pos (And.intro trivial hl),if_pos this]
def sc_str {s:ByteArray}(hx:Ae T x=sv s):Et h 1 (Ae T x)=some (s.size,s.data.toList.map λb=>.v (.int .u8 b.toNat)):=by simp only[Et,hx,if_true]
def rows {α:Type}(f:α->List AV) (l:List α):List AV:=l.flatMap f
def C9 {α:Type}{f:α->List AV}{st:Nat}(hf : ∀ x,(f x).length=st) : ∀ l,(rows f l).length=l.length*st
 | []=>by simp[rows]
 | x::l=>by
  have:=C9 hf l;simp only[rows] at this;simp only[rows,List.flatMap_cons,List.length_append,hf,this,List.length_cons,Nat.add_mul,Nat.one_mul];omega
def Ps {α:Type}{f:α->List AV}{st:Nat}(hf : ∀ x,(f x).length=st) : ∀ (k:Nat) (l:List α),(rows f l).drop (k*st)=rows f (l.drop k)
 | 0,l=>by simp
 | k+1,[]=>by simp[rows]
 | k+1,x::l=>by
  have:=Ps hf k l;simp only[rows] at this;simp only[rows,List.flatMap_cons,List.drop_succ_cons];rw[Nat.add_mul,Nat.one_mul,Nat.add_comm,<-List.drop_drop,<-hf x,List.drop_left,hf x];exact this
def Tl {α:Type}{f:α->List AV}{st:Nat}(hf : ∀ x,(f x).length=st) : ∀ (k:Nat) (l:List α),(rows f l).take (k*st)=rows f (l.take k)
 | 0,l=>by simp[rows]
 | k+1,[]=>by simp[rows]
 | k+1,x::l=>by
  have:=Tl hf k l;simp only[rows] at this;simp only[rows,List.flatMap_cons,List.take_succ_cons];rw[Nat.add_mul,Nat.one_mul,List.take_append,hf x,<-this];rw[List.take_of_length_le (by rw[hf x];omega),show k*st+st-st=k*st by omega]
def Lp {α:Type}{f:α->List AV}{st:Nat}(hf : ∀ x,(f x).length=st) {l:List α}{k:Nat}(hk:k<l.length):((rows f l).drop (k*st)).take st=f l[k]:=by
 rw[Ps hf,List.drop_eq_getElem_cons hk];simp only[rows,List.flatMap_cons];rw[<-hf l[k],List.take_left]
def Bt {α:Type}{f:α->List AV}(l m:List α):rows f (l++m)=rows f l++rows f m:=by simp[rows]
def C3 {α:Type}{f:α->List AV}(x:α):rows f [x]=f x:=by simp[rows]
def Eh {α:Type}{f:α->List AV}(hf : ∀ n x,AV.ltL n (f x)=true) {n:Nat} : ∀ l,AV.ltL n (rows f l)=true
 | []=>rfl
 | x::l=>by
  have:=Eh hf (n:=n) l;simp only[rows] at this;simp only[rows,List.flatMap_cons];have key : ∀ a b:List AV,AV.ltL n a=true->AV.ltL n b=true->AV.ltL n (a++b)=true:=by
   intro a;induction a with
   | nil=>intro b _ hb;exact hb
   | cons c cs ih=>intro b ha hb;simp only[AV.ltL,List.cons_append,Bool.and_eq_true] at ha ⊢;exact⟨ha.1,ih b ha.2 hb⟩
  exact key _ _ (hf n x) this
def Jg {α:Type}{f:α->List AV}(hf : ∀ x,(f x).all leaf=true) : ∀ l,(rows f l).all leaf=true
 | []=>rfl
 | x::l=>by
  have:=Jg hf l;simp only[rows] at this;simp only[rows,List.flatMap_cons,List.all_append,hf x,this,Bool.and_self]
def Bh {α:Type}{f:α->List AV}{st n k:Nat}{full:Bool}{l:List α}{j:Int}{kd:IntKind}{ds:List AV}(hx:Ae T x=.sl n st full (rows f l)) (hi:Ae T i=.v (.int kd j)) (hf : ∀ x,(f x).length=st) (hst:0<st) (hj:j=(k:Int)) (hk:k<l.length) (hn:n=l.length) (hd:f l[k]=ds):aval h (Ae T) (.ia st x i)=some (.rp ds):=by
 subst hj hn hd;exact v_ia hx hi hst (by omega) (by omega) (by rw[Int.toNat_natCast];exact Lp hf hk)
def v_lo {α:Type}{f:α->List AV}{st n k:Nat}{full:Bool}{l:List α}{j:Int}{kd:IntKind}{lo:Operand}(hx:Ae T x=.sl n st full (rows f l)) (hi:Ae T lo=.v (.int kd j)) (hf : ∀ x,(f x).length=st) (hj:j=(k:Int)) (hk:k<=l.length) (hn:n=l.length) :
  aval h (Ae T) (.slc st x (some lo) none none)=some (.sl (l.drop k).length st full (rows f (l.drop k))):=by
 subst hj hn;rw[v_slc hx (oi hi) on_ (by omega) (by omega) (by omega)];simp only[Int.toNat_natCast,decide_true,Bool.and_true,Ps hf,List.length_drop];congr 2;rw[List.take_of_length_le];rw[C9 hf,List.length_drop];exact Nat.le_refl _
def v_hi {α:Type}{f:α->List AV}{st n k:Nat}{full:Bool}{l:List α}{j:Int}{kd:IntKind}{hi:Operand}(hx:Ae T x=.sl n st full (rows f l)) (hi':Ae T hi=.v (.int kd j)) (hf : ∀ x,(f x).length=st) (hj:j=(k:Int)) (hk:k<=l.length) (hn:n=l.length) :
  aval h (Ae T) (.slc st x none (some hi) none)=some (.sl (l.take k).length st (full&&decide (k=l.length)) (rows f (l.take k))):=by
 subst hj hn;rw[v_slc hx on_ (oi hi') (by omega) (by omega) (by omega)];simp only[Int.toNat_natCast,Nat.zero_mul,Int.toNat_zero,List.drop_zero,Nat.sub_zero,Tl hf,List.length_take,Nat.min_eq_left hk];have:decide ((k:Int)=(l.length:Int))=decide (k=l.length):=by
  simp only[decide_eq_decide];omega
 rw[this]
def v_lh {α:Type}{f:α->List AV}{st n k m:Nat}{full:Bool}{l:List α}{j u:Int}{kd kd':IntKind}{lo hi:Operand}(hx:Ae T x=.sl n st full (rows f l)) (hj':Ae T lo=.v (.int kd j)) (hi':Ae T hi=.v (.int kd' u)) (hf : ∀ x,(f x).length=st) (hj:j=(k:Int)) (hu:u=(m:Int)) (hk:k<=m) (hm:m<=l.length) (hn:n=l.length) :
  aval h (Ae T) (.slc st x (some lo) (some hi) none)=some (.sl ((l.take m).drop k).length st (full&&decide (m=l.length)) (rows f ((l.take m).drop k))):=by
 subst hj hn hu;rw[v_slc hx (oi hj') (oi hi') (by omega) (by omega) (by omega)];simp only[Int.toNat_natCast,List.length_drop,List.length_take,Nat.min_eq_left hm];have:decide ((m:Int)=(l.length:Int))=decide (m=l.length):=by
  simp only[decide_eq_decide];omega
 rw[this,Ps hf,Tl hf,<-List.drop_take]
def v_hiO {st id v n m:Nat}{j:Int}{kd:IntKind}{hi:Operand}(hx:Ae T x=.own id v n) (hi':Ae T hi=.v (.int kd j)) (hj:j=(m:Int)) (hm:m<=n):aval h (Ae T) (.slc st x none (some hi) none)=some (.own id v m):=by
 subst hj;simp only[aval,hx,oi hi'];rw[if_pos (by omega),Int.toNat_natCast]
def Ck {α:Type}{f:α->List AV}{st n k id v ty:Nat}{l:List α}{j:Int}{kd:IntKind}(hx:Ae T x=.own id v n) (hi:Ae T i=.v (.int kd j)) (he:h[id]?=some (.mk v ty st (rows f l))) (hf : ∀ x,(f x).length=st) (hst:0<st) (hj:j=(k:Int)) (hk:k<l.length) (hn:n=l.length):aval h (Ae T) (.ia st x i)=some (.ptr id v (k*st)):=by
 subst hj hn;rw[v_iaO hx hi he hst (by omega) (by omega) (by rw[C9 hf];exact Nat.le_refl _),Int.toNat_natCast]
def Iv {α:Type}{f:α->List AV}{sz k id v ty s:Nat}{l:List α}{cs:List AV}(hx:Ae T x=.ptr id v (k*sz)) (he:h[id]?=some (.mk v ty s (rows f l))) (hf : ∀ x,(f x).length=sz) (hk:k<l.length) (hc:f l[k]=cs):aval h (Ae T) (.load true sz x)=some (.agg cs) :=
 Ak hx he (by rw[Lp hf hk,hc]) (by rw[<-hc,hf])
def Jm {α:Type}{f:α->List AV}{k id v ty s:Nat}{l:List α}(hx:Ae T x=.ptr id v (k*1)) (he:h[id]?=some (.mk v ty s (rows f l))) (hf : ∀ x,(f x).length=1) (hk:k<l.length) (hc:f l[k]=[c]):aval h (Ae T) (.load false 1 x)=some c:=by
 refine Aa hx he ?_;have h1:=Lp hf hk;rw[hc] at h1;have:=congrArg (·[0]?) h1;simpa [List.getElem?_drop] using this
def Rx (f1:List AV) : ∀ (cs a b:List AV),cs.length=a.length->setCells (f1++(a++b)) f1.length cs=f1++(cs++b)
 | [],[],b,_=>rfl
 | [],_::_,_,h=>by simp at h
 | _::_,[],_,h=>by simp at h
 | c::cs,x::a,b,h=>by
  simp only[setCells];have h1:(f1++(x::a++b)).set f1.length c=(f1++[c])++(a++b):=by simp
  rw[h1];have h2:f1.length+1=(f1++[c]).length:=by simp
  rw[h2,Rx (f1++[c]) cs a b (by simpa using h)];simp
def W7 {α:Type}{f:α->List AV}{st:Nat}(hf : ∀ x,(f x).length=st) {l:List α}{k:Nat}(hk:k<l.length) (x:α):setCells (rows f l) (k*st) (f x)=rows f (l.set k x):=by
 have h1:rows f l=rows f (l.take k)++(f l[k]++rows f (l.drop (k+1))):=by
  have:l=l.take k++(l[k]::l.drop (k+1)):=by rw[<-List.drop_eq_getElem_cons hk,List.take_append_drop]
  calc rows f l=rows f (l.take k++(l[k]::l.drop (k+1))):=by rw[<-this]
   _=_:=by rw[Bt];simp only[rows,List.flatMap_cons]
 have h2:(rows f (l.take k)).length=k*st:=by rw[C9 hf,List.length_take,Nat.min_eq_left (by omega)]
 rw[h1,<-h2,Rx _ _ _ _ (by rw[hf,hf])];have h3:l.set k x=l.take k++(x::l.drop (k+1)):=by
  rw[List.set_eq_take_append_cons_drop,if_pos hk]
 rw[h3,Bt];simp[rows]
def Nn {α:Type}{f:α->List AV}{sz k id v ty s:Nat}{l:List α}{y:Operand}{z:α}{h':AH}(hx:Ae T x=.ptr id v (k*sz)) (hc:D8 (Ae T y)=some (f z)) (he:h[id]?=some (.mk v ty s (rows f l))) (hf : ∀ x,(f x).length=sz) (hlf:(f z).all leaf=true) (hk:k<l.length) (hh:h.set id (.mk v ty s (rows f (l.set k z)))=h') :
  aeff h (Ae T) (.store sz x y)=some (.v undef,h') :=
 Ai hx hc he (hf z) (by rw[C9 hf];have:=Nat.mul_le_mul_right sz hk;rw[Nat.succ_mul] at this;exact this) hlf (W7 hf hk z) hh
def Ji {s:ByteArray}{k:Nat}(hk:k<s.size):Dy s k=s[k]:=by
 unfold Dy;rw[List.getD_eq_getElem?_getD,List.getElem?_eq_getElem (by simpa using hk)];rfl
def jU {s:ByteArray}:s=⟨#[]⟩↔s.size=0:=by
 constructor
 .rintro rfl;rfl
 .intro h;apply ByteArray.ext;exact Array.size_eq_zero_iff.1 h
def v_eqlE {s:ByteArray}(hx:Ae T x=sv s):aval h (Ae T) (.bin .eql x (.const (.string ⟨#[]⟩)))=some (bv (decide (s.size=0))):=by
 rw[J6 hx lks];have:decide (s=(⟨#[]⟩:ByteArray))=decide (s.size=0):=by simp only[decide_eq_decide];exact jU
 rw[this]
abbrev u8R (b:UInt8):List AV:=[.v (.int .u8 (b.toNat:Int))]
def Yr : ∀ L:List UInt8,bytesOf (rows u8R L)=some L
 | []=>rfl
 | b::L=>by
  have:=Yr L;simp only[rows] at this;simp only[rows,List.flatMap_cons,u8R,List.singleton_append,bytesOf,Int.toNat_natCast,UInt8.ofNat_toNat];rw[show List.flatMap (λb=>[AV.v (Value.int IntKind.u8 (b.toNat:Int))]) L=List.flatMap u8R L from rfl,this];rfl
def u8_map : ∀ L:List UInt8,(L.map λb=>AV.v (.int .u8 (b.toNat:Int)))=rows u8R L
 | []=>rfl
 | b::L=>by
  have:=u8_map L;simp only[rows] at this;simp only[rows,List.map_cons,List.flatMap_cons,this];rfl
def sc_strR {s:ByteArray}(hx:Ae T x=sv s):Et h 1 (Ae T x)=some (s.data.toList.length,rows u8R s.data.toList):=by
 rw[sc_str hx,u8_map];rfl
def v_b2sO {id v n ty:Nat}{M:List UInt8}(hx:Ae T x=.own id v n) (he:h[id]?=some (.mk v ty 1 (rows u8R M))) (hn:n=M.length):aval h (Ae T) (.b2s x)=some (sv ⟨M.toArray⟩):=by
 subst hn;have hl:(rows u8R M).length=M.length:=by rw[C9 (st:=1) (λ_=>rfl)];omega
 have ht:(rows u8R M).take (M.length*1)=rows u8R M:=List.take_of_length_le (by omega);simp only[aval,hx,Ia,he];rw[if_pos (And.intro trivial (by omega))];simp only[ht,hl,if_true,Yr,Option.map_some]
def rr_t {t:Nat}(ht:T[t]?=some c):Ja T h (.tmp t)=some c:=ht
def rr_c {t id v o ty s sz:Nat}{agg:Bool}{cells:List AV}(ht:T[t]?=some (.ptr id v o)) (he:h[id]?=some (.mk v ty s cells)) (hl:Ed agg sz (cells.drop o)=some c):Ja T h (.cell t agg sz)=some c:=by
 simp only[Ja,ht,Fe,he,if_true,Option.bind_some,hl]
def ld0 {sz:Nat}{l:List AV}{o:Nat}(hc:l[o]?=some c):Ed false sz (l.drop o)=some c:=by
 have:l.drop o=c::l.drop (o+1):=by
  obtain⟨hlt,rfl⟩:=List.getElem?_eq_some_iff.1 hc;exact List.drop_eq_getElem_cons hlt
 rw[this];rfl
def ld1 {sz:Nat}{l cs:List AV}{o:Nat}(hc:(l.drop o).take sz=cs) (hl:cs.length=sz):Ed true sz (l.drop o)=some (.agg cs):=by
 subst hc;rw[List.length_take] at hl;simp only[Ed];rw[if_pos (by omega)]
def rm0:([]:List AR).mapM (Ja T h)=some []:=rfl
def rm1 {r:AR}{rs:List AR}{cs:List AV}(h1:Ja T h r=some c) (h2:rs.mapM (Ja T h)=some cs):(r::rs).mapM (Ja T h)=some (c::cs):=by
 simp only[List.mapM_cons,h1,h2];rfl
def rs1 {r:AR}(h1:Ja T h r=some c):aRes [r] T h=some c:=by simp only[aRes,rm1 h1 rm0]
def rsn {rs:List AR}{c1 c2:AV}{cs:List AV}(hm:rs.mapM (Ja T h)=some (c1::c2::cs)):aRes rs T h=some (.tup (c1::c2::cs)):=by simp only[aRes,hm]
def rs0:aRes [] T h=some (.tup []):=rfl
end
section
variable {Kp : AV -> List AV -> AH -> Prop} {K : List AV -> AH -> Prop} {Q : AX -> List AV -> AH -> Prop} {T : List AV} {h h0 E E' ents : AH}
def Bl {bl tl:List AOper}{q:List Bool}(hr:adrun P [] (h0++E) bl T [] λT ents=>arun P (λc T h=>Q (.pan c) T h) tl T (h0++(E++ents)) (λT h=>Q .normal T h)) (hn:tl.all Ge=true:=by rfl):aw P n0 (.drw bl q tl) Q T (h0++E):=by
 refine w_drw (rs:=[]) (Lg ?_ _ _ _ hr);intro T ents hk;rw[List.append_assoc];exact dL hn hk
def Qr (rs:List Nat) {bl tl:List AOper}{q:List Bool}(hr:adrun P rs (h0++E) bl T [] λT ents=>En P rs q tl T (h0++(E++ents)) (λT h=>Q .normal T h)):aw P n0 (.drw bl q tl) Q T (h0++E):=by
 refine w_drw (rs:=rs) (Lg ?_ _ _ _ hr);intro T ents hk;rw[List.append_assoc];exact hk
def P4 {rs:List Nat}{q:List Bool}{tl:List AOper}(hr:En P rs q tl T (h0++E) K):En P rs q tl T (h0++(E++[])) K:=by rw[List.append_nil];exact hr
def k_e_ent {rs:List Nat}{q:List Bool}{tl:List AOper}(he:E++ents=E') (hr:En P rs q tl T (h0++E') K):En P rs q tl T (h0++(E++ents)) K:=by rw[he];exact hr
def B9 {tl:List AOper}(hr:arun P Kp tl T (h0++E) K):arun P Kp tl T (h0++(E++[])) K:=by rw[List.append_nil];exact hr
def Eg {tl:List AOper}(he:E++ents=E') (hr:arun P Kp tl T (h0++E') K):arun P Kp tl T (h0++(E++ents)) K:=by rw[he];exact hr
def hlk {n k:Nat}(hn:h.length=n) (hk:E.length+ents.length=k):(h++E).length+ents.length=n+k:=by subst hn hk;simp;omega
end
end
section
variable {K : List AV -> AH -> Prop} {Q : AX -> List AV -> AH -> Prop} {T T' : List AV} {h h' h0 : AH} {q : List (List Nat)} {tc : List (Bool × List Nat)} {rest : List AOper} {d : Option Nat} {op : AOp} {c : AV} {P : Program} {n0 : Nat}
def w_orl {a:AC}{x:Operand}{f:FuncId}{al:List AOper}{d0:Nat}(hr:aw P n0 a Q T h):aw P n0 (.orPan a x f al d0) Q T h:=.inl hr
def bT {al:List AOper}(hr:Di P h q al [] T h λT h=>Q .normal T h):aw P n0 (.drwU q al) Q T h:=hr
def Xi (op:AOp):Bool:=match op with
 | .call _ _=>false
 | .panic _=>false
 | .eqn _ _=>false
 | .loadR _ _ _=>false
 | _=>true
def Qc {gd : Option (Nat × Bool)} {K : Bool × List Nat -> List AV -> AH -> Prop} (hn : Xi op = true) (hk : (∃ c, aval [] (Ae T) op = some c /\ K (false, []) (aPut T d c) h) \/
      (∃ c,aval h0 (Ae T) op=some c/\HExt h0 h/\K (true,List.range h0.length) (aPut T d c) h) \/
      (∃ c need id e2,aupd h (Ae T) op=some (c,need,id,e2)/\K (false,need.map (·.1)) (aPut T d c) (h.set id e2)) \/
      ∃ c ent,(aallo h.length (Ae T) op=some (c,ent)\/Fb h.length (Ae T) op=some (c,ent))/\K (false,[h.length]) (aPut T d c) (h++[ent])):austep P h0 ⟨d,gd,op⟩ T h K:=by
  cases op <;> first | exact hk | cases hn
def u_nil (hk:K T h):Di P h0 q [] tc T h K:=hk
def u_fr (hn:Xi op=true) (hv:aval [] (Ae T) op=some c) (hp:aPut T d c=T') (hk:Di P h0 q.tail rest (tc++[(false,[])]) T' h K):Di P h0 q (⟨d,none,op⟩::rest) tc T h K:=by
 subst hp;exact⟨λ_=>Qc hn (.inl ⟨c,hv,λi _=>.inr λx _=>by simp,hk⟩),λh=>by cases h⟩
def u_rd (hn:Xi op=true) (hv:aval h0 (Ae T) op=some c) (hx:HExt h0 h) (hc : ∀ i∈q.headD [],Ky (tc.getD i (false,[])) (true,List.range h0.length)) (hp:aPut T d c=T') (hk:Di P h0 q.tail rest (tc++[(true,List.range h0.length)]) T' h K):Di P h0 q (⟨d,none,op⟩::rest) tc T h K:=by
 subst hp;exact⟨λ_=>Qc hn (.inr (.inl ⟨c,hv,hx,hc,hk⟩)),λh=>by cases h⟩
def u_st {sz id v off:Nat}{p x:Operand}(he:aeff h (Ae T) (.store sz p x)=some (c,h')) (hp':Ae T p=.ptr id v off) (hc : ∀ i∈q.headD [],Ky (tc.getD i (false,[])) (false,[id])) (hp:aPut T d c=T') (hk:Di P h0 q.tail rest (tc++[(false,[id])]) T' h' K):Di P h0 q (⟨d,none,.store sz p x⟩::rest) tc T h K:=by
 subst hp;refine⟨λ_=>Qc rfl (.inr (.inr (.inl ?_))),λh=>by cases h⟩;simp only[aeff,hp'] at he;split at he <;> try (cases he;done)
 rename_i e1 cs hid hcs;cases hid;split at he <;> try (cases he;done)
 rename_i v' ty s cells hcell;split at he <;> try (cases he;done)
 rename_i hcond;cases he;exact⟨_,[(_,.mk v' ty s cells)],_,_,by simp only[aupd,hp',hcs,hcell];rw[if_pos hcond],hc,hk⟩
def u_al {id:Nat} (hk1:(match op with | .new _ _ _=>true | .box _ _ _=>true | .lit _ _ _ _ _=>true | _=>false)=true) (he:aeff h (Ae T) op=some (c,h')) (hl:h.length=id) (hc : ∀ i∈q.headD [],Ky (tc.getD i (false,[])) (false,[id])) (hp:aPut T d c=T') (hk:Di P h0 q.tail rest (tc++[(false,[id])]) T' h' K):Di P h0 q (⟨d,none,op⟩::rest) tc T h K:=by
 subst hp hl;cases op <;> simp only at hk1 <;> try (cases hk1;done)
 all_goals refine⟨λ_=>Qc rfl (.inr (.inr (.inr ?_))),λh=>by cases h⟩
 all_goals simp only[aeff] at he
 .cases he;exact⟨_,_,.inl rfl,hc,hk⟩
 .split at he <;> try (cases he;done)
  rename_i cs hcs;split at he <;> try (cases he;done)
  rename_i hsz;cases he;exact⟨_,_,.inl (by simp only[aallo,hcs];rw[if_pos hsz]),hc,hk⟩
 .split at he <;> try (cases he;done)
  rename_i cs hcs;cases he;exact⟨_,_,.inl (by simp only[aallo,hcs]),hc,hk⟩
def hx_l {E F E':AH}(he:E++F=E'):HExt (h++E) (h++E'):=by subst he;rw[<-List.append_assoc];exact HExt.append _ _
def nS {f:FuncId}{xs:List Operand}{as1:List AV}(hx:xs.map (Ae T)=as1) (hc : ∀ h,ACalls P f as1 h λr h'=>h'=h/\r=.ret c) (hp:aPut T d c=T') (hk:Di P h0 q.tail rest (tc++[(false,[])]) T' h K):Di P h0 q (⟨d,none,.call (.func f) xs⟩::rest) tc T h K:=by
 subst hp hx;unfold Di agd;refine⟨λ_=>?_,λh=>by cases h⟩;exact .inl ⟨c,λh=>⟨rfl,rfl,hc h⟩,λi hi=>.inr λx hx hx2=>by simp at hx2,hk⟩
def bW {f:FuncId}{xs:List Operand}{as1:List AV}{id:Nat}{e e2:Ent}(hx:xs.map (Ae T)=as1) (he:h[id]?=some e) (hc : ∀ h,h[id]?=some e->ACalls P f as1 h λr h'=>r=.ret c/\h'=h.set id e2) (hh : ∀ i∈q.headD [],Ky (tc.getD i (false,[])) (false,[id])) (hs:h.set id e2=h') (hp:aPut T d c=T') (hk:Di P h0 q.tail rest (tc++[(false,[id])]) T' h' K):Di P h0 q (⟨d,none,.call (.func f) xs⟩::rest) tc T h K:=by
 subst hp hs hx;unfold Di agd;refine⟨λ_=>?_,λh=>by cases h⟩;exact .inr (.inr ⟨c,[(id,e)],id,e2,λh hn=>⟨rfl,rfl,(hc h (hn (id,e) (by simp))).mono λr h' hr=>⟨hr.2,hr.1⟩⟩,λp hp=>by simp at hp;subst hp;exact he,⟨e,by simp⟩,hh,hk⟩)
def Wo {n:Nat}(hn:Xi op=true) (hv:aval h0 (Ae T) op=some c) (hx:HExt h0 h) (hl:h0.length=n) (hc : ∀ i∈q.headD [],Ky (tc.getD i (false,[])) (true,List.range n)) (hp:aPut T d c=T') (hk:Di P h0 q.tail rest (tc++[(true,List.range n)]) T' h K):Di P h0 q (⟨d,none,op⟩::rest) tc T h K:=by
 subst hl;exact u_rd hn hv hx hc hp hk
end
end
section
section
def lt' {p:Prop}(h:p:=by first | rfl | (simp only[AV.lt,AV.ltL,Ent.lt,List.all_cons,List.all_nil,Bool.and_true,Bool.and_self,decide_true];done) | (simp[AV.lt,AV.ltL,Ent.lt, *];done) | (simp[AV.lt,AV.ltL,Ent.lt, *];omega)):p:=h
def rT' {n:Nat}{h E:AH}{c res:AV}(he:c=res) (hl:c.lt n=true:=by exact lt') : ∃ z,h++E=h++z/\(AE.ret c).lt n=true/\AE.ret c=.ret res:=rt hl he
def rtW' {n:Nat}{h E:AH}{c res:AV}(he:Wk c res) (hl:c.lt n=true:=by exact lt') : ∃ z,h++E=h++z/\(AE.ret c).lt n=true /\ ∃ d,AE.ret c=.ret d/\Wk d res:=rtw hl he
def wA' {cs ds:List AV}(h:WkL cs ds:=by repeat (first | exact wk0 | refine wka ?_ | refine wk1 rfl ?_ | refine wk1 (by first | exact ivx (by omega) | (simp;done)) ?_)):WkL cs ds:=h
def z' {α:Type}{x b:α}{l:List α}:(x::l).set 0 b=b::l:=rfl
def s' {α:Type}{x b:α}{n:Nat}{l:List α}:(x::l).set (n+1) b=x::l.set n b:=rfl
def la' {α:Type}{x:α}{l m:List α}:(x::l)++m=x::(l++m):=rfl
def ln' {α:Type}{m:List α}:[]++m=m:=rfl
def rn' (a:Nat):Nat->List (Nat×AV)
 | 0=>[]
 | k+1=>(a,.any)::rn' (a+1) k
def tA':List AV->Nat->List AV
 | _,0=>[]
 | x::l,m+1=>x::tA' l m
 | [],m+1=>.any::tA' [] m
def Ob : ∀ (l:List AV) (m:Nat),l.length<=m->l++List.replicate (m-l.length) .any=tA' l m
 | [],0,_=>rfl
 | [],m+1,_=>by
  have:=Ob [] m (Nat.zero_le _);simp only[List.nil_append,List.length_nil,Nat.sub_zero] at this ⊢;rw[List.replicate_succ,this];rfl
 | x::l,0,h=>by simp at h
 | x::l,m+1,h=>by
  have:=Ob l m (by simpa using h);simp only[List.cons_append,List.length_cons,Nat.add_sub_add_right,this];rfl
variable {P : Program} {f : FuncId} {c : AC} {rs : List AR} {m : Nat} {args : List AV} {h : AH}
def tI' {R:AE->Prop}(hc:Em P f=some ⟨c,rs,m⟩) (hw : ∀ n,h.length=n->(∀ e∈h,e.lt n=true)->AV.ltL n args=true->AV.bdL args->aw P n c (retA rs λx h' => ∃ z,h'=h++z/\x.lt n=true/\R x) (tA' args m) (h++[])) (hl:Nat.ble args.length m=true:=by rfl):ACalls P f args h λx h'=>h'=h/\R x :=
 ACalls.into hc (Ob _ _ (Nat.le_of_ble_eq_true hl)) hw
def tW' {res:AV}(hc:Em P f=some ⟨c,rs,m⟩) (hw : ∀ n,h.length=n->(∀ e∈h,e.lt n=true)->AV.ltL n args=true->AV.bdL args->aw P n c (retA rs λx h' => ∃ z,h'=h++z/\x.lt n=true /\ ∃ c,x=.ret c/\Wk c res) (tA' args m) (h++[])) (hl:Nat.ble args.length m=true:=by rfl):ACalls P f args h λx h'=>h'=h/\x=.ret res :=
 ACalls.weak (tI' hc hw hl)
def tN' {R:AE->AH->Prop}(hc:Em P f=some ⟨c,rs,m⟩) (hw : ∀ n,h.length=n->(∀ e∈h,e.lt n=true)->AV.ltL n args=true->AV.bdL args->aw P n c (retA rs R) (tA' args m) (h++[])) (hl:Nat.ble args.length m=true:=by rfl):ACalls P f args h R :=
 ACalls.intoN hc (Ob _ _ (Nat.le_of_ble_eq_true hl)) hw
def tJ' {R:AE->AH->Prop}(hc:Em P f=some ⟨c,rs,m⟩) (hw : ∀ n,h.length=n->(∀ e∈h,e.lt n=true)->AV.ltL n args=true->AV.bdL args->aw P n c (retA rs λx h' => ∃ y z,h'=y++z/\y.length=n/\(∀ e∈y,e.lt n=true)/\x.lt n=true/\R x y) (tA' args m) (h++[])) (hl:Nat.ble args.length m=true:=by rfl):ACalls P f args h R :=
 ACalls.intoG hc (Ob _ _ (Nat.le_of_ble_eq_true hl)) hw
end
section
variable {P : Program} {n0 : Nat} {T T1 : List AV} {a : AC} {Q : AX -> List AV -> AH -> Prop}
def bkE' {h0 E E1 x:AH}{N:Nat}(K:Nat) (hn:h0.length=N) (hh : ∀ e∈h0,e.lt N=true) (hs:WkL T T1) (he:E=E1++x:=by rfl) (hT:AV.ltL (N+K) T1=true:=by exact lt') (hE:E1.all (Ent.lt (N+K))=true:=by exact lt') (hK:E1.length=K:=by rfl) (h0':n0<=N+K:=by omega):ALe n0 T (h0++E) T1 (h0++E1) :=
 ALe.back hs he (by rw[hn,hK]) h0' hT (ltw (Nat.le_add_right _ _) hh) hE
def bk' {h0 E E1 x:AH}{N:Nat}(K:Nat) (hn:h0.length=N) (hh : ∀ e∈h0,e.lt N=true) (he:E=E1++x:=by rfl) (hs:WkL T T1:=by exact wA') (hT:AV.ltL (N+K) T1=true:=by exact lt') (hE:E1.all (Ent.lt (N+K))=true:=by exact lt') (hK:E1.length=K:=by rfl) (h0':n0<=N+K:=by omega):ALe n0 T (h0++E) T1 (h0++E1) :=
 bkE' K hn hh hs he hT hE hK h0'
def lU' {ι:Type}{S:ι->List AV×AH}{I:ι->Prop}{m:ι->Nat}{i:ι}{h:AH}(j:ι) (hI:I j) (hl:ALe n0 T h (S j).1 (S j).2) (hm:m j<m i:=by first | omega | (dsimp only;omega)):LoopTo n0 S I m i T h:=LoopTo.mk j hm hI hl
def lT' {ι:Type}{S:ι->List AV×AH}{I:ι->Prop}{m:ι->Nat}{i:ι}{h:AH}(j:ι) (hI:I j) (hm:m j<m i:=by first | omega | (dsimp only;omega)) (hl:ALe n0 T h (S j).1 (S j).2:=by (try dsimp only);(try simp only[Hp,Jw,z',s',rn',la',ln',Nat.reduceAdd]);exact ALe.same wA' rfl):LoopTo n0 S I m i T h:=LoopTo.mk j hm hI hl
def cT' {ι:Type}{J:ι->Prop}{A:ι->List AV}{B:ι->AH}{h:AH}(j:ι) (hI:J j) (hl:ALe n0 T h (A j) (B j):=by (try dsimp only);(try simp only[Hp,Jw,z',s',rn',la',ln',Nat.reduceAdd]);exact ALe.same wA' rfl) : ∃ i,J i/\ALe n0 T h (A i) (B i):=⟨j,hI,hl⟩
def w_lp {E:AH}{h0:AH}{ι:Type}(f:ι->List (Nat×AV)) (g:ι->List (Nat×Ent)) (I:ι->Prop) (m:ι->Nat) (i0:ι) (hI:I i0)
  (round : ∀ i,I i->aw P n0 a (AX.thn (LoopTo n0 (λi=>(Hp T (f i),h0++Jw E (g i))) I m i) Q) (Hp T (f i)) (h0++Jw E (g i))) (hl:ALe n0 T (h0++E) (Hp T (f i0)) (h0++Jw E (g i0)):=by (try simp only[Hp,Jw,z',s',rn',la',ln',Nat.reduceAdd]);exact ALe.same wA' rfl):aw P n0 (.loop a) Q T (h0++E):=It f g I m i0 hI hl round
end
section
variable {K : List AV -> AH -> Prop} {Q : AX -> List AV -> AH -> Prop} {T T' : List AV} {h : AH} {Kp : AV -> List AV -> AH -> Prop} {rest : List AOper} {d : Option Nat} {c : AV} {P : Program} {n0 : Nat} {a b : AC} {al : List AOper}
def mv' {x:Operand}(hx:Ae T x=c) (hp:aPut T d c=T') (hk:arun P Kp rest T' h K):arun P Kp (⟨d,none,.mv x⟩::rest) T h K:=s_val rfl (v_mv hx) hp hk
def sn' (hr:aw P n0 b Q T h):arun P Kp [] T h (λT h=>AX.thn (λT h => ∃ T1 h1,ALe n0 T h T1 h1/\aw P n0 b Q T1 h1) Q .normal T h):=Am (An hr)
def wr' (hr:arun P (λc T h=>AX.thn (λT h => ∃ T1 h1,ALe n0 T h T1 h1/\aw P n0 b Q T1 h1) Q (.pan c) T h) al T h (λT h=>AX.thn (λT h => ∃ T1 h1,ALe n0 T h T1 h1/\aw P n0 b Q T1 h1) Q .normal T h)):aw P n0 (.seq (.reg al) b) Q T h:=Ab (Aq hr)
def cd' {c:Operand}{v:Bool}{p q:Prop}(hc:Ae T c=bv v) (hy:p->aw P n0 a Q T h) (hn:q->aw P n0 b Q T h) (h1:v=true->p:=by first | exact λe=>of_decide_eq_true e | exact λe=>e) (h2:v=false->q:=by first | exact λe=>of_decide_eq_false e | exact λe=>e):aw P n0 (.cond c a b) Q T h:=Bg hc (λe=>hy (h1 e)) (λe=>hn (h2 e))
def V' {op:AOp}(hv:aval h (Ae T) op=some c) (hp:aPut T d c=T') (hk:arun P Kp rest T' h K) (hn:Ge ⟨d,none,op⟩=true:=by rfl):arun P Kp (⟨d,none,op⟩::rest) T h K:=s_val hn hv hp hk
def E' {op:AOp}{h':AH}(he:aeff h (Ae T) op=some (c,h')) (hp:aPut T d c=T') (hk:arun P Kp rest T' h' K) (hn:Ge ⟨d,none,op⟩=true:=by rfl) (hv:aval h (Ae T) op=none:=by rfl):arun P Kp (⟨d,none,op⟩::rest) T h K:=s_eff hn hv he hp hk
def D' {op:AOp}{rs:List Nat}{h0:AH}{ents:AH}(hv:aval h0 (Ae T) op=some c) (hp:aPut T d c=T') (hk:adrun P rs h0 rest T' ents K) (hn:noD ⟨d,none,op⟩=true:=by rfl):adrun P rs h0 (⟨d,none,op⟩::rest) T ents K:=d_val hn hv hp hk
def sp' {t:Nat}{v:Bool}{p q:Prop}{T1 T2:List AV}(ht:T[t]?=some (bv v)) (hp1:aPut T (some t) (bv true)=T1) (hp2:aPut T (some t) (bv false)=T2) (hy:p->arun P Kp al T1 h K) (hn:q->arun P Kp al T2 h K) (h1:v=true->p:=by first | exact λe=>of_decide_eq_true e | exact λe=>e) (h2:v=false->q:=by first | exact λe=>of_decide_eq_false e | exact λe=>e):arun P Kp al T h K:=Cz ht hp1 hp2 (λe=>hy (h1 e)) (λe=>hn (h2 e))
def dq' {rs:List Nat}{h0:AH}{t:Nat}{v:Bool}{p q:Prop}{T1 T2:List AV}(ht:T[t]?=some (bv v)) (hp1:aPut T (some t) (bv true)=T1) (hp2:aPut T (some t) (bv false)=T2) (hy:p->adrun P rs h0 al T1 h K) (hn:q->adrun P rs h0 al T2 h K) (h1:v=true->p:=by first | exact λe=>of_decide_eq_true e | exact λe=>e) (h2:v=false->q:=by first | exact λe=>of_decide_eq_false e | exact λe=>e):adrun P rs h0 al T h K:=Yk ht hp1 hp2 (λe=>hy (h1 e)) (λe=>hn (h2 e))
def nb' {n m:Nat}(h:Nat.ble n m=true):n<=m:=Nat.le_of_ble_eq_true h
@[reducible] def Mv (d x:Nat):AOper:=⟨some d,none,.mv (.tmp x)⟩
@[reducible] def Nk (d x:Nat):AOper:=⟨some d,none,.nck (.tmp x)⟩
@[reducible] def Fa (d k x:Nat):AOper:=⟨some d,none,.fa k (.tmp x)⟩
@[reducible] def Ld (d x:Nat):AOper:=⟨some d,none,.load false 1 (.tmp x)⟩
@[reducible] def Ex (d x k:Nat):AOper:=⟨some d,none,.ext (.tmp x) k⟩
@[reducible] def Oo (d:Nat) (o:AOp):AOper:=⟨some d,none,o⟩
@[reducible] def Ot (d g:Nat) (o:AOp):AOper:=⟨some d,some (g,true),o⟩
@[reducible] def Of (d g:Nat) (o:AOp):AOper:=⟨some d,some (g,false),o⟩
@[reducible] def Ci (n:Int):Operand:=.const (.int .i64 n)
@[reducible] def Ss:AV:=.v (.string ⟨#[]⟩)
end
def rz {T:List AV}{h:AH}{t:Nat}{c:AV}[i:Gt T t c]:aRes [.tmp t] T h=some c:=rs1 (rr_t i.h)
def ry {T:List AV}{h:AH}{t s:Nat}{c d:AV}[i:Gt T t c][j:Gt T s d]:aRes [.tmp t,.tmp s] T h=some (.tup [c,d]):=rsn (rm1 (rr_t i.h) (rm1 (rr_t j.h) rm0))
def rx {T:List AV}{h:AH}{t s r:Nat}{c d e:AV}[i:Gt T t c][j:Gt T s d][k:Gt T r e]:aRes [.tmp t,.tmp s,.tmp r] T h=some (.tup [c,d,e]):=rsn (rm1 (rr_t i.h) (rm1 (rr_t j.h) (rm1 (rr_t k.h) rm0)))
def gx {h l:AH}{n k:Nat}{e:Ent}(hn:h.length=n:=by assumption)(hk:l[k]?=some e:=by rfl):(h++l)[n+k]?=some e:=hga hn hk
def cv {T:List AV}{x:Operand}{c:AV}{cs:List AV}[i:Lk T x c](h:D8 c=some cs:=by rfl):D8 (Ae T x)=some cs:=cvl i.h h
def mw {P:Program}{Kp:AV->List AV->AH->Prop}{rest:List AOper}{T U:List AV}{h:AH}{K:List AV->AH->Prop}{d:Option Nat}{c:AV}{x:Operand}[i:Lk T x c][j:Pt T d c U](hk:arun P Kp rest U h K):arun P Kp (⟨d,none,.mv x⟩::rest) T h K:=mv' i.h j.h hk
def Vw {P:Program}{Kp:AV->List AV->AH->Prop}{rest:List AOper}{T U:List AV}{h:AH}{K:List AV->AH->Prop}{d:Option Nat}{c:AV}{op:AOp}(hv:aval h (Ae T) op=some c)[j:Pt T d c U](hk:arun P Kp rest U h K)(hn:Ge ⟨d,none,op⟩=true:=by rfl):arun P Kp (⟨d,none,op⟩::rest) T h K:=V' hv j.h hk hn
def Dw {P:Program}{rest:List AOper}{T U:List AV}{K:List AV->AH->Prop}{d:Option Nat}{c:AV}{op:AOp}{rs:List Nat}{h0:AH}{ents:AH}(hv:aval h0 (Ae T) op=some c)[j:Pt T d c U](hk:adrun P rs h0 rest U ents K)(hn:noD ⟨d,none,op⟩=true:=by rfl):adrun P rs h0 (⟨d,none,op⟩::rest) T ents K:=D' hv j.h hk hn
def _root_.om {p:Prop}(h:p:=by omega):p:=h
def vm {T:List AV}{h:AH}{x:Operand}{c:AV}[i:Lk T x c]:aval h (Ae T) (.mv x)=some c:=v_mv lk
def so {P:Program}{Kp:AV->List AV->AH->Prop}{rest:List AOper}{T U:List AV}{h:AH}{K:List AV->AH->Prop}{d:Option Nat}{op:AOp}{t:Nat}{b:Bool}[i:Gt T t (.v (.bool (!b)))][j:Pt T d (.v undef) U](hk:arun P Kp rest U h K):arun P Kp (⟨d,some (t,b),op⟩::rest) T h K:=s_no gt pt hk
def sd {P:Program}{Kp:AV->List AV->AH->Prop}{rest:List AOper}{T:List AV}{h:AH}{K:List AV->AH->Prop}{d:Option Nat}{op:AOp}{t:Nat}{b:Bool}[i:Gt T t (.v (.bool b))](hk:arun P Kp (⟨d,none,op⟩::rest) T h K):arun P Kp (⟨d,some (t,b),op⟩::rest) T h K:=s_do gt hk
def uf {P:Program}{h0:AH}{q:List (List Nat)}{rest:List AOper}{tc:List (Bool×List Nat)}{T U:List AV}{h:AH}{K:List AV->AH->Prop}{d:Option Nat}{c:AV}{op:AOp}(hv:aval [] (Ae T) op=some c)[j:Pt T d c U](hk:Di P h0 q.tail rest (tc++[(false,[])]) U h K)(hn:Xi op=true:=by rfl):Di P h0 q (⟨d,none,op⟩::rest) tc T h K:=u_fr hn hv pt hk
def ad {P:Program}{Kp:AV->List AV->AH->Prop}{rest:List AOper}{T U:List AV}{h:AH}{K:List AV->AH->Prop}{d:Option Nat}{x y:Operand}{a b:Int}[i:Lk T x (iv a)][k:Lk T y (iv b)][j:Pt T d (iv (a+b)) U](hk:arun P Kp rest U h K)(h1 : -9223372036854775808<=a+b:=by omega)(h2:a+b<=9223372036854775807:=by omega):arun P Kp (⟨d,none,.bin .add x y⟩::rest) T h K:=V' (Du i.h k.h h1 h2) pt hk
def fq {P:Program}{Kp:AV->List AV->AH->Prop}{rest:List AOper}{T U:List AV}{h:AH}{K:List AV->AH->Prop}{d:Option Nat}{x:Operand}{off id v:Nat}[i:Lk T x (.ptr id v 0)][j:Pt T d (.ptr id v off) U](hk:arun P Kp rest U h K):arun P Kp (⟨d,none,.fa off x⟩::rest) T h K:=Vw (G0 i.h) hk
def dg {P:Program}{rest:List AOper}{T U:List AV}{K:List AV->AH->Prop}{d:Option Nat}{x:Operand}{rs:List Nat}{h0 ents:AH}{off id v:Nat}[i:Lk T x (.ptr id v 0)][j:Pt T d (.ptr id v off) U](hk:adrun P rs h0 rest U ents K):adrun P rs h0 (⟨d,none,.fa off x⟩::rest) T ents K:=Dw (G0 i.h) hk
def dn {P:Program}{rest:List AOper}{T U:List AV}{K:List AV->AH->Prop}{d:Option Nat}{op:AOp}{rs:List Nat}{h0 ents:AH}{t:Nat}{b:Bool}[i:Gt T t (.v (.bool (!b)))][j:Pt T d (.v undef) U](hk:adrun P rs h0 rest U ents K):adrun P rs h0 (⟨d,some (t,b),op⟩::rest) T ents K:=d_no gt pt hk
def dO {P:Program}{rest:List AOper}{T:List AV}{K:List AV->AH->Prop}{d:Option Nat}{op:AOp}{rs:List Nat}{h0 ents:AH}{t:Nat}{b:Bool}[i:Gt T t (.v (.bool b))](hk:adrun P rs h0 (⟨d,none,op⟩::rest) T ents K):adrun P rs h0 (⟨d,some (t,b),op⟩::rest) T ents K:=d_do gt hk
def nb {n m:Nat}(h:Nat.ble n m=true:=by rfl):n<=m:=Nat.le_of_ble_eq_true h
def nh {p:Prop}(h:p:=by first | (simp [Ky];done) | (simp [Ky];omega) | (simp [Ky] <;> (try intros) <;> omega)):p:=h
def ro {p:Prop}(h:p:=by first | rfl | omega):p:=h
def tb':(∀ l,tA' l 0=[])/\(∀ x l m,tA' (x::l) (m+1)=x::tA' l m)/\(∀ m,tA' [] (m+1)=.any::tA' [] m)/\(AV.bdL []=True)/\(∀ c l,AV.bdL (c::l)=(AV.bd c/\AV.bdL l))/\(∀ p:Prop,(p/\True)=p)/\(∀ p:Prop,(True/\p)=p)/\(∀ n a b l,AV.bd (.sl n a b l)=(n<=9223372036854775807/\AV.bdL l))/\(∀ a b n,AV.bd (.own a b n)=(n<=9223372036854775807))/\(∀ l,AV.bd (.rp l)=AV.bdL l)/\(∀ l,AV.bd (.agg l)=AV.bdL l)/\(∀ l,AV.bd (.tup l)=AV.bdL l)/\(∀ f l,AV.bd (.clo f l)=AV.bdL l)/\(∀ v,AV.bd (.v v)=True)/\(AV.bd .any=True)/\(∀ a b c,AV.bd (.ptr a b c)=True):=⟨λl=>by cases l<;>rfl,λ_ _ _=>rfl,λ_=>rfl,by simp only [AV.bdL],λ_ _=>by simp only [AV.bdL],λ_=>and_true _,λ_=>true_and _,λ_ _ _ _=>by simp only [AV.bd],λ_ _ _=>by simp only [AV.bd],λ_=>by simp only [AV.bd],λ_=>by simp only [AV.bd],λ_=>by simp only [AV.bd],λ_ _=>by simp only [AV.bd],λ_=>by simp only [AV.bd],by simp only [AV.bd],λ_ _ _=>by simp only [AV.bd]⟩
def sm':(∀ T,Hp T []=T)/\(∀ T k c l,Hp T ((k,c)::l)=Hp (T.set k c) l)/\(∀ T,Jw T []=T)/\(∀ T k c l,Jw T ((k,c)::l)=Jw (T.set k c) l)/\(∀ (α:Type) (x b:α) l,(x::l).set 0 b=b::l)/\(∀ (α:Type) (x b:α) n l,(x::l).set (n+1) b=x::l.set n b)/\(∀ a,rn' a 0=[])/\(∀ a k,rn' a (k+1)=(a,.any)::rn' (a+1) k)/\(∀ (α:Type) (x:α) l m,(x::l)++m=x::(l++m))/\(∀ (α:Type) (m:List α),[]++m=m):=⟨λ_=>rfl,λ_ _ _ _=>rfl,λ_=>rfl,λ_ _ _ _=>rfl,λ_ _ _ _=>rfl,λ_ _ _ _ _=>rfl,λ_=>rfl,λ_ _=>rfl,λ_ _ _ _=>rfl,λ_ _=>rfl⟩
def zz {p q:Prop}(k:q)(h:q->p:=by intro k;(try dsimp only);(try simp only[sm',Nat.reduceAdd]);exact k):p:=h k
def zs {p q:Prop}(k:q)(h:q->p:=by intro k;(try simp only[sm',Nat.reduceAdd]);exact k):p:=h k
section
variable {P:Program}{n0:Nat}{b:AC}{Q:AX->List AV->AH->Prop}{Kp:AV->List AV->AH->Prop}{T U:List AV}{h:AH}{al:List AOper}{d:Option Nat}{c:AV}{x:Operand}
def wm [i:Lk T x c][j:Pt T d c U](hk:arun P (λc T h=>AX.thn (λT h=>∃ T1 h1,ALe n0 T h T1 h1/\aw P n0 b Q T1 h1) Q (.pan c) T h) al U h (λT h=>AX.thn (λT h=>∃ T1 h1,ALe n0 T h T1 h1/\aw P n0 b Q T1 h1) Q .normal T h)):aw P n0 (.seq (.reg (⟨d,none,.mv x⟩::al)) b) Q T h:=wr' (mw hk)
def ms [i:Lk T x c][j:Pt T d c U](hk:aw P n0 b Q U h):arun P Kp [⟨d,none,.mv x⟩] T h (λT h=>AX.thn (λT h=>∃ T1 h1,ALe n0 T h T1 h1/\aw P n0 b Q T1 h1) Q .normal T h):=mw (sn' hk)
def mr [i:Lk T x c][j:Pt T d c U](hk:Q .ret U h):arun P Kp [⟨d,none,.mv x⟩] T h (λT h=>AX.thn (λT h=>∃ T1 h1,ALe n0 T h T1 h1/\aw P n0 .ret Q T1 h1) Q .normal T h):=ms hk
def wk' [i:Lk T x c][j:Pt T d c U](hk:aw P n0 b Q U h):aw P n0 (.seq (.reg [⟨d,none,.mv x⟩]) b) Q T h:=wr' (ms hk)
def wo [i:Lk T x c][j:Pt T d c U](hk:Q .ret U h):aw P n0 (.seq (.reg [⟨d,none,.mv x⟩]) .ret) Q T h:=wr' (mr hk)
def sr (hk:Q .ret T h):arun P Kp [] T h (λT h=>AX.thn (λT h=>∃ T1 h1,ALe n0 T h T1 h1/\aw P n0 .ret Q T1 h1) Q .normal T h):=sn' hk
def za (hr:aw P n0 b Q T h):aw P n0 .skip (AX.thn (λT h=>∃ T1 h1,ALe n0 T h T1 h1/\aw P n0 b Q T1 h1) Q) T h:=Be (An hr)
end
abbrev Ac (f:FuncId) (a:List AV) (h:AH) (c:AV):Prop:=ACalls Go.Proofs.Tryz.prog f a h λx h' => h'=h/\x = .ret c
@[reducible] def t (n:Nat):Operand:=.tmp n
@[reducible] def nl:AV:=.sl 0 0 true []
@[reducible] def Bn (d:Nat) (o:BinOp) (x y:Nat):AOper:=⟨some d,none,.bin o (.tmp x) (.tmp y)⟩
@[reducible] def Bc (d:Nat) (o:BinOp) (x:Nat) (n:Int):AOper:=⟨some d,none,.bin o (.tmp x) (.const (.int .i64 n))⟩
@[reducible] def Pk (d c a b:Nat):AOper:=⟨some d,none,.pick (.tmp c) (.tmp a) (.tmp b)⟩
@[reducible] def Cl (d f:Nat) (l:List Operand):AOper:=⟨some d,none,.call (.func f) l⟩
@[reducible] def Mc (d:Nat) (n:Int):AOper:=⟨some d,none,.mv (.const (.int .i64 n))⟩
@[reducible] def Mb (d:Nat) (b:Bool):AOper:=⟨some d,none,.mv (.const (.bool b))⟩
@[reducible] def Ms (d:Nat):AOper:=⟨some d,none,.mv (.const (.string ⟨#[]⟩))⟩
@[reducible] def Sc (p x:Nat):AOper:=⟨none,none,.store 1 (.tmp p) (.tmp x)⟩
@[reducible] def mt (x:Nat):AOp:=.mv (.tmp x)
@[reducible] def Cd (x:Nat) (a b:AC):AC:=.cond (.tmp x) a b
@[reducible] def Sr (l:List AOper) (b:AC):AC:=.seq (.reg l) b
@[reducible] def Sd (l:List AOper) (b:AC):AC:=.seq (.drw l [] []) b
@[reducible] def Ex0 (x i:Nat) (b:AC):AC:=.seq (.cond (.tmp x) .skip (.exit i)) b
def Lf (τ:Operand->AV) (y:Operand) (l:List AV):Prop:=D8 (τ y)=some l/\l.all leaf=true
def cw {T:List AV}{x:Operand}{c:AV}{l:List AV}[i:Lk T x c](h:D8 c=some l:=by rfl)(g:l.all leaf=true:=by rfl):Lf (Ae T) x l:=⟨cvl i.h h,g⟩
def fl {τ:Operand->AV}{y:Operand}{l z o:List AV}{k n:Nat}{p:List (Nat×Nat×Operand)}(h:Lf τ y l)(g:Cm τ p (setCells z k l)=some o)(hn:(l.length=n/\k+n<=z.length):=by exact⟨rfl,nb⟩):Cm τ ((k,n,y)::p) z=some o:=by simp only[Cm,h.1,h.2,hn,and_self,if_true];exact g
inductive Hint where
 | e (S:List Nat) (s:Nat) (q:List Bool)
 | u (q:List (List Nat))
def cyc:Nat->List AV->List AV
 | 0,_=>[]
 | n+1,l=>l++cyc n l
def co (P:Program) (S:List Nat) (a:Array Oper) (o:Oper):Option AOper:=match D6 P S a o with
 | some ⟨d,g,.lit e s n _ q⟩=>(Jc P e).map λz=>⟨d,g,.lit e s n (cyc n z) q⟩
 | x=>x
def gen (P:Program):Code->List Hint->Option (AC×List Hint)
 | .skip,hs=>some (.skip,hs)
 | .region _ ops draw,hs=>match draw with
  | false=>(ops.toList.mapM (co P [] ops)).map λal=>(.reg al,hs)
  | true=>match hs with
   | .e S s q::hs=>(ops.toList.mapM (co P S ops)).map λal=>(.drw (al.take s) q (al.drop s),hs)
   | .u q::hs=>(ops.toList.mapM (co P [] ops)).map λal=>(.drwU q al,hs)
   | []=>none
 | .seq a b,hs=>(gen P a hs).bind λx=>(gen P b x.2).map λy=>(.seq x.1 y.1,y.2)
 | .cond c a b,hs=>(gen P a hs).bind λx=>(gen P b x.2).map λy=>(.cond c x.1 y.1,y.2)
 | .block id a,hs=>(gen P a hs).map λx=>(.block id x.1,x.2)
 | .loop a,hs=>(gen P a hs).map λx=>(.loop x.1,x.2)
 | .exit id,hs=>some (.exit id,hs)
 | .scope a,hs=>gen P a hs
 | .ret,hs=>some (.ret,hs)
 | _,_=>none
def genF (P:Program) (f:FuncId) (hs:List Hint):Option AF:=match P.funcs[f]? with
 | some fn=>match fn.body with
  | some c=>match gen P c hs,fn.results.toList.mapM (Lz P) with
   | some x,some rs=>some ⟨x.1,rs,fn.ntmps⟩
   | _,_=>none
  | none=>none
 | none=>none
def u8f {n:Nat}{h:n<2^8}:(⟨⟨⟨n,h⟩⟩⟩:UInt8)=UInt8.ofNat n:=by
 apply UInt8.toNat.inj;simp;omega
def Kx (f:FuncId) (hs:List Hint) {a:AF}(h:genF Go.Proofs.Tryz.prog f hs=some a:=by conv=>lhs;reduce;try simp only [Int.reduceOfNat,Int.reduceNegSucc,u8f,UInt8.reduceOfNat])(h2:Em Go.Proofs.Tryz.prog f=some a:=by kernel_rfl):Em Go.Proofs.Tryz.prog f=some a:=h2
end
section
section
variable {P : Program}
structure AFD where
 al:List AOper
 d:Nat
 k:Nat
 caps:List Operand
 af:AF
end
end
section
section
variable {P : Program}
abbrev dfo:Obj:=.deferred (some [])
abbrev mkD (D:Nat):Ent:=.raw D dfo [] []
def putA (w:World) (k j:Nat) (o:Obj) (h:j≠k):(w.putObj k o).heap[j]?=w.heap[j]?:=World.putObj_heap_other h
def raw_or {h:AH}{i:Nat}{e:Ent}{j k:Nat}{o:Obj}{T:List AV}{vs:List Value}(h1:(h.set i e)[j]?=some (.raw k o T vs)):(j=i/\e=.raw k o T vs)\/(j≠i/\h[j]?=some (.raw k o T vs)):=by
 by_cases hi:j=i
 .subst hi;by_cases hl:j<h.length
  .rw[List.getElem?_set_self hl] at h1;cases h1;exact .inl ⟨rfl,rfl⟩
  .rw[List.getElem?_eq_none (by simpa using hl)] at h1;cases h1
 .rw[List.getElem?_set_ne (Ne.symm hi)] at h1;exact .inr ⟨hi,h1⟩
def SimH.setRaw {w:World}{g:Gh}{h:AH}(hs:SimH w g h) {i k:Nat}{o o':Obj}{T:List AV}{vs:List Value}(hi:h[i]?=some (.raw k o T vs)) (ho:o'.isCells=false) (e:Ent) (he:e=.raw k o' T vs\/e=.gone) :
  SimH (w.putObj k o') g (h.set i e)/\Fr w (Ow g h) (w.putObj k o') /\ ∀ j,Ow g (h.set i e) j->Ow g h j:=by
 have hil:i<h.length:=(List.getElem?_eq_some_iff.1 hi).1;obtain⟨r1,r2,r3,r4⟩:=hs.raw _ _ _ _ _ hi;have hkl:k<w.heap.size:=(Array.getElem?_eq_some_iff.1 r1).1;have hget : ∀ {j v ty s:Nat} {c:List AV},(h.set i e)[j]?=some (.mk v ty s c)->j≠i/\h[j]?=some (.mk v ty s c):=by
  intro j v ty s c h1;by_cases hj:j=i
  .subst hj;rw[List.getElem?_set_self hil] at h1;rcases he with rfl | rfl <;> cases h1
  .rw[List.getElem?_set_ne (Ne.symm hj)] at h1;exact⟨hj,h1⟩
 have how : ∀ j b,OwAt g (h.set i e) j b->OwAt g h j b:=by
  rintro j b ⟨v,ty,s,c,a,cap,e1,e2⟩;exact⟨v,ty,s,c,a,cap,(hget e1).2,e2⟩
 have hrw : ∀ {j b:Nat} {x:Obj} {T':List AV} {vs':List Value},(h.set i e)[j]?=some (.raw b x T' vs')->(j=i/\b=k/\x=o'/\T'=T/\vs'=vs)\/(j≠i/\h[j]?=some (.raw b x T' vs')):=by
  intro j b x T' vs' h1;rcases raw_or h1 with ⟨h2,h3⟩ | h2
  .rcases he with rfl | rfl <;> cases h3;exact .inl ⟨h2,rfl,rfl,rfl,rfl⟩
  .exact .inr h2
 have hrw' : ∀ j b,RwAt (h.set i e) j b->RwAt h j b:=by
  rintro j b ⟨x,T',vs',h1⟩;rcases hrw h1 with ⟨rfl,rfl,_⟩ | ⟨_,h2⟩
  .exact⟨_,_,_,hi⟩
  .exact⟨_,_,_,h2⟩
 have hD : ∀ b,g.D b->(w.putObj k o').heap[b]?=w.heap[b]?:=λb hb=>putA _ _ _ _ (λe=>r3 (e ▸ hb));have hne : ∀ {j b:Nat},OwAt g h j b->b≠k:=λhb e=>hs.own_ne_raw hb (by subst e;exact⟨o,T,vs,hi⟩);refine⟨⟨?_,λa b c h1 h2=>hs.inj a b c (how _ _ h1) (how _ _ h2),λb hb=>by simpa using hs.lt b hb,λj v l hl=>?_,λj v l hl hf=>?_,hs.glob.mono (λ_ h=>h) hD,?_,λa b c h1 h2=>hs.rinj a b c (hrw' _ _ h1) (hrw' _ _ h2),hs.xw (by simp) rfl (λ_=>.inl) (λj hj=>.inl (hj.imp (λ⟨a,h1⟩=>⟨a,how _ _ h1⟩) (λ⟨a,h1⟩=>⟨a,hrw' _ _ h1⟩)))⟩,⟨rfl,rfl,rfl,by simp,λb _ hn=>putA _ _ _ _ (λe=>hn (.inr ⟨i,o,T,vs,by subst e;exact hi⟩))⟩,λj hj=>hj.imp (λ⟨a,h1⟩=>⟨a,how _ _ h1⟩) (λ⟨a,h1⟩=>⟨a,hrw' _ _ h1⟩)⟩
 .intro j v ty s c h1;obtain⟨hj,h2⟩:=hget h1;obtain⟨A,cap,e1,e2,e3⟩:=hs.ent _ _ _ _ _ h2;refine⟨A,cap,e1,e2,e3.mono (Gh.le.refl g) (λ_ _ _ h=>h) hD (λb hb h0=>?_)⟩;cases A with
  | none=>simp at hb
  | some a=>exact putA _ _ _ _ (hne (j:=j) ⟨v,ty,s,c,a,cap,h2,e1,h0,by simpa using hb⟩)
 .have:=hs.fresh j v l hl;exact⟨by simpa using this.1,λv' ty s c h1=>this.2 _ _ _ _ (hget h1).2⟩
 .by_cases hj:j=i
  .subst hj;rw[List.getElem?_set_self hil] at hf;rcases he with rfl | rfl <;> cases hf
  .rw[List.getElem?_set_ne (Ne.symm hj)] at hf;exact hs.free _ _ _ hl hf
 .intro j b x T' vs' h1;rcases hrw h1 with ⟨rfl,rfl,rfl,rfl,rfl⟩ | ⟨hj,h2⟩
  .exact⟨World.putObj_heap_same hkl,ho,r3,RepL.mono (Gh.le.refl g) hD _ _ r4⟩
  .obtain⟨q1,q2,q3,q4⟩:=hs.raw _ _ _ _ _ h2;exact⟨(putA _ _ _ _ (λe=>hj (hs.rinj j i b ⟨_,_,_,h2⟩ ⟨o,T,vs,by subst e;exact hi⟩))).trans q1,q2,q3,RepL.mono (Gh.le.refl g) hD _ _ q4⟩
def SimH.newRaw {w:World}{g:Gh}{h:AH}(hs:SimH w g h) {o:Obj}{T:List AV}{vs:List Value}(ho:o.isCells=false) (hr:RepL w g T vs) :
  SimH (w.alloc o) g (h++[.raw w.heap.size o T vs])/\Fr w (Ow g h) (w.alloc o) /\ ∀ j,Ow g (h++[.raw w.heap.size o T vs]) j->Ow g h j\/w.heap.size<=j:=by
 have hget : ∀ {j v ty s:Nat} {c:List AV},(h++[.raw w.heap.size o T vs])[j]?=some (.mk v ty s c)->h[j]?=some (.mk v ty s c):=by
  intro j v ty s c h1;by_cases hj:j<h.length
  .rwa [List.getElem?_append_left hj] at h1
  .rw[List.getElem?_append_right om] at h1;cases hk:j-h.length with
   | zero=>rw[hk] at h1;simp at h1
   | succ m=>rw[hk] at h1;simp at h1
 have hrw : ∀ {j b:Nat} {x:Obj} {T':List AV} {vs':List Value},(h++[.raw w.heap.size o T vs])[j]?=some (.raw b x T' vs')->(j=h.length/\b=w.heap.size/\x=o/\T'=T/\vs'=vs)\/h[j]?=some (.raw b x T' vs'):=by
  intro j b x T' vs' h1;by_cases hj:j<h.length
  .rw[List.getElem?_append_left hj] at h1;exact .inr h1
  .rw[List.getElem?_append_right om] at h1;cases hk:j-h.length with
   | zero=>rw[hk] at h1;simp at h1;obtain⟨rfl,rfl,rfl,rfl⟩:=h1;exact .inl ⟨by omega,rfl,rfl,rfl,rfl⟩
   | succ m=>rw[hk] at h1;simp at h1
 have how : ∀ j b,OwAt g (h++[.raw w.heap.size o T vs]) j b->OwAt g h j b:=by
  rintro j b ⟨v,ty,s,c,a,cap,e1,e2⟩;exact⟨v,ty,s,c,a,cap,hget e1,e2⟩
 have hold : ∀ b,b<w.heap.size->(w.alloc o).heap[b]?=w.heap[b]?:=λb hb=>X4 _ _ _ hb;have hD : ∀ b,g.D b->(w.alloc o).heap[b]?=w.heap[b]?:=λb hb=>hold b (hs.lt b hb);have hlt : ∀ {j b:Nat},RwAt h j b->b<w.heap.size:=λhb=>(hs.own_not_D (.inr ⟨_,hb⟩)).2;refine⟨⟨?_,λa b c h1 h2=>hs.inj a b c (how _ _ h1) (how _ _ h2),λb hb=>by have:=hs.lt b hb;simp;omega,λj v l hl=>?_,λj v l hl hf=>?_,hs.glob.mono (λ_ h=>h) hD,?_,?_,hs.xw (by simp) rfl (λ_=>.inl) ?_⟩,⟨rfl,rfl,rfl,by simp,λb hb _=>hold b hb⟩,?_⟩
 .intro j v ty s c h1;have h2:=hget h1;obtain⟨A,cap,e1,e2,e3⟩:=hs.ent _ _ _ _ _ h2;refine⟨A,cap,e1,e2,e3.mono (Gh.le.refl g) (λ_ _ _ h=>h) hD (λb hb h0=>?_)⟩;cases A with
  | none=>simp at hb
  | some a=>exact hold b (hs.own_not_D (.inl ⟨j,v,ty,s,c,a,cap,h2,e1,h0,by simpa using hb⟩)).2
 .have:=hs.fresh j v l hl;exact⟨by simp;omega,λv' ty s c h1=>this.2 _ _ _ _ (hget h1)⟩
 .have:=(hs.fresh j v l hl).1;rw[List.getElem?_append_left this] at hf;exact hs.free _ _ _ hl hf
 .intro j b x T' vs' h1;rcases hrw h1 with ⟨rfl,rfl,rfl,rfl,rfl⟩ | h2
  .exact⟨World.alloc_heap_new w _,ho,λhd=>Nat.lt_irrefl _ (hs.lt _ hd),RepL.mono (Gh.le.refl g) hD _ _ hr⟩
  .obtain⟨q1,q2,q3,q4⟩:=hs.raw _ _ _ _ _ h2;exact⟨(hold b (hlt ⟨_,_,_,h2⟩)).trans q1,q2,q3,RepL.mono (Gh.le.refl g) hD _ _ q4⟩
 .rintro a b c ⟨x1,x2,x3,h1⟩ ⟨y1,y2,y3,h2⟩;rcases hrw h1 with ⟨rfl,rfl,_⟩ | h1'
  .rcases hrw h2 with ⟨rfl,_⟩ | h2'
   .rfl
   .exact absurd (hlt ⟨_,_,_,h2'⟩) (Nat.lt_irrefl _)
  .rcases hrw h2 with ⟨rfl,rfl,_⟩ | h2'
   .exact absurd (hlt ⟨_,_,_,h1'⟩) (Nat.lt_irrefl _)
   .exact hs.rinj a b c ⟨_,_,_,h1'⟩ ⟨_,_,_,h2'⟩
 all_goals
  rintro b (⟨a,h1⟩ | ⟨a,x1,x2,x3,h1⟩)
  .exact .inl (.inl ⟨a,how _ _ h1⟩)
  .rcases hrw h1 with ⟨_,rfl,_⟩ | h2
   .exact .inr (Nat.le_refl _)
   .exact .inl (.inr ⟨a,_,_,_,h2⟩)
def St.start {w:World}{g:Gh}{h:AH}{T:List AV}{a:Act}(hs:SimH w g h) (ht:RepL w g T a.tmps.toList):St h.length w (Ow g h) ⟨g.D,g.loc,a.defers,g.X⟩ T h a w g :=
 ⟨ht,rfl,hs,Fr.refl _ _,⟨λ_ h=>h,λ_ _ _ h=>h,rfl⟩,λi v l hl=>(hs.fresh i v l hl).1,λk hk=>.inl hk⟩
structure LkY (w:World) (g:Gh) (h:AH) (w':World) (g':Gh) (h':AH):Prop where
 sim:SimH w' g' h'
 le:g.le g'
 fr:Fr w (Ow g h) w'
 ow : ∀ k,Ow g' h' k->Ow g h k\/w.heap.size<=k
def LkY.trans {a b c:World}{ga gb gc:Gh}{ha hb hc:AH}(h:LkY a ga ha b gb hb) (k:LkY b gb hb c gc hc):LkY a ga ha c gc hc:=by
 refine⟨k.sim,h.le.trans k.le,h.fr.trans k.fr ?_,?_⟩
 .intro i hi hlt;exact (h.ow i hi).resolve_right om
 .intro i hi;rcases k.ow i hi with ho | ho
  .exact h.ow i ho
  .exact .inr (Nat.le_trans h.fr.size ho)
def LkY.of_st {w w':World}{g g':Gh}{h h':AH}{n0:Nat}{df:List Deferred}{T:List AV}{a:Act}(st:St n0 w (Ow g h) ⟨g.D,g.loc,df,g.X⟩ T h' a w' g'):LkY w g h w' g' h':=⟨st.sim,⟨st.le.D,st.le.loc,st.le.X⟩,st.fr,st.ow⟩
def LkY.rep {w w':World}{g g':Gh}{h h':AH}(hs:SimH w g h) (k:LkY w g h w' g' h') {T:List AV}{vs:List Value}(ht:RepL w g T vs):RepL w' g' T vs :=
 RepL.mono k.le (λb hb=>k.fr.block b (hs.lt b hb) (λho=>(hs.own_not_D ho).1 hb)) _ _ ht
def LkY.setRaw {w:World}{g:Gh}{h:AH}(hs:SimH w g h) {i k:Nat}{o o':Obj}{T:List AV}{vs:List Value}(hi:h[i]?=some (.raw k o T vs)) (ho:o'.isCells=false) (e:Ent) (he:e=.raw k o' T vs\/e=.gone):LkY w g h (w.putObj k o') g (h.set i e):=by
 obtain⟨h1,h2,h3⟩:=hs.setRaw hi ho e he;exact⟨h1,Gh.le.refl g,h2,λk hk=>.inl (h3 k hk)⟩
def LkY.newRaw {w:World}{g:Gh}{h:AH}(hs:SimH w g h) {o:Obj}{T:List AV}{vs:List Value}(ho:o.isCells=false) (hr:RepL w g T vs):LkY w g h (w.alloc o) g (h++[.raw w.heap.size o T vs]):=by
 obtain⟨h1,h2,h3⟩:=hs.newRaw ho hr;exact⟨h1,Gh.le.refl g,h2,h3⟩
structure RgC where
 pre:List Code
 id:Nat
 g:Operand
 ps:Array Tmp
 asg:Code
 body:Code
 post:List Code
def iV:Code->List Code
 | .seq a b=>iV a++iV b
 | c=>[c]
def cL:List Code->Option RgC
 | []=>none
 | .block id (.rangeFunc g ps a b)::y=>some ⟨[],id,g,ps,a,b,y⟩
 | x::y=>(cL y).map λr=>{ r with pre:=x::r.pre }
def splitR (c:Code):Option RgC:=cL (iV c)
def wpL (F:Fence) (n:Nat) (P:Program):List Code->(Exit->Act->World->Prop)->Act->World->Prop
 | [],Q,a,w=>Q .normal a w
 | x::l,Q,a,w=>x.wpIn F n P (Exit.then (wpL F n P l Q) Q) a w
def We {F:Fence}{n:Nat} : ∀ {l:List Code}{Q Q':Exit->Act->World->Prop}{a:Act}{w:World},wpL F n P l Q a w->(∀ e a w,Q e a w->Q' e a w)->wpL F n P l Q' a w
 | [],Q,Q',a,w,hq,h=>h _ _ _ hq
 | x::l,Q,Q',a,w,hq,h=>by
  refine wpIn_mono hq ?_;intro e a w hq;cases e with
  | normal=>exact We hq h
  | _=>exact h _ _ _ hq
def Vo {F:Fence}{n:Nat} : ∀ (l m:List Code) {Q:Exit->Act->World->Prop}{a:Act}{w:World},wpL F n P (l++m) Q a w↔wpL F n P l (Exit.then (wpL F n P m Q) Q) a w
 | [],m,Q,a,w=>Iff.rfl
 | x::l,m,Q,a,w=>by
  constructor
  .intro hq;refine wpIn_mono hq ?_;intro e a w hq;cases e with
   | normal=>exact (Vo l m).1 hq
   | _=>exact hq
  .intro hq;refine wpIn_mono hq ?_;intro e a w hq;cases e with
   | normal=>exact (Vo l m).2 hq
   | _=>exact hq
def mH {F:Fence}{n:Nat}(c:Code) : ∀ {Q:Exit->Act->World->Prop}{a:Act}{w:World},wpL F n P (iV c) Q a w->c.wpIn F n P Q a w:=by
 fun_induction iV c with
 | case1 x y ihx ihy =>
  intro Q a w hq
  refine wpIn_seq (wpIn_mono (ihx ((Vo _ _).1 hq)) ?_)
  intro e a w hq
  cases e with
  | normal=>exact ihy hq
  | _=>exact hq
 | case2 c hc =>
  intro Q a w hq
  refine wpIn_mono (show c.wpIn F n P (Exit.then (wpL F n P [] Q) Q) a w from hq) ?_
  intro e a w hq
  cases e <;> exact hq
def rP : ∀ {l:List Code}{r:RgC},cL l=some r->l=r.pre++Code.block r.id (.rangeFunc r.g r.ps r.asg r.body)::r.post:=by
 intro l;fun_induction cL l with
 | case1=>intro r h;cases h
 | case2 id g ps x b y=>intro r h;cases h;rfl
 | case3 x y hx ih =>
  intro r h
  obtain⟨r',h1,rfl⟩:=Option.map_eq_some_iff.1 h
  rw[ih h1];rfl
def cK {F:Fence}{n:Nat}{Q:Exit->Act->World->Prop}(c:Code) {r:RgC}(hc:splitR c=some r) {a:Act}{w:World}
  (hw:wpL F n P r.pre (Exit.then ((Code.block r.id (.rangeFunc r.g r.ps r.asg r.body)).wpIn F n P (Exit.then (wpL F n P r.post Q) Q)) Q) a w):c.wpIn F n P Q a w:=by
 refine mH c ?_;rw[rP hc];exact (Vo _ _).2 hw
structure AFR where
 pre:List AC
 g:Operand
 ps:Array Tmp
 asg:AC
 body:AC
 post:AC
 res:List AR
 ntmps:Nat
def O5 (P:Program) (f:FuncId):Option AFR :=
 match P.funcs[f]? with
 | some fn=>if fn.name == "runtime.NumGoroutine" then none else match fn.body with
  | some c=>match splitR c with
   | some r=>match r.pre.mapM (comp P),comp P r.asg,comp P r.body,r.post.mapM (comp P),fn.results.toList.mapM (Lz P) with
    | some p,some a,some b,some q,some rs=>some ⟨p,r.g,r.ps,a,b,q.foldr .seq .skip,rs,fn.ntmps⟩
    | _,_,_,_,_=>none
   | none=>none
  | none=>none
 | none=>none
def Te {n0:Nat} : ∀ (l:List Code) (al:List AC),l.mapM (comp P)=some al -> ∀ {Q:AX->List AV->AH->Prop}{T:List AV}{h:AH},aw P n0 (al.foldr .seq .skip) Q T h ->
  ∀ w0 S0 g0 a w g,St n0 w0 S0 g0 T h a w g->wpL Fence.wide 0 P l (Vj n0 w0 S0 g0 Q) a w
 | [],al,hm,Q,T,h,hw,w0,S0,g0,a,w,g,st=>by
  simp at hm;subst hm;exact⟨.normal,T,h,g,st,trivial,hw⟩
 | x::l,al,hm,Q,T,h,hw,w0,S0,g0,a,w,g,st=>by
  simp only[List.mapM_cons,Option.bind_eq_bind,Option.bind_eq_some_iff,Option.pure_def,Option.some.injEq] at hm;obtain⟨ac,h1,al',h2,rfl⟩:=hm;refine wpIn_mono (@Fw P n0 rdN x ac h1 _ _ _ hw w0 S0 g0 a w g st) ?_;rintro e a' w' ⟨z,T',h',g',k1,k2,k3⟩;cases z <;> cases e <;> simp only[ExR] at k2 <;> simp only[Exit.then,AX.thn] at k3 ⊢
  case normal.normal =>
   obtain⟨T1,h1,hle,hq⟩:=k3
   obtain⟨g1,st1⟩:=hle w0 S0 g0 a' w' g' k1
   exact Te l al' h2 hq w0 S0 g0 a' w' g1 st1
  case exit.exit=>exact⟨_,T',h',g',k1,by simp only[ExR];exact k2,k3⟩
  case ret.ret=>exact⟨_,T',h',g',k1,by simp only[ExR],k3⟩
  case pan.panic=>exact⟨_,T',h',g',k1,by simp only[ExR];exact k2,k3⟩
def setPs (T:List AV) (ps:Array Tmp) (as1:List AV):List AV:=(ps.toList.zip as1).foldl (λT p=>T.set p.1 p.2) T
def Z3 {w:World}{g:Gh} : ∀ (ps:List Tmp) (as1:List AV) (args:List Value) (T:List AV) (tm:List Value),RepL w g T tm->RepL w g as1 args ->
  RepL w g ((ps.zip as1).foldl (λT p=>T.set p.1 p.2) T) ((ps.zip args).foldl (λT p=>T.set p.1 p.2) tm)
 | [],_,_,_,_,ht,_=>by simpa using ht
 | p::ps,[],args,T,tm,ht,ha=>by simp only[RepL] at ha;subst ha;simpa using ht
 | p::ps,c::as1,args,T,tm,ht,ha=>by
  simp only[RepL] at ha;obtain⟨u,us,rfl,h1,h2⟩:=ha;simp only[List.zip_cons_cons,List.foldl_cons];exact Z3 ps as1 us _ _ (ht.set h1) h2
def X8 : ∀ (l:List (Tmp×Value)) (tm:Array Value),(l.foldl (λt p=>t.setIfInBounds p.1 p.2) tm).toList=l.foldl (λT p=>T.set p.1 p.2) tm.toList
 | [],tm=>rfl
 | p::l,tm=>by simp only[List.foldl_cons];rw[X8 l];simp
def jW (i l:Nat) (rdy bsy fin:Obj) (T:List AV) (vs:List Value) (R2:AE->AH->Prop):AX->List AV->AH->Prop
 | .normal,_,h=>h[i]?=some (.raw l bsy T vs)/\R2 (.ret (.v (.bool true))) (h.set i (.raw l rdy T vs))
 | .ret,_,h=>h[i]?=some (.raw l bsy T vs)/\R2 (.ret (.v (.bool false))) (h.set i (.raw l fin T vs))
 | _,_,_=>False
def asgQ (P:Program) (fr:AFR) (i l:Nat) (rdy bsy fin:Obj) (T:List AV) (vs:List Value) (R2:AE->AH->Prop) (x:AX) (T1:List AV) (h2:AH):Prop :=
 x=.normal/\h2[i]?=some (.raw l rdy T vs) /\ ∀ n1,(h2.set i (.raw l bsy T vs)).length=n1->(∀ e∈h2.set i (.raw l bsy T vs),e.lt n1=true)->aw P n1 fr.body (jW i l rdy bsy fin T vs R2) T1 (h2.set i (.raw l bsy T vs))
def Tc (P:Program) (fr:AFR) (i l:Nat) (rdy bsy fin:Obj) (T:List AV) (vs:List Value):Prop :=
 ∀ (as1:List AV) (h:AH) (R2:AE->AH->Prop),as1.length=fr.ps.size->h[i]?=some (.raw l rdy T vs) ->
  (∀ n0,h.length=n0->(∀ e∈h,e.lt n0=true)->AV.ltL n0 as1=true->AV.bdL as1->AV.bdL T->aw P n0 fr.asg (asgQ P fr i l rdy bsy fin T vs R2) (setPs T fr.ps as1) h)->AYield P l as1 h R2
def Jz (rs:List AR) (N D:Nat) (R:AE->AH->Prop):AX->List AV->AH->Prop
 | .normal,T,h=>h[N]?=some (mkD D)/\match aRes rs T (h.set N .gone) with
  | some c=>R (.ret c) (h.set N .gone)
  | none=>False
 | .ret,T,h=>h[N]?=some (mkD D)/\match aRes rs T (h.set N .gone) with
  | some c=>R (.ret c) (h.set N .gone)
  | none=>False
 | _,_,_=>False
def rangeA (P:Program) (fr:AFR) (R:AE->AH->Prop) (T:List AV) (h:AH):Prop :=
  ∃ gf caps,Ae T fr.g=.clo (.func gf) caps /\ ∀ (l D:Nat) (rdy bsy fin:Obj) (vs:List Value),(∀ e∈h,e.lt h.length=true)->AV.ltL h.length T=true->Tc P fr (h.length+1) l rdy bsy fin T vs ->
    ACalls P gf (.v (.func (.yield l) #[] #[])::caps) (h++[mkD D,.raw l rdy T vs]) λr h3=>(∃ c,r=.ret c) /\
      ((h3[h.length+1]?=some (.raw l rdy T vs) /\ ∀ n0,(h3.set (h.length+1) .gone).length=n0->(∀ e∈h3.set (h.length+1) .gone,e.lt n0=true)->aw P n0 fr.post (Jz fr.res h.length D R) T (h3.set (h.length+1) .gone)) \/
       (h3[h.length+1]?=some (.raw l fin T vs)/\Jz fr.res h.length D R .ret T (h3.set (h.length+1) .gone)))
def preQ (P:Program) (fr:AFR) (n0:Nat) (R:AE->AH->Prop):AX->List AV->AH->Prop
 | .normal,T,h => ∃ T1 h1,ALe n0 T h T1 h1/\rangeA P fr R T1 h1
 | .ret,T,h=>match aRes fr.res T h with
  | some c=>R (.ret c) h
  | none=>False
 | _,_,_=>False
def yrule {fr:AFR}{asg body:Code}(ha:comp P asg=some fr.asg) (hb:comp P body=some fr.body) {i D l:Nat}{T:List AV}{tm:Array Value}{rec:LoopState->Option Code->Loop}{fn:FuncId}
    (hrec:rec=λst pe=>{ state:=st,pending:=pe,fn:=fn,tmps:=tm,params:=fr.ps,assign:=asg,body:=body,defers:=D }) :
    Tc P fr i l (.loop (rec .ready none)) (.loop (rec .busy none)) (.loop (rec .done (some .ret))) T tm.toList:=by
  intro as1 h R2 hsz hi hw w g vs hs hr;obtain⟨q1,q2,q3,q4⟩:=hs.raw _ _ _ _ _ hi;have hvs:vs.size=fr.ps.size:=by have:=hr.length;simp only[Array.length_toList] at this;omega
  have hy:=run_yield (P:=P) (args:=vs) q1 (by rw[hrec];exact hvs);rw[hrec] at hy;refine⟨fn,_,asg,body,hy,roundIn_of_wpIn trivial ?_⟩;have ht:RepL w g (setPs T fr.ps as1) ((fr.ps.zip vs).foldl (λt p=>t.setIfInBounds p.1 p.2) tm).toList:=by
    have:=Z3 fr.ps.toList as1 vs.toList T tm.toList q4 hr;rw[<-Array.foldl_toList,X8,Array.toList_zip];exact this
  letI:Rd:=rdS l;refine wpIn_mono (Fw asg fr.asg ha (hw _ rfl hs.ltE (RepL.lt (λi v l hl=>(hs.fresh i v l hl).1) _ _ hr) (RepL.bd _ _ hr) (RepL.bd _ _ q4)) w _ _ _ w g (St.start (a:={ tmps:=(fr.ps.zip vs).foldl (λt p=>t.setIfInBounds p.1 p.2) tm,defers:=[] }) hs ht)) ?_;rintro e a1 w1 ⟨x1,T1,h2,g1,st1,hx1,rfl,hi2,hw1⟩;cases e <;> simp only[ExR] at hx1;simp only[Exit.then];have k1:=LkY.of_st st1;obtain⟨r1,_,_,_⟩:=k1.sim.raw _ _ _ _ _ hi2;refine⟨_,run_beginRound r1 (by rw[hrec]),?_⟩;have e0:({ rec .ready none with state:=.busy }:Loop)=rec .busy none:=by rw[hrec]
  rw[e0];have k2:=LkY.setRaw k1.sim hi2 (o':=.loop (rec .busy none)) rfl (.raw l (.loop (rec .busy none)) T tm.toList) (.inl rfl);have st2:=St.start (a:=a1) k2.sim (k2.rep k1.sim st1.tmps);refine wpIn_mono (Fw body fr.body hb (hw1 _ rfl k2.sim.ltE) _ _ _ _ _ g1 st2) ?_;rintro e a2 w2 ⟨x2,T2,h3,g2,st3,hx2,hq⟩;have k3:=(k1.trans k2).trans (LkY.of_st st3)
  have fin : ∀ (jump : Option Code) (b : Bool), h3[i]? = some (.raw l (.loop (rec .busy none)) T tm.toList) -> b = jump.isNone ->
      R2 (.ret (.v (.bool b))) (h3.set i (.raw l (.loop (rec (if jump.isNone then .ready else .done) jump)) T tm.toList)) ->
      ∃ v w',(Instr.endRound l jump).run P w2=.ok v w' /\ ∃ x h' g',EndR w' g' (.returned v) x/\SimH w' g' h'/\g.le g'/\Fr w (Ow g h) w'/\(∀ k,Ow g' h' k->Ow g h k\/w.heap.size<=k)/\R2 x h':=by
    rintro jump b hi3 rfl hR;obtain⟨p1,_,_,_⟩:=k3.sim.raw _ _ _ _ _ hi3;refine⟨_,_,run_endRound jump p1,?_⟩;have e1:({ rec .busy none with state:=if jump.isNone then .ready else .done,pending:=jump }:Loop)=rec (if jump.isNone then .ready else .done) jump:=by rw[hrec]
    rw[e1];have k4:=LkY.setRaw k3.sim hi3 (o':=.loop (rec (if jump.isNone then .ready else .done) jump)) rfl (.raw l (.loop (rec (if jump.isNone then .ready else .done) jump)) T tm.toList) (.inl rfl);have k5:=k3.trans k4;exact⟨.ret (.v (.bool jump.isNone)),_,g2,by simp only[EndR,Rep],k5.sim,k5.le,k5.fr,k5.ow,hR⟩
  cases x2 <;> cases e <;> simp only[ExR] at hx2 <;> simp only[jW] at hq <;> try (exact hq.elim)
  . exact fin none true hq.1 rfl hq.2
  . exact fin (some .ret) false hq.1 rfl hq.2
def U9 {f:FuncId}(he:enters P f=true) (args:Array Value) (w:World):(callFunc f args).run P w=.ok (.enter f args) w:=by
 unfold enters at he;split at he <;> try (cases he;done)
 rename_i fd hfd;simp only[Bool.and_eq_true,bne_iff_ne,ne_eq] at he;have hb:fd.body≠none:=by intro e;simp[e] at he
 simp[callFunc,hfd,he.1,hb]
def ACalls.of_range {f:FuncId}{fr:AFR}(hc:O5 P f=some fr) {args:List AV}{h:AH}{R:AE->AH->Prop}(hw:aw P h.length (fr.pre.foldr .seq .skip) (preQ P fr h.length R) (args++List.replicate (fr.ntmps-args.length) .any) h):ACalls P f args h R:=by
  unfold O5 at hc;split at hc <;> try (cases hc;done)
  rename_i fn hfn;split at hc <;> try (cases hc;done)
  rename_i hname;split at hc <;> try (cases hc;done)
  rename_i c hb;split at hc <;> try (cases hc;done)
  rename_i rg hrg;split at hc <;> try (cases hc;done)
  rename_i ap aa ab aq rs hap haa hab haq hrs;cases hc;simp only at hw;refine⟨?_,λw g vs hs ha=>(callsIn_wide (n:=0)).1 (callsIn_of_wp_marks hfn hb trivial (cK c hrg ?_) rfl)⟩
  . simp only[enters,hfn,hb];simp only[Bool.not_eq_true] at hname;simp[bne,hname]
  have hlen:vs.size=args.length:=by simpa using ha.length
  have ht:RepL w g (args++List.replicate (fn.ntmps-args.length) .any) (vs++Array.replicate (fn.ntmps-vs.size) undef).toList:=by
    simp only[Array.toList_append,Array.toList_replicate,hlen];refine ha.append ?_;have:=Kw w g (List.replicate (fn.ntmps-args.length) undef);simpa using this
  have fin : ∀ {w1 : World} {g1 : Gh} {h1 : AH} {T1 : List AV} {a1 : Act} {c : AV}, LkY w g h w1 g1 h1 -> RepL w1 g1 T1 a1.tmps.toList -> aRes rs T1 h1 = some c -> R (.ret c) h1 ->
      LeavesInM Fence.wide 0 P fn a1.tmps (λe w' => ∃ x h' g',EndR w' g' e x/\SimH w' g' h'/\g.le g'/\Fr w (Ow g h) w'/\(∀ k,Ow g' h' k->Ow g h k\/w.heap.size<=k)/\R x h') [] .returning w1:=by
    intro w1 g1 h1 T1 a1 c k1 ht1 hres hR;obtain⟨v,r1,r2⟩:=Ii hrs hres k1.sim ht1;exact⟨v,by simpa using r1,.ret c,h1,g1,r2,k1.sim,k1.le,k1.fr,k1.ow,hR⟩
  have hpre:=Te rg.pre ap hap hw w _ _ _ w g (St.start (a:={ tmps:=vs++Array.replicate (fn.ntmps-vs.size) undef,defers:=[] }) hs ht);refine We hpre ?_;rintro e1 a1 w1 ⟨x1,T1,h1,g1,st1,hx1,hq1⟩;have hdf:a1.defers=[]:=st1.defers;cases x1 <;> cases e1 <;> simp only[ExR] at hx1 <;> simp only[preQ] at hq1 <;> try (exact hq1.elim)
  rotate_left 1
  . split at hq1 <;> try (exact hq1.elim)
    rename_i c0 hc0;show LeavesInM Fence.wide 0 P fn a1.tmps _ a1.defers .returning w1;rw[hdf];exact fin (LkY.of_st st1) st1.tmps hc0 hq1
  obtain⟨T1',h1',hle1,gf,caps,hgf,hit⟩:=hq1;obtain⟨g1',st1⟩:=hle1 _ _ _ _ _ _ st1;have k1:=LkY.of_st st1;simp only[Exit.then];refine wpIn_block (wpIn_rangeFunc ?_);intro fn1 _;show ∃ (l:Nat) (mark:List Deferred) (w₁:World) (d:Deferred) (w₁':World) (f:FuncId) (args:Array Value) (w₂:World),(Instr.enterLoop fn1 a1.tmps rg.ps rg.asg rg.body none).run P w1=_/\_;obtain⟨rec,hrec⟩ : ∃ rec:LoopState->Option Code->Loop,rec=λst pe=>{ state:=st,pending:=pe,fn:=fn1,tmps:=a1.tmps,params:=rg.ps,assign:=rg.asg,body:=rg.body,defers:=w1.heap.size }:=⟨_,rfl⟩;have k2:=LkY.newRaw k1.sim (o:=dfo) (T:=[]) (vs:=[]) rfl (by simp only[RepL]);have k3:=LkY.newRaw k2.sim (o:=.loop (rec .ready none)) (T:=T1') (vs:=a1.tmps.toList) rfl (k2.rep k1.sim st1.tmps);rw[World.size_alloc,List.append_assoc,List.cons_append,List.nil_append] at k3;have k123:=(k1.trans k2).trans k3;have hcallee:=Fp st1.tmps rg.g;rw[hgf] at hcallee;simp only[Rep] at hcallee;obtain⟨cv,hcv,hcr⟩:=hcallee;have hy:=yrule (P:=P) (fr:=⟨ap,rg.g,rg.ps,aa,ab,aq.foldr .seq .skip,rs,fn.ntmps⟩) haa hab (i:=h1'.length+1) (D:=w1.heap.size) (l:=w1.heap.size+1) (T:=T1') hrec;obtain⟨heng,hcall⟩:=hit (w1.heap.size+1) w1.heap.size _ _ _ a1.tmps.toList st1.sim.ltE (RepL.lt (λi v l hl=>(st1.sim.fresh i v l hl).1) _ _ st1.tmps) hy
  refine⟨w1.heap.size+1,[{ target:=.collected w1.heap.size,args := #[] }],(w1.alloc dfo).alloc (.loop (rec .ready none)),{ target:=.fn (.func gf) cv,args := #[.func (.yield (w1.heap.size+1)) #[] #[]] },(w1.alloc dfo).alloc (.loop (rec .ready none)),gf,
    #[.func (.yield (w1.heap.size+1)) #[] #[]]++cv,(w1.alloc dfo).alloc (.loop (rec .ready none)),(by rw[hrec];exact run_enterLoop_outer _ _ _ _ _),?_,λ_ _=>trivial,?_,λh=>by simp[Fence.wide] at h,?_⟩
  . simp only[resolve,hcv];simp[go_sem]
  . simp[invoke,go_sem,U9 heng]
  refine callsIn_wide.2 ((hcall _ g1' _ k123.sim (by
    rw[Array.toList_append];have hcr':=(k2.trans k3).rep k1.sim hcr;simp only[List.cons_append,List.nil_append,RepL];exact⟨_,_,rfl,by simp only[Rep],hcr'⟩)).mono ?_)
  rintro e3 w3 ⟨x3,h3,g3,hx3,hs3,hle3,hfr3,how3,⟨c3,rfl⟩,hcase⟩;cases e3 <;> simp only[EndR] at hx3;have k4:LkY w g h w3 g3 h3:=k123.trans ⟨hs3,hle3,hfr3,how3⟩;have ht3:RepL w3 g3 T1' a1.tmps.toList:=(LkY.mk hs3 hle3 hfr3 how3).rep k123.sim ((k2.trans k3).rep k1.sim st1.tmps)
  -- the end, with the mark taken up
  have fin2 : ∀ {w5 : World} {g5 : Gh} {h5 : AH} {T5 : List AV} {a5 : Act}, LkY w g h w5 g5 h5 -> RepL w5 g5 T5 a5.tmps.toList -> a5.defers = [{ target := .collected w1.heap.size, args := #[] }] -> Jz rs h1'.length w1.heap.size R .ret T5 h5 ->
      LeavesInM Fence.wide 0 P fn a5.tmps (λe w' => ∃ x h' g',EndR w' g' e x/\SimH w' g' h'/\g.le g'/\Fr w (Ow g h) w'/\(∀ k,Ow g' h' k->Ow g h k\/w.heap.size<=k)/\R x h') a5.defers .returning w5:=by
    rintro w5 g5 h5 T5 a5 k5 ht5 hd5 ⟨hi5,hR5⟩;split at hR5 <;> try (exact hR5.elim)
    rename_i c5 hres;rw[hd5];obtain⟨p1,_,_,_⟩:=k5.sim.raw _ _ _ _ _ hi5;have k6:=LkY.setRaw k5.sim hi5 (o':=.deferred none) rfl .gone (.inr rfl);have ht6:=k6.rep k5.sim ht5;refine⟨by simp,.inl ⟨_,_,rfl,run_takeDeferred p1,?_⟩⟩;exact fin (k5.trans k6) ht6 hres hR5
  have drop : ∀ (o : Obj) (st : LoopState) (jump : Option Code), o = .loop (rec st jump) -> h3[h1'.length + 1]? = some (.raw (w1.heap.size + 1) o T1' a1.tmps.toList) -> st ≠ .busy ->
      ∃ w4,(Instr.endLoop (w1.heap.size+1)).run P w3=.ok jump w4/\LkY w g h w4 g3 (h3.set (h1'.length+1) .gone)/\RepL w4 g3 T1' a1.tmps.toList:=by
    rintro o st jump rfl hi3 hst;obtain⟨p1,_,_,_⟩:=hs3.raw _ _ _ _ _ hi3;have k5:=LkY.setRaw hs3 hi3 (o':=.loop { rec st jump with state:=.exhausted }) rfl .gone (.inr rfl);have ht5:=k5.rep hs3 ht3;refine⟨_,?_,k4.trans k5,ht5⟩;have:=run_endLoop (P:=P) p1 (by rw[hrec];exact hst);rw[this];rw[hrec]
  rcases hcase with ⟨hi3,hpost⟩ | ⟨hi3,hpost⟩
  . obtain⟨w4,r4,k5,ht5⟩:=drop _ .ready none rfl hi3 (by simp);refine⟨none,w4,r4,?_⟩;show wpL Fence.wide 0 P rg.post _ _ w4;have st5:=St.start (a:={ a1 with defers:=[{ target:=.collected w1.heap.size,args := #[] }]++a1.defers }) k5.sim ht5;refine We (Te rg.post aq haq (hpost _ rfl k5.sim.ltE) _ _ _ _ _ g3 st5) ?_;rintro e6 a6 w6 ⟨x6,T6,h6,g6,st6,hx6,hq6⟩;have k6:=k5.trans (LkY.of_st st6);have hd6:a6.defers=[{ target:=.collected w1.heap.size,args := #[] }]:=by rw[st6.defers];simp[hdf]
    cases x6 <;> cases e6 <;> simp only[ExR] at hx6 <;> simp only[Jz] at hq6 <;> try (exact hq6.elim)
    . exact fin2 k6 st6.tmps hd6 hq6
    . exact fin2 k6 st6.tmps hd6 hq6
  . obtain⟨w4,r4,k5,ht5⟩:=drop _ .done (some .ret) rfl hi3 (by simp);refine⟨some .ret,w4,r4,wpIn_ret ?_⟩;exact fin2 (a5:={ a1 with defers:=[{ target:=.collected w1.heap.size,args := #[] }]++a1.defers }) k5 ht5 (by simp[hdf]) hpost
end
section
variable {P : Program} {Kp : AV -> List AV -> AH -> Prop} {K : List AV -> AH -> Prop} {T T' : List AV} {h h' : AH} {d : Option Nat} {c : AV} {rest : List AOper}
def Ua {f:FuncId}{fr:AFR}(hc:O5 P f=some fr):enters P f=true:=by
 unfold O5 at hc;split at hc <;> try (cases hc;done)
 rename_i fn hfn;split at hc <;> try (cases hc;done)
 rename_i hname;split at hc <;> try (cases hc;done)
 rename_i c hb;simp only[enters,hfn,hb];simp only[Bool.not_eq_true] at hname;simp[bne,hname]
def tR' {f:FuncId}{fr:AFR}{args:List AV}{R:AE->Prop}(hc:O5 P f=some fr) (hw : ∀ n,h.length=n->(∀ e∈h,e.lt n=true)->AV.ltL n args=true->AV.bdL args->aw P n (fr.pre.foldr .seq .skip) (preQ P fr n λx h' => ∃ z,h'=h++z/\x.lt n=true/\R x) (tA' args fr.ntmps) (h++[]))
  (hl:Nat.ble args.length fr.ntmps=true:=by rfl):ACalls P f args h λx h'=>h'=h/\R x:=by
 refine ACalls.gc_same ⟨Ua hc,λw g vs hs ha=>(ACalls.of_range hc ?_).2 w g vs hs ha⟩;have:=hw h.length rfl hs.ltE (RepL.lt (λi v l hl=>(hs.fresh i v l hl).1) _ _ ha) (RepL.bd _ _ ha);rw[List.append_nil] at this;rw[Ob _ _ (Nat.le_of_ble_eq_true hl)];exact this
def lO {fr:AFR}{n0 gf l0:Nat}{R:AE->AH->Prop}{T1 caps:List AV}{h1:AH}(hl:ALe n0 T h T1 h1) (hg:Ae T1 fr.g=.clo (.func gf) caps) (hn:h1.length=l0)
    (hi : ∀ (l D:Nat) (rdy bsy fin:Obj) (vs:List Value),(∀ e∈h1,e.lt l0=true)->AV.ltL l0 T1=true->Tc P fr (l0+1) l rdy bsy fin T1 vs ->
      ACalls P gf (.v (.func (.yield l) #[] #[])::caps) (h1++[mkD D,.raw l rdy T1 vs]) λr h3=>(∃ c,r=.ret c) /\
      ((h3[l0+1]?=some (.raw l rdy T1 vs) /\ ∀ n0,(h3.set (l0+1) .gone).length=n0->(∀ e∈h3.set (l0+1) .gone,e.lt n0=true)->aw P n0 fr.post (Jz fr.res l0 D R) T1 (h3.set (l0+1) .gone)) \/
       (h3[l0+1]?=some (.raw l fin T1 vs)/\Jz fr.res l0 D R .ret T1 (h3.set (l0+1) .gone)))):preQ P fr n0 R .normal T h:=by
  subst hn;exact⟨T1,h1,hl,gf,caps,hg,hi⟩
def oL {l:Nat}{x:Operand}{xs:List Operand}{as1:List AV}(hf:Ae T x=.v (.func (.yield l) #[] #[])) (hx:xs.map (Ae T)=as1) (hc:AYield P l as1 h λr h''=>r=.ret c/\h''=h') (hp:aPut T d c=T') (hk:arun P Kp rest T' h' K):arun P Kp (⟨d,none,.call x xs⟩::rest) T h K:=by
 subst hp hx;refine⟨λ_=>?_,λh=>by cases h⟩;simp only[astep,hf,Hy];refine⟨trivial,trivial,λw g vs hs ha=>?_⟩;obtain⟨f,t,a,b,h1,h2⟩:=hc w g vs hs ha;refine⟨f,t,a,b,h1,h2.mono ?_⟩;rintro e w' ⟨x,h',g',k1,k2,k3,k4,k5,rfl,rfl⟩;exact⟨_,_,g',k1,k2,k3,k4,k5,hk⟩
def AYield.mono {l:Nat}{as1:List AV}{R R':AE->AH->Prop}(hc:AYield P l as1 h R) (hr : ∀ r h,R r h->R' r h):AYield P l as1 h R':=λw g vs hs ha=>by
 obtain⟨f,t,a,b,h1,h2⟩:=hc w g vs hs ha;exact⟨f,t,a,b,h1,h2.mono λ_ _ ⟨x,h',g',h1,h2,h3,h4,h5,h6⟩=>⟨x,h',g',h1,h2,h3,h4,h5,hr _ _ h6⟩⟩
def R5 {fr:AFR}{n0:Nat}{R:AE->AH->Prop}(hr:aRes fr.res T h=some c) (hR:R (.ret c) h):preQ P fr n0 R .ret T h:=by simp only[preQ,hr];exact hR
def Jy {rs:List AR}{k D:Nat}{R:AE->AH->Prop}(h1:h[k]?=some (mkD D)) (h2:h.set k .gone=h') (hr:aRes rs T h'=some c) (hR:R (.ret c) h'):Jz rs k D R .ret T h:=by subst h2;simp only[Jz,hr];exact⟨h1,hR⟩
def YieldAt.gc {l:Nat}{as1:List AV}{R:AE->AH->Prop}(hc:AYield P l as1 h λx h' => ∃ y z,h'=y++z/\y.length=h.length/\(∀ e∈y,e.lt h.length=true)/\x.lt h.length=true/\R x y):AYield P l as1 h R:=λw g vs hs ha=>by
 obtain⟨f,t,a,b,q1,q2⟩:=hc w g vs hs ha;refine⟨f,t,a,b,q1,q2.mono ?_⟩;rintro e w' ⟨x,h',g',h1,h2,h3,h4,h5,y,z,rfl,hl,hlt,hx,hR⟩;have hcut:=h2.cut (by rw[hl];exact hlt);refine⟨x,y,g'.cut y.length,?_,hcut,h3.cut (λi v l hi=>by rw[hl];exact (hs.fresh _ _ _ hi).1),h4,λk hk=>h5 k hk.of_cut,hR⟩;rw[hl];cases x <;> cases e <;> simp only[EndR] at h1 ⊢
 .exact Rep.cut _ _ hx h1
 .obtain⟨v,e1,e2⟩:=h1;exact⟨v,e1,Rep.cut _ _ hx e2⟩
def y_go {fr:AFR}{i l:Nat}{rdy bsy fin:Obj}{T:List AV}{vs:List Value}(hY:Tc P fr i l rdy bsy fin T vs) {as1:List AV}(hi:h[i]?=some (.raw l rdy T vs)) (hsz:as1.length=fr.ps.size)
  (hw : ∀ n0,h.length=n0->(∀ e∈h,e.lt n0=true)->AV.ltL n0 as1=true->AV.bdL as1->AV.bdL T->aw P n0 fr.asg (asgQ P fr i l rdy bsy fin T vs λx h2 => ∃ y z,h2=y++z/\y.length=n0/\(∀ e∈y,e.lt n0=true)/\x.lt n0=true/\x=.ret c/\y=h') (setPs T fr.ps as1) h) :
  AYield P l as1 h λr h''=>r=.ret c/\h''=h' :=
 YieldAt.gc (hY as1 h _ hsz hi λn0 hn hlt q1 q2 q3=>by subst hn;exact hw _ rfl hlt q1 q2 q3)
def nD {fr:AFR}{i l:Nat}{rdy bsy fin:Obj}{vs:List Value}{R2:AE->AH->Prop}{T0:List AV}(hi:h[i]?=some (.raw l rdy T0 vs)) (hs:h.set i (.raw l bsy T0 vs)=h') (hw : ∀ n1,h'.length=n1->(∀ e∈h',e.lt n1=true)->aw P n1 fr.body (jW i l rdy bsy fin T0 vs R2) T h'):asgQ P fr i l rdy bsy fin T0 vs R2 .normal T h:=by
 subst hs;exact⟨rfl,hi,hw⟩
def Ta {i l:Nat}{rdy bsy fin:Obj}{vs:List Value}{R2:AE->AH->Prop}{T0:List AV}(hi:h[i]?=some (.raw l bsy T0 vs)) (hs:h.set i (.raw l rdy T0 vs)=h') (hR:R2 (.ret (.v (.bool true))) h'):jW i l rdy bsy fin T0 vs R2 .normal T h:=by
 subst hs;exact⟨hi,hR⟩
def jV {i l:Nat}{rdy bsy fin:Obj}{vs:List Value}{R2:AE->AH->Prop}{T0:List AV}(hi:h[i]?=some (.raw l bsy T0 vs)) (hs:h.set i (.raw l fin T0 vs)=h') (hR:R2 (.ret (.v (.bool false))) h'):jW i l rdy bsy fin T0 vs R2 .ret T h:=by
 subst hs;exact⟨hi,hR⟩
def AYield.args {l:Nat}{as1 as2:List AV}{R:AE->AH->Prop}(hc:AYield P l as1 h R) (e:as2=as1):AYield P l as2 h R:=e ▸ hc
def k_callY {m:Bool}{q:List Bool}{rs:List Nat}{l:Nat}{x:Operand}{xs:List Operand}{as1:List AV}(hf:Ae T x=.v (.func (.yield l) #[] #[])) (hx:xs.map (Ae T)=as1) (hc:AYield P l as1 h λr h''=>r=.ret c/\h''=h') (hr : ∀ id∈(bif m then rs else []),h'[id]?=h[id]?) (hp:aPut T d c=T') (hk:En P rs q rest T' h' K):En P rs (m::q) (⟨d,none,.call x xs⟩::rest) T h K:=by
 subst hp hx;refine⟨λ_=>?_,λh=>by cases h⟩;refine⟨c,h',?_,hr,hk⟩;simp only[hf,Hy];exact⟨trivial,trivial,hc.mono λr h2 hr=>⟨hr.2,hr.1⟩⟩
def s_callE {ι:Type}{H:ι->AH}{J:ι->Prop}{f:FuncId}{xs:List Operand}{as1:List AV}(hx:xs.map (Ae T)=as1) (hc:ACalls P f as1 h λr h''=>r=.ret c /\ ∃ i,J i/\h''=H i) (hp:aPut T d c=T') (hk : ∀ i,J i->arun P Kp rest T' (H i) K):arun P Kp (⟨d,none,.call (.func f) xs⟩::rest) T h K:=by
 subst hp;refine Tk hx hc ?_;rintro r h'' ⟨rfl,i,h1,rfl⟩;exact hk i h1
def H8 {off id v a b:Nat}{x:Operand}(hx:Ae T x=.ptr id v (a+b)):aval h (Ae T) (.fa off x)=some (.ptr id v (a+(b+off))):=by rw[<-Nat.add_assoc];exact Df hx
def E7 {α:Type}{f:α->List AV}{sz k off id v ty s:Nat}{l:List α}{x:Operand}(hx:Ae T x=.ptr id v (k*sz+off)) (he:h[id]?=some (.mk v ty s (rows f l))) (hf : ∀ x,(f x).length=sz) (hk:k<l.length) (ho:off<sz) (hc:(f l[k])[off]?=some c):aval h (Ae T) (.load false 1 x)=some c:=by
 refine Aa hx he ?_;rw[<-Lp hf hk,List.getElem?_take_of_lt ho,List.getElem?_drop] at hc;exact hc
def nR {α:Type}{f:α->List AV}{sz k off id v ty s m:Nat}{l:List α}{x:Operand}{cs:List AV}(hx:Ae T x=.ptr id v (k*sz+off)) (he:h[id]?=some (.mk v ty s (rows f l))) (hf : ∀ x,(f x).length=sz) (hk:k<l.length) (ho:off+m<=sz) (hc:((f l[k]).drop off).take m=cs) (hl:cs.length=m):aval h (Ae T) (.load true m x)=some (.agg cs):=by
 refine Ak hx he ?_ hl;rw[<-Lp hf hk,List.drop_take,List.take_take,List.drop_drop,Nat.min_eq_left om] at hc;exact hc
end
end
section
section
variable {P : Program} {n0 : Nat}
def badC:AC:=.cond (.const (.int .i64 0)) .skip .skip
def O8 [Rd] {Q:AX->List AV->AH->Prop}{T:List AV}{h:AH}(hw:aw P n0 badC Q T h):False:=by
 unfold badC at hw;unfold aw at hw;exact hw
def selB:Option (List Nat)->Nat->Bool
 | none,_=>true
 | some l,n=>l.contains n
def M3 (P:Program) (ns:Option (List Nat)):Code->Option AC
 | .skip=>some .skip
 | .region _ ops draw=>match ops.toList.mapM (D6 P [] ops) with
  | some al=>if draw=false then some (.reg al) else some ((bif selB ns ops.size then Q9 P ops else Oz P ops al).getD badC)
  | none=>some badC
 | .seq a b=>match M3 P ns a,M3 P ns b with
  | some x,some y=>some (.seq x y)
  | _,_=>none
 | .cond c a b=>match M3 P ns a,M3 P ns b with
  | some x,some y=>some (.cond c x y)
  | _,_=>none
 | .block id a=>(M3 P ns a).map (.block id)
 | .loop a=>(M3 P ns a).map .loop
 | .exit id=>some (.exit id)
 | .ret=>some .ret
 | _=>some badC
def jM [Rd] {ns:Option (List Nat)} : ∀ (c:Code) (ac:AC),M3 P ns c=some ac -> ∀ {Q:AX->List AV->AH->Prop}{T:List AV}{h:AH},aw P n0 ac Q T h->AW P n0 c Q T h:=by
 intro c;induction c with
 | skip=>intro ac hc Q T h hw;cases hc;exact qX hw
 | region id ops draw =>
  intro ac hc Q T h hw
  simp only[M3] at hc
  split at hc
  .rename_i al hm
   split at hc
   .rename_i hd;subst hd;cases hc;exact bP hm hw
   .rename_i hd
    obtain rfl:draw=true:=by simpa using hd
    cases hb:selB ns ops.size with
    | false =>
     rw[hb] at hc
     simp only[cond_false] at hc
     cases hu:Oz P ops al with
     | none=>rw[hu] at hc;cases hc;exact (O8 hw).elim
     | some ac2=>rw[hu] at hc;cases hc;exact Oh hu hw
    | true =>
    rw[hb] at hc
    simp only[cond_true] at hc
    cases hu:Q9 P ops with
    | none=>rw[hu] at hc;cases hc;exact (O8 hw).elim
    | some ac2 =>
     rw[hu] at hc
     cases hc
     unfold Q9 at hu
     split at hu <;> try (cases hu;done)
     rename_i al2 hm2
     split at hu <;> try (cases hu;done)
     rename_i hcond
     cases hu
     exact Vi hcond.1 hcond.2 hm2 hw
  .cases hc;exact (O8 hw).elim
 | seq a b iha ihb =>
  intro ac hc Q T h hw
  simp only[M3] at hc
  split at hc <;> try (cases hc;done)
  rename_i x y hx hy
  cases hc
  refine AW_seq ((iha x hx hw).mono ?_)
  intro z T' h' hq
  cases z <;> simp only[AX.thn] at hq ⊢ <;> first | exact hq | (obtain⟨T1,h1,hle,hq⟩:=hq;exact AW_le hle (ihb y hy hq))
 | cond c a b iha ihb =>
  intro ac hc Q T h hw
  simp only[M3] at hc
  split at hc <;> try (cases hc;done)
  rename_i x y hx hy
  cases hc
  simp only[aw] at hw
  split at hw <;> try (exact hw.elim)
  rename_i t ht
  exact rA ht (λe=>iha x hx (hw.1 e)) (λe=>ihb y hy (hw.2 e))
 | block id a iha =>
  intro ac hc Q T h hw
  simp only[M3,Option.map_eq_some_iff] at hc
  obtain⟨x,hx,rfl⟩:=hc
  exact kO (iha x hx hw)
 | loop a iha =>
  intro ac hc Q T h hw
  simp only[M3,Option.map_eq_some_iff] at hc
  obtain⟨x,hx,rfl⟩:=hc
  obtain⟨I,n,h0,hr⟩:=hw
  refine qY (λn T h => ∃ T1 h1,ALe n0 T h T1 h1/\I n T1 h1) n h0 ?_
  rintro n T h ⟨T1,h1,hle,hI⟩
  exact AW_le hle (iha x hx (hr n T1 h1 hI))
 | rangeFunc f ps x y iha ihb=>intro ac hc Q T h hw;cases hc;exact (O8 hw).elim
 | exit id=>intro ac hc Q T h hw;cases hc;exact qZ hw
 | scope a iha=>intro ac hc Q T h hw;cases hc;exact (O8 hw).elim
 | label l=>intro ac hc Q T h hw;cases hc;exact (O8 hw).elim
 | goto l=>intro ac hc Q T h hw;cases hc;exact (O8 hw).elim
 | ret=>intro ac hc Q T h hw;cases hc;exact AW_ret hw
 | refuse w=>intro ac hc Q T h hw;cases hc;exact (O8 hw).elim
def K9 (P:Program) (ns:Option (List Nat)) (f:FuncId):Option AF :=
 match P.funcs[f]? with
 | some fn=>if fn.name == "runtime.NumGoroutine" then none else match fn.body with
  | some c=>match M3 P ns c,fn.results.toList.mapM (Lz P) with
   | some ac,some rs=>some ⟨ac,rs,fn.ntmps⟩
   | _,_=>none
  | none=>none
 | none=>none
def ACalls.of_awU {ns:Option (List Nat)}{f:FuncId}{af:AF}(hc:K9 P ns f=some af) {args:List AV}{h:AH}{R:AE->AH->Prop}(hw:aw P h.length af.code (retA af.res R) (args++List.replicate (af.ntmps-args.length) .any) h):ACalls P f args h R:=by
 unfold K9 at hc;split at hc <;> try (cases hc;done)
 rename_i fn hfn;split at hc <;> try (cases hc;done)
 rename_i hname;split at hc <;> try (cases hc;done)
 rename_i c hb;split at hc <;> try (cases hc;done)
 rename_i ac rs hac hrs;cases hc;letI:Rd:=rdN;refine ACalls.of_AW hfn hb ?_ ((jM c ac hac hw).mono ?_)
 .simp only[enters,hfn,hb];simp only[Bool.not_eq_true] at hname;simp[bne,hname]
 .intro x T' h' hq;cases x <;> simp only[retA,RetQ] at hq ⊢
  .split at hq <;> try (exact hq.elim)
   rename_i r hr;exact⟨r,λw g a hs ht=>Ii hrs hr hs ht,hq⟩
  .split at hq <;> try (exact hq.elim)
   rename_i r hr;exact⟨r,λw g a hs ht=>Ii hrs hr hs ht,hq⟩
  .exact hq
def Mx {ns:Option (List Nat)}{f:FuncId}{af:AF}(hc:K9 P ns f=some af):enters P f=true:=by
 unfold K9 at hc;split at hc <;> try (cases hc;done)
 rename_i fn hfn;split at hc <;> try (cases hc;done)
 rename_i hname;split at hc <;> try (cases hc;done)
 rename_i c hb;simp only[enters,hfn,hb];simp only[Bool.not_eq_true] at hname;simp[bne,hname]
def tU' {ns:Option (List Nat)}{f:FuncId}{c:AC}{rs:List AR}{m:Nat}{args:List AV}{h:AH}{R:AE->Prop}(hc:K9 P ns f=some ⟨c,rs,m⟩) (hw : ∀ n,h.length=n->(∀ e∈h,e.lt n=true)->AV.ltL n args=true->AV.bdL args->aw P n c (retA rs λx h' => ∃ z,h'=h++z/\x.lt n=true/\R x) (tA' args m) (h++[])) (hl:Nat.ble args.length m=true:=by rfl):ACalls P f args h λx h'=>h'=h/\R x:=by
 refine ACalls.gc_same ⟨Mx hc,λw g vs hs ha=>(ACalls.of_awU hc ?_).2 w g vs hs ha⟩;have:=hw h.length rfl hs.ltE (RepL.lt (λi v l hl=>(hs.fresh i v l hl).1) _ _ ha) (RepL.bd _ _ ha);rw[List.append_nil] at this;show aw P h.length c _ (args++List.replicate (m-args.length) .any) h;rw[Ob _ _ (Nat.le_of_ble_eq_true hl)];exact this
def tUW' {ns:Option (List Nat)}{f:FuncId}{c:AC}{rs:List AR}{m:Nat}{args:List AV}{h:AH}{res:AV}(hc:K9 P ns f=some ⟨c,rs,m⟩) (hw : ∀ n,h.length=n->(∀ e∈h,e.lt n=true)->AV.ltL n args=true->AV.bdL args->aw P n c (retA rs λx h' => ∃ z,h'=h++z/\x.lt n=true /\ ∃ c,x=.ret c/\Wk c res) (tA' args m) (h++[])) (hl:Nat.ble args.length m=true:=by rfl):ACalls P f args h λx h'=>h'=h/\x=.ret res :=
 ACalls.weak (tU' hc hw hl)
def tUN' {ns:Option (List Nat)}{f:FuncId}{c:AC}{rs:List AR}{m:Nat}{args:List AV}{h:AH}{R:AE->AH->Prop}(hc:K9 P ns f=some ⟨c,rs,m⟩) (hw : ∀ n,h.length=n->(∀ e∈h,e.lt n=true)->AV.ltL n args=true->AV.bdL args->aw P n c (retA rs R) (tA' args m) (h++[])) (hl:Nat.ble args.length m=true:=by rfl):ACalls P f args h R:=by
 refine⟨Mx hc,λw g vs hs ha=>(ACalls.of_awU hc ?_).2 w g vs hs ha⟩;have:=hw h.length rfl hs.ltE (RepL.lt (λi v l hl=>(hs.fresh i v l hl).1) _ _ ha) (RepL.bd _ _ ha);rw[List.append_nil] at this;show aw P h.length c _ (args++List.replicate (m-args.length) .any) h;rw[Ob _ _ (Nat.le_of_ble_eq_true hl)];exact this
def tUJ' {ns:Option (List Nat)}{f:FuncId}{c:AC}{rs:List AR}{m:Nat}{args:List AV}{h:AH}{R:AE->AH->Prop}(hc:K9 P ns f=some ⟨c,rs,m⟩) (hw : ∀ n,h.length=n->(∀ e∈h,e.lt n=true)->AV.ltL n args=true->AV.bdL args->aw P n c (retA rs λx h' => ∃ y z,h'=y++z/\y.length=n/\(∀ e∈y,e.lt n=true)/\x.lt n=true/\R x y) (tA' args m) (h++[])) (hl:Nat.ble args.length m=true:=by rfl):ACalls P f args h R :=
 ACalls.gc (tUN' hc (λn hn=>by subst hn;exact hw _ rfl) hl)
def ACalls.turnTo {f:FuncId}{args:List AV}{h:AH}{id v ty st n ty2 st2:Nat}{cs cells:List AV}(hi:h[id]?=some (.mk v ty st cs)) (hlt:AV.ltL h.length cells=true)
  (hc:ACalls P f args h λx h' => ∃ z j u,h'=h++z/\z[j]?=some (.mk u ty2 st2 cells)/\x=.ret (.own (h.length+j) u n)):ACalls P f args h λx h'=>x=.ret (.own id (v+1) n)/\h'=h.set id (.mk (v+1) ty2 st2 cells):=by
 refine⟨hc.1,λw g vs hs ha=>(hc.2 w g vs hs ha).mono ?_⟩;rintro e w' ⟨x,h',g1,r1,r2,r3,r4,r5,z,j,u,rfl,hz,rfl⟩;have hid:id<h.length:=(List.getElem?_eq_some_iff.1 hi).1;have hL:(h++z)[h.length+j]?=some (.mk u ty2 st2 cells):=by rw[List.getElem?_append_right om,Nat.add_sub_cancel_left];exact hz
 have hold : ∀ {i:Nat},i<h.length->(h++z)[i]?=h[i]?:=λhi=>List.getElem?_append_left hi;have hno : ∀ l,g1.loc id (v+1)=some l->False:=λl hl=>by
  have:=(r2.fresh _ _ _ hl).2 _ _ _ _ ((hold hid).trans hi);omega
 let g2:Gh:=⟨g1.D,λi k=>if i=id/\k=v+1 then g1.loc (h.length+j) u else if i<h.length then g1.loc i k else none,g1.df,g1.X⟩;have hle:(g1.cut h.length).le g2:=by
  refine⟨λ_ h=>h,λi k l hl=>?_,rfl⟩;simp only[Gh.cut] at hl;split at hl
  .rename_i hi';simp only[g2];rw[if_neg (by rintro⟨rfl,rfl⟩;exact hno _ hl),if_pos hi'];exact hl
  .cases hl
 have to : ∀ (c:List AV) (vs:List Value),AV.ltL h.length c=true->RepL w' g1 c vs->RepL w' g2 c vs:=λc vs h1 h2=>RepL.mono hle (λ_ _=>rfl) _ _ (RepL.cut _ _ h1 h2);have get : ∀ {i:Nat} {e:Ent},(h.set id (.mk (v+1) ty2 st2 cells))[i]?=some e->(i=id/\e=.mk (v+1) ty2 st2 cells)\/(i≠id/\i<h.length/\(h++z)[i]?=some e):=by
  intro i e he;by_cases hii:i=id
  .subst hii;rw[List.getElem?_set_self hid] at he;cases he;exact .inl ⟨rfl,rfl⟩
  .rw[List.getElem?_set_ne (Ne.symm hii)] at he;have:=(List.getElem?_eq_some_iff.1 he).1;exact .inr ⟨hii,this,(hold this).trans he⟩
 have ltE:=hs.ltE;have hltE : ∀ {i:Nat} {e:Ent},i<h.length->(h++z)[i]?=some e->e.lt h.length=true:=λhi he=>ltE _ (List.mem_of_getElem? ((hold hi).symm.trans he));have how : ∀ {i k:Nat},OwAt g2 (h.set id (.mk (v+1) ty2 st2 cells)) i k->OwAt g1 (h++z) (if i=id then h.length+j else i) k/\(i≠id->i<h.length):=by
  rintro i k ⟨v',ty',s,c,b,cap,e1,e2,e3,e4⟩;simp only[g2] at e2;rcases get e1 with ⟨rfl,h1⟩ | ⟨hii,hlt',h1⟩
  .cases h1;rw[if_pos ⟨rfl,rfl⟩] at e2;rw[if_pos rfl];exact⟨⟨u,ty2,st2,cells,b,cap,hL,e2,e3,e4⟩,λh=>absurd rfl h⟩
  .rw[if_neg (λh=>hii h.1),if_pos hlt'] at e2;rw[if_neg hii];exact⟨⟨v',ty',s,c,b,cap,h1,e2,e3,e4⟩,λ_=>hlt'⟩
 have hrw : ∀ {i k:Nat},RwAt (h.set id (.mk (v+1) ty2 st2 cells)) i k->RwAt (h++z) i k:=by
  rintro i k ⟨o,T,us,e⟩;rcases get e with ⟨_,h1⟩ | ⟨_,_,h1⟩
  .cases h1
  .exact⟨o,T,us,h1⟩
 refine⟨_,_,g2,?_,⟨?_,?_,r2.lt,?_,?_,⟨r2.glob.w,r2.glob.d⟩,?_,λi k b h1 h2=>r2.rinj _ _ _ (hrw h1) (hrw h2),?_⟩,⟨r3.D,λi k l hl=>?_,r3.X⟩,r4,?_,rfl,rfl⟩
 .cases e <;> simp only[EndR] at r1 ⊢;simp only[Rep] at r1 ⊢;obtain⟨A,cap,e1,e2⟩:=r1;exact⟨A,cap,by simp only[g2,and_self,if_true];exact e1,e2⟩
 .intro i k ty' s c he;rcases get he with ⟨rfl,h1⟩ | ⟨hii,hlt',h1⟩
  .cases h1;obtain⟨A,cap,f1,f2,f3⟩:=r2.ent _ _ _ _ _ hL;refine⟨A,cap,by simp only[g2,and_self,if_true];exact f1,f2,f3.imp id ?_⟩;rintro⟨b,arr,e,q0,q1,q2,q3,q4,q5⟩;exact⟨b,arr,e,q0,q1,q2,q3,q4,to _ _ hlt q5⟩
  .obtain⟨A,cap,f1,f2,f3⟩:=r2.ent _ _ _ _ _ h1;refine⟨A,cap,by simp only[g2];rw[if_neg (λh=>hii h.1),if_pos hlt'];exact f1,f2,f3.imp (λh=>h) ?_⟩;rintro⟨b,arr,e,q0,q1,q2,q3,q4,q5⟩;exact⟨b,arr,e,q0,q1,q2,q3,q4,to _ _ (by simpa [Ent.lt] using hltE hlt' h1) q5⟩
 .intro i k b h1 h2;obtain⟨x1,x2⟩:=how h1;obtain⟨y1,y2⟩:=how h2;have:=r2.inj _ _ _ x1 y1;by_cases hi':i=id <;> by_cases hk:k=id
  .rw[hi',hk]
  .rw[if_pos hi',if_neg hk] at this;have:=y2 hk;omega
  .rw[if_neg hi',if_pos hk] at this;have:=x2 hi';omega
  .rw[if_neg hi',if_neg hk] at this;exact this
 .intro i k l hl;simp only[g2] at hl;split at hl
  .rename_i hh;obtain⟨rfl,rfl⟩:=hh;refine⟨by simpa using hid,λv' ty' s c he=>?_⟩;rcases get he with ⟨_,h1⟩ | ⟨h1,_⟩
   .cases h1;exact Nat.le_refl _
   .exact absurd rfl h1
  .split at hl <;> try (cases hl;done)
   rename_i hh hlt';refine⟨by simpa using hlt',λv' ty' s c he=>?_⟩;have hf:=(r2.fresh _ _ _ hl).2;rcases get he with ⟨rfl,h1⟩ | ⟨_,_,h1⟩
   .cases h1;have:=hf _ _ _ _ ((hold hid).trans hi);omega
   .exact hf _ _ _ _ h1
 .intro i k l hl hfr;simp only[g2] at hl;rcases get hfr with ⟨_,h1⟩ | ⟨hii,hlt',h1⟩
  .cases h1
  .rw[if_neg (λh=>hii h.1),if_pos hlt'] at hl;exact r2.free _ _ _ hl h1
 .intro i k o T us he;rcases get he with ⟨_,h1⟩ | ⟨hii,hlt',h1⟩
  .cases h1
  .obtain⟨q1,q2,q3,q4⟩:=r2.raw _ _ _ _ _ h1;exact⟨q1,q2,q3,to _ _ (by simpa [Ent.lt] using hltE hlt' h1) q4⟩
 .intro k hk;obtain⟨x1,x2,x3⟩:=r2.x k hk;exact⟨x1,x2,λho=>x3 (ho.imp (λ⟨i,h⟩=>⟨_,(how h).1⟩) (λ⟨i,h⟩=>⟨i,hrw h⟩))⟩
 .have h1:=(hs.fresh _ _ _ hl);simp only[g2];rw[if_neg (by rintro⟨rfl,rfl⟩;have:=h1.2 _ _ _ _ hi;omega),if_pos h1.1];exact r3.loc _ _ _ hl
 .exact λk ho=>r5 k (ho.imp (λ⟨i,h⟩=>⟨_,(how h).1⟩) (λ⟨i,h⟩=>⟨i,hrw h⟩))
def V0 {w:World}{g:Gh} : ∀ {vs us:List Value},RepL w g (vs.map .v) us↔us=vs
 | [],us=>by simp only[List.map_nil,RepL]
 | v::vs,us=>by
  simp only[List.map_cons,RepL,Rep,V0 (vs:=vs)];constructor
  .rintro⟨u,us',rfl,rfl,rfl⟩;rfl
  .rintro rfl;exact⟨_,_,rfl,rfl,rfl⟩
def ACalls.of_turnR {f:FuncId}{args:List AV}{h:AH}{id ver ty st:Nat}{cells cells':List AV}{c:AV}(he:enters P f=true) (hi:h[id]?=some (.mk ver ty st cells)) (hne:cells≠[])
  (hc : ∀ w g (vs:Array Value) b cap arr,SimH w g h->RepL w g args vs.toList->g.loc id ver=some (some ⟨b,0,none⟩,cap)->w.heap[b]?=some (.cells arr ty (0,0))->arr.size=cap*st->cells.length<=arr.size->RepL w g cells (arr.toList.take cells.length) ->
   Calls P f vs w λe w' => ∃ (v:Value) (vs':List Value) (arr':Array Value),e=.returned v/\cells'=vs'.map .v/\w'.heap[b]?=some (.cells arr' ty (0,0))/\arr'.size=arr.size/\vs'.length=cells.length/\arr'.toList.take cells.length=vs' /\
    w'.os=w.os/\w'.tape=w.tape/\w'.output=w.output/\w.heap.size<=w'.heap.size/\(∀ k,k<w.heap.size->k≠b->w'.heap[k]?=w.heap[k]?)/\Rep w' g c v) :
  ACalls P f args h λx h'=>x=.ret c/\h'=h.set id (.mk ver ty st cells'):=by
 refine⟨he,λw g vs hs ha=>?_⟩;obtain⟨A,cap,f1,fm,f3⟩:=hs.ent _ _ _ _ _ hi;rcases f3 with ⟨e,_⟩ | ⟨b,arr,rfl,hc0,hd,hb,hsz,hle,hrl⟩
 .exact absurd e hne
 have hid:id<h.length:=(List.getElem?_eq_some_iff.1 hi).1;have how:OwAt g h id b:=⟨ver,ty,st,cells,_,cap,hi,f1,hc0,rfl⟩;refine (hc w g vs b cap arr hs ha f1 hb hsz hle hrl).mono ?_;rintro e w' ⟨v,vs',arr',rfl,rfl,h1,h2,h3,h4,h5,h6,h7,h8,h9,hv⟩;have hother : ∀ j,g.D j\/(∃ i,i≠id/\OwAt g h i j)\/(∃ i,RwAt h i j)->w'.heap[j]?=w.heap[j]?:=by
  rintro j (hj | ⟨i,hne',hj⟩ | ⟨i,hj⟩);rotate_left 2
  .exact h9 j (hs.own_not_D (.inr ⟨i,hj⟩)).2 (λe=>by subst e;exact hs.own_ne_raw how hj)
  .exact h9 j (hs.lt j hj) (λe=>hd (e ▸ hj))
  .exact h9 j (hs.own_not_D (.inl ⟨i,hj⟩)).2 (λe=>hne' (hs.inj i id j hj (e ▸ how)))
 obtain⟨k1,k2,k3⟩:=hs.put (w':=w') (g':=g) (h':=h.set id (.mk ver ty st (vs'.map .v))) id ver ty st (vs'.map .v) (some ⟨b,0,none⟩) cap
  (λi hne'=>by rw[List.getElem?_set_ne (Ne.symm hne')]) (by rw[List.getElem?_set_self hid]) (by simp) rfl (λ_ _ _ h=>h) (λ_ _ _ h=>.inl h) f1 (λv l hv=>(hs.fresh _ _ _ hv).2 _ _ _ _ hi) hother h8 fm
  (.inr ⟨b,arr',rfl,hc0,hd,h1,by rw[h2,hsz],by rw[List.length_map,h3,h2];exact hle,by rw[List.length_map,h3,h4];exact V0.2 rfl⟩)
  (λj hj _ i hne' ho=>by
   simp at hj;subst hj;exact hne' (hs.inj i id _ ho how)) (λk hk _ _=>by simp at hk;subst hk;exact .inl ⟨id,how⟩)
 refine⟨.ret c,_,g,hv,k1,k2,⟨h5,h6,h7,h8,λk hk hn=>h9 k hk (λe=>hn (.inl ⟨id,e ▸ how⟩))⟩,λk hk=>?_,rfl,rfl⟩
 .rcases k3 k hk with ho | ⟨ho,_⟩
  .exact .inl ho
  .simp at ho;subst ho;exact .inl (.inl ⟨id,how⟩)
end
def Ku (ns:Option (List Nat)) (f:FuncId) (hs:List Hint) {a:AF}(h:genF Go.Proofs.Tryz.prog f hs=some a:=by conv=>lhs;reduce;try simp only [Int.reduceOfNat,Int.reduceNegSucc,u8f,UInt8.reduceOfNat])(h2:K9 Go.Proofs.Tryz.prog ns f=some a:=by kernel_rfl):K9 Go.Proofs.Tryz.prog ns f=some a:=h2
end
end Go.Ab
namespace Go.Proofs.YtfcecekilahfiaaGreatDoor
open Go.Ab
variable {b:ByteArray}
section
open Go
def ltS (a b:ByteArray):Bool:=Op.bytesLess a.toList b.toList
def Py {a:ByteArray}:ltS a b=true↔a.data.toList<b.data.toList:=by
 unfold ltS;rw[bytesLess_eq,Lib.toList_data,Lib.toList_data];simp
def V7 (a:ByteArray):ltS a a=false:=by
 rw[Bool.eq_false_iff,ne_eq,Py];exact List.lt_irrefl _
def Qz {a c:ByteArray}(h1:ltS a b=true) (h2:ltS b c=true):ltS a c=true:=by
 rw[Py] at *;exact List.lt_trans h1 h2
def Jq {a:ByteArray}(h:ltS a b=true):ltS b a=false:=by
 rw[Bool.eq_false_iff,ne_eq,Py];rw[Py] at h;exact List.lt_asymm h
def Ys {a:ByteArray}(h:a.data.toList=b.data.toList):a=b:=by
 cases a;cases b;simp at h;congr 1
def dF {a:ByteArray}(h1:ltS a b=false) (h2:ltS b a=false):a=b:=by
 rw[Bool.eq_false_iff,ne_eq,Py,List.not_lt] at *;exact Ys (List.le_antisymm h2 h1)
def Tr {a:ByteArray}(h:ltS a b=true):a≠b:=λe=>by subst e;rw[V7] at h;cases h
def tI {a b c:ByteArray}(h1:ltS b a=false) (h2:ltS b c=true):ltS a c=true:=by
 cases h:ltS a b with
 | true=>exact Qz h h2
 | false=>rw[dF h h1];exact h2
def Xw {a b:ByteArray}(h:a≠b):ltS a b=true\/ltS b a=true:=by
 cases h1:ltS a b with
 | true=>exact .inl rfl
 | false =>
  cases h2:ltS b a with
  | true=>exact .inr rfl
  | false=>exact absurd (dF h1 h2) h
def Tv (a b:ByteArray):(Op.bytesLess a.toList b.toList||a.toList==b.toList)=!ltS b a:=by
 have e:(a.toList==b.toList)=decide (a=b):=by
  rw[Bool.eq_iff_iff,beq_iff_eq,decide_eq_true_iff];exact⟨λh=>Ys (by rwa [Lib.toList_data,Lib.toList_data] at h),λh=>by rw[h]⟩
 rw[e];show (ltS a b||decide (a=b))=!ltS b a;by_cases h:a=b
 .subst h;simp[V7]
 .rcases Xw h with h1 | h1
  .rw[h1,Jq h1];simp
  .rw[h1,Jq h1];simp[h]
def cmpS (a b:ByteArray):Int:=if ltS a b=true then -1 else if ltS b a=true then 1 else 0
def M6 {a:ByteArray}:cmpS a b<0↔ltS a b=true:=by unfold cmpS;split <;> (try split) <;> simp_all
def uG {a:ByteArray}:cmpS a b=0↔a=b:=by
 unfold cmpS;constructor
 .intro h;split at h
  .cases h
  .split at h
   .cases h
   .exact dF (by simp_all) (by simp_all)
 .rintro rfl;rw[V7];simp
def jO {a b:ByteArray}:0<cmpS a b↔ltS b a=true:=by
 unfold cmpS;cases h1:ltS a b with
 | true=>simp[Jq h1]
 | false=>cases h2:ltS b a <;> simp
section
variable {α : Type}
def risN (l:List (ByteArray×α)):Prop:=l.Pairwise λa b=>ltS a.1 b.1=true
def B4:List (ByteArray×α)->ByteArray->Option α
 | [],_=>none
 | n::l,nm=>if n.1=nm then some n.2 else B4 l nm
def hasN (l:List (ByteArray×α)) (nm:ByteArray):Bool:=l.any λn=>decide (n.1=nm)
def idxN (l:List (ByteArray×α)) (nm:ByteArray):Nat:=l.findIdx λn=>decide (n.1=nm)
def posN (l:List (ByteArray×α)) (nm:ByteArray):Nat:=l.findIdx λn=>!ltS n.1 nm
def insN (l:List (ByteArray×α)) (n:ByteArray×α):List (ByteArray×α):=l.take (posN l n.1)++n::l.drop (posN l n.1)
def Fl : ∀ (l:List (ByteArray×α)) (nm:ByteArray),hasN l nm=(B4 l nm).isSome
 | [],_=>rfl
 | n::l,nm=>by
  have ih:=Fl l nm;unfold hasN at ih ⊢;rw[List.any_cons,B4,ih];split
  .rename_i h;simp[h]
  .rename_i h;simp[h]
def aT (n:ByteArray×α) (l:List (ByteArray×α)) (nm:ByteArray):hasN (n::l) nm=(decide (n.1=nm)||hasN l nm):=rfl
def Ht {l:List (ByteArray×α)}{nm:ByteArray}:hasN l nm=true↔nm∈l.map (·.1):=by
 unfold hasN;simp only[List.any_eq_true,decide_eq_true_eq,List.mem_map]
def Fv {l:List (ByteArray×α)}{nm:ByteArray}:B4 l nm=none↔nm ∉ l.map (·.1):=by
 rw[<-Ht,Fl];cases B4 l nm <;> simp
def F4 : ∀ {l:List (ByteArray×α)}{nm:ByteArray}{t:α},B4 l nm=some t->(nm,t)∈l
 | n::l,nm,t,h=>by
  rw[B4] at h;split at h
  .rename_i e;subst e;cases h;exact List.mem_cons_self
  .exact List.mem_cons_of_mem _ (F4 h)
def Ij {n m:ByteArray×α}{l:List (ByteArray×α)}(h:risN (n::l)) (hm:m∈l):ltS n.1 m.1=true:=(List.pairwise_cons.1 h).1 m hm
def Kj {n:ByteArray×α}{l:List (ByteArray×α)}(h:risN (n::l)):risN l:=(List.pairwise_cons.1 h).2
def Tq : ∀ {l:List (ByteArray×α)}{nm:ByteArray}{t:α},risN l->(nm,t)∈l->B4 l nm=some t
 | n::l,nm,t,hr,h=>by
  rw[B4];rcases List.mem_cons.1 h with rfl | h
  .rw[if_pos rfl]
  .rw[if_neg (Tr (Ij hr h))];exact Tq (Kj hr) h
def Qv {l:List (ByteArray×α)}(h:risN l):(l.map (·.1)).Nodup:=List.pairwise_map.2 (h.imp λh=>Tr h)
def cR : ∀ {l m:List (ByteArray×α)},risN l->risN m->(∀ nm,B4 l nm=B4 m nm)->l=m
 | [],[],_,_,_=>rfl
 | [],n::m,_,_,h=>by have:=h n.1;rw[B4,B4,if_pos rfl] at this;cases this
 | n::l,[],_,_,h=>by have:=h n.1;rw[B4,B4,if_pos rfl] at this;cases this
 | n::l,k::m,hl,hm,h=>by
  have key:n.1=k.1:=by
   refine Decidable.byContradiction λhne=>?_;rcases Xw hne with h1 | h1
   .have:=h n.1;rw[B4,if_pos rfl,B4,if_neg (Ne.symm hne)] at this;have h2:=Ij hm (F4 this.symm);have:=Jq h1;rw[h2] at this;cases this
   .have:=h k.1;rw[B4,if_neg hne,B4,if_pos rfl] at this;have h2:=Ij hl (F4 this);have:=Jq h1;rw[h2] at this;cases this
  have hv:n.2=k.2:=by
   have:=h n.1;rw[B4,if_pos rfl,B4,if_pos key.symm] at this;exact Option.some.inj this
  have e:n=k:=Prod.ext key hv;subst e;refine congrArg _ (cR (Kj hl) (Kj hm) λnm=>?_);by_cases hn:n.1=nm
  .subst hn;rw[Fv.2 λhx=>?_,Fv.2 λhx=>?_]
   .obtain⟨x,hx,e⟩:=List.mem_map.1 hx;exact Tr (Ij hm hx) e.symm
   .obtain⟨x,hx,e⟩:=List.mem_map.1 hx;exact Tr (Ij hl hx) e.symm
  .have:=h nm;rwa [B4,if_neg hn,B4,if_neg hn] at this
def pos_is {l:List (ByteArray×α)}{nm:ByteArray}{i:Nat}(hi:i<=l.length) (h1 : ∀ k (h:k<l.length),k<i->ltS l[k].1 nm=true) (h2 : ∀ k (h:k<l.length),i<=k->ltS l[k].1 nm=false):posN l nm=i:=by
 unfold posN;rcases Nat.lt_or_ge i l.length with hlt | hge
 .rw[List.findIdx_eq hlt];exact⟨by rw[h2 i hlt (Nat.le_refl _)];rfl,λj hj=>by rw[h1 j om hj];rfl⟩
 .rw[List.findIdx_eq_length.2 λx hx=>by obtain⟨k,hk,rfl⟩:=List.getElem_of_mem hx;rw[h1 k hk om];rfl];omega
def lP (l:List (ByteArray×α)) (nm:ByteArray):posN l nm<=l.length:=List.findIdx_le_length
def Q5 {l:List (ByteArray×α)}{nm:ByteArray}(h:hasN l nm=true) : ∃ hi:idxN l nm<l.length,l[idxN l nm].1=nm:=by
 have hi:idxN l nm<l.length:=List.findIdx_lt_length.2 (by unfold hasN at h;simpa using h);have:=List.findIdx_getElem (w:=hi);exact⟨hi,of_decide_eq_true this⟩
def pos_low {l:List (ByteArray×α)}{nm:ByteArray}{k:Nat}(h:k<posN l nm):ltS (l[k]'(Nat.lt_of_lt_of_le h (lP l nm))).1 nm=true:=by
 have:=List.not_of_lt_findIdx h;simpa using this
def pos_high {l:List (ByteArray×α)}(hr:risN l) {nm:ByteArray}{k:Nat}(hk:k<l.length) (h:posN l nm<=k):ltS l[k].1 nm=false:=by
 have hp:posN l nm<l.length:=by omega
 have h0:ltS l[posN l nm].1 nm=false:=by
  have:=List.findIdx_getElem (w:=hp);rw[Bool.not_eq_true'] at this;exact this
 rcases Nat.lt_or_ge (posN l nm) k with e | e
 .have:=List.pairwise_iff_getElem.1 hr _ _ hp hk e;cases h1:ltS l[k].1 nm with
  | false=>rfl
  | true=>rw[Qz this h1] at h0;cases h0
 .have:posN l nm=k:=by omega
  subst this;exact h0
def V1 {l:List (ByteArray×α)}(hr:risN l) {nm:ByteArray}(h:hasN l nm=true):posN l nm=idxN l nm:=by
 obtain⟨hi,he⟩:=Q5 h;refine pos_is (Nat.le_of_lt hi) (λk hk hlt=>?_) λk hk hge=>?_
 .have:=List.pairwise_iff_getElem.1 hr _ _ hk hi hlt;rwa [he] at this
 .rcases Nat.lt_or_ge (idxN l nm) k with e | e
  .have:=List.pairwise_iff_getElem.1 hr _ _ hi hk e;rw[he] at this;exact Jq this
  .have:idxN l nm=k:=by omega
   subst this;rw[he];exact V7 _
def oS {l:List (ByteArray×α)}(hr:risN l) {nm:ByteArray}:hasN l nm=true ↔ ∃ h:posN l nm<l.length,l[posN l nm].1=nm:=by
 constructor
 .intro h;obtain⟨hi,he⟩:=Q5 h;have e:=V1 hr h;exact⟨by rw[e];exact hi,by simp only[e];exact he⟩
 .rintro⟨h,he⟩;rw[Ht];exact List.mem_map.2 ⟨_,List.getElem_mem h,he⟩
def Xy {l:List (ByteArray×α)}{nm:ByteArray}:B4 l nm=(l[idxN l nm]?).map (·.2):=by
 unfold idxN;induction l with
 | nil=>rfl
 | cons n l ih =>
  rw[B4,List.findIdx_cons]
  split
  .rename_i h;simp[h]
  .rename_i h;simp[h,ih]
def Xz : ∀ {l:List (ByteArray×α)}{nm x:ByteArray},risN l->B4 (l.eraseIdx (idxN l nm)) x=if x=nm then none else B4 l x
 | [],nm,x,_=>by simp[B4]
 | n::l,nm,x,hr=>by
  unfold idxN;rw[List.findIdx_cons];by_cases h:n.1=nm
  .simp only[h,decide_true,cond_true,List.eraseIdx_cons_zero];split
   .rename_i hx;subst hx;exact Fv.2 λhx=>by obtain⟨y,hy,e⟩:=List.mem_map.1 hx;exact Tr (Ij hr hy) (h.trans e.symm)
   .rename_i hx;rw[B4,if_neg (λe=>hx (by rw[<-e,h]))]
  .simp only[h,decide_false,cond_false,List.eraseIdx_cons_succ];have ih:=Xz (l:=l) (nm:=nm) (x:=x) (Kj hr);unfold idxN at ih;rw[B4,ih,B4];by_cases hx:x=nm
   .rw[if_pos hx,if_pos hx,if_neg (by rw[hx];exact h)]
   .rw[if_neg hx,if_neg hx]
def Tm {l:List (ByteArray×α)}(h:risN l) (i:Nat):risN (l.eraseIdx i):=h.sublist (List.eraseIdx_sublist _ _)
def gT : ∀ {l:List (ByteArray×α)}{nm x:ByteArray}{t:α},hasN l nm=true->B4 (l.set (idxN l nm) (nm,t)) x=if x=nm then some t else B4 l x
 | n::l,nm,x,t,hh=>by
  unfold idxN;rw[List.findIdx_cons];by_cases h:n.1=nm
  .simp only[h,decide_true,cond_true,List.set_cons_zero];rw[B4,B4];by_cases hx:x=nm
   .rw[if_pos hx.symm,if_pos hx]
   .rw[if_neg (Ne.symm hx),if_neg hx,if_neg (by rw[h];exact Ne.symm hx)]
  .simp only[h,decide_false,cond_false,List.set_cons_succ];rw[aT] at hh;simp only[h,decide_false,Bool.false_or] at hh;have ih:=gT (x:=x) (t:=t) hh;unfold idxN at ih;rw[B4,ih,B4];by_cases hx:x=nm
   .rw[if_pos hx,if_pos hx,if_neg (by rw[hx];exact h)]
   .rw[if_neg hx,if_neg hx]
def Zz {l m:List (ByteArray×α)}(h:risN l) (e:m.map (·.1)=l.map (·.1)):risN m:=by
 have:(l.map (·.1)).Pairwise λa b=>ltS a b=true:=List.pairwise_map.2 h;rw[<-e] at this;exact List.pairwise_map.1 this
def rW {l:List (ByteArray×α)}{nm:ByteArray}{t:α}(h:hasN l nm=true):(l.set (idxN l nm) (nm,t)).map (·.1)=l.map (·.1):=by
 obtain⟨hi,he⟩:=Q5 h;rw[List.map_set];show (l.map (·.1)).set (idxN l nm) nm=_;have h2:(l.map (·.1))[idxN l nm]'(by simpa using hi)=nm:=by simpa using he
 exact (congrArg (λz=>(l.map (·.1)).set (idxN l nm) z) h2.symm).trans (List.set_getElem_self _)
def cQ {l:List (ByteArray×α)}{nm:ByteArray}{t:α}(hr:risN l) (h:hasN l nm=true):risN (l.set (idxN l nm) (nm,t)):=Zz hr (rW h)
def Ts : ∀ (l m:List (ByteArray×α)) (x:ByteArray),B4 (l++m) x=(B4 l x).or (B4 m x)
 | [],m,x=>by simp[B4]
 | n::l,m,x=>by
  rw[List.cons_append,B4,B4];split
  .rfl
  .exact Ts l m x
def look_ins {l:List (ByteArray×α)}{n:ByteArray×α}{x:ByteArray}(h:hasN l n.1=false):B4 (insN l n) x=if x=n.1 then some n.2 else B4 l x:=by
 unfold insN;have e:B4 l x=(B4 (l.take (posN l n.1)) x).or (B4 (l.drop (posN l n.1)) x):=by rw[<-Ts,List.take_append_drop]
 rw[Ts,B4,e];by_cases hx:x=n.1
 .subst hx;have:B4 (l.take (posN l n.1)) n.1=none:=Fv.2 λhm=>by
   have:hasN l n.1=true:=Ht.2 (by obtain⟨y,hy,e⟩:=List.mem_map.1 hm;exact List.mem_map.2 ⟨y,List.mem_of_mem_take hy,e⟩);rw[h] at this;cases this
  rw[this];simp
 .rw[if_neg (Ne.symm hx),if_neg hx]
def Vz {l:List (ByteArray×α)}{n:ByteArray×α}(hr:risN l) (h:hasN l n.1=false):risN (insN l n):=by
 unfold insN risN;rw[List.pairwise_append,List.pairwise_cons];have hlow : ∀ a∈l.take (posN l n.1),ltS a.1 n.1=true:=λa ha=>by
  obtain⟨k,hk,rfl⟩:=List.getElem_of_mem ha;rw[List.length_take] at hk;rw[List.getElem_take];exact pos_low om
 have hhigh : ∀ b∈l.drop (posN l n.1),ltS n.1 b.1=true:=λb hb=>by
  obtain⟨k,hk,rfl⟩:=List.getElem_of_mem hb;rw[List.length_drop] at hk;rw[List.getElem_drop];have h1:=pos_high hr (show posN l n.1+k<l.length by omega) (Nat.le_add_right _ _);refine (Xw (λe=>?_)).resolve_right (by rw[h1];simp);have:hasN l n.1=true:=Ht.2 (List.mem_map.2 ⟨_,List.getElem_mem _,e.symm⟩);rw[h] at this;cases this
 refine⟨hr.sublist (List.take_sublist _ _),⟨hhigh,hr.sublist (List.drop_sublist _ _)⟩,λa ha b hb=>?_⟩;rcases List.mem_cons.1 hb with rfl | hb
 .exact hlow a ha
 .exact Qz (hlow a ha) (hhigh b hb)
def pJ (l:List (ByteArray×α)) (n:ByteArray×α):(insN l n).length=l.length+1:=by
 unfold insN;have:=lP l n.1;simp;omega
def C1:List (ByteArray×α)->List ByteArray->List (ByteArray×α)×Int
 | l,[]=>(l,0)
 | l,d::ds=>if hasN l d=true then C1 (l.eraseIdx (idxN l d)) ds else (l,5)
def Fy:List (ByteArray×α)->List (ByteArray×α)->List (ByteArray×α)×Int
 | l,[]=>(l,0)
 | l,n::ns=>if hasN l n.1=true then (l,6) else Fy (insN l n) ns
def Dg {π:Type}(pe:α->π->Int) (pv:α->π->α):List (ByteArray×α)->List (ByteArray×π)->List (ByteArray×α)×Int
 | l,[]=>(l,0)
 | l,p::ps=>match B4 l p.1 with
  | none=>(l,5)
  | some t=>if pe t p.2≠0 then (l,pe t p.2) else Dg pe pv (l.set (idxN l p.1) (p.1,pv t p.2)) ps
def Ke {l:List (ByteArray×α)}{x:ByteArray}{t:α}(h:B4 l x=some t):hasN l x=true:=by rw[Fl,h];rfl
def bE : ∀ {ds:List ByteArray}{l:List (ByteArray×α)},risN l->risN (C1 l ds).1
 | [],_,h=>h
 | d::ds,l,h=>by rw[C1];split;exact bE (Tm h _);exact h
def fX : ∀ {ns l:List (ByteArray×α)},risN l->risN (Fy l ns).1
 | [],_,h=>h
 | n::ns,l,h=>by
  rw[Fy];split
  .exact h
  .rename_i h2;exact fX (Vz h (by simpa using h2))
def Z8 {π:Type}{pe:α->π->Int}{pv:α->π->α} : ∀ {ps:List (ByteArray×π)}{l:List (ByteArray×α)},risN l->risN (Dg pe pv l ps).1
 | [],_,h=>h
 | p::ps,l,h=>by
  rw[Dg];split
  .exact h
  .rename_i t ht;split
   .exact h
   .exact Z8 (cQ h (Ke ht))
def jI : ∀ {ds:List ByteArray}{l:List (ByteArray×α)},risN l->ds.Nodup->(∀ d∈ds,hasN l d=true)->(C1 l ds).2=0 /\ ∀ x,(x∈ds->B4 (C1 l ds).1 x=none)/\(x ∉ ds->B4 (C1 l ds).1 x=B4 l x)
 | [],l,_,_,_=>⟨rfl,λx=>⟨λh=>(by cases h),λ_=>rfl⟩⟩
 | d::ds,l,h,hn,hd=>by
  rw[List.nodup_cons] at hn;have hl:=λx=>Xz (nm:=d) (x:=x) h;obtain⟨h1,h2⟩:=jI (ds:=ds) (Tm h (idxN l d)) hn.2 λx hx=>by
   rw[Fl,hl,if_neg (λe=>hn.1 (by rw[<-e];exact hx)),<-Fl];exact hd x (by simp[hx])
  rw[C1,if_pos (hd d (by simp))];refine⟨h1,λx=>⟨λhx=>?_,λhx=>?_⟩⟩
  .rcases List.mem_cons.1 hx with rfl | hx
   .rw[(h2 x).2 hn.1,hl,if_pos rfl]
   .exact (h2 x).1 hx
  .rw[List.mem_cons,not_or] at hx;rw[(h2 x).2 hx.2,hl,if_neg hx.1]
def oR : ∀ {ns l:List (ByteArray×α)},risN l->(ns.map (·.1)).Nodup->(∀ n∈ns,hasN l n.1=false)->(Fy l ns).2=0 /\ ∀ x,B4 (Fy l ns).1 x=(B4 ns x).or (B4 l x)
 | [],l,_,_,_=>⟨rfl,λx=>by simp[Fy,B4]⟩
 | n::ns,l,h,hn,hd=>by
  rw[List.map_cons,List.nodup_cons] at hn;have hd0:=hd n (by simp);have hl:=λx=>look_ins (x:=x) hd0;obtain⟨h1,h2⟩:=oR (ns:=ns) (Vz h hd0) hn.2 λx hx=>by
   rw[Fl,hl,if_neg (λe=>hn.1 (by rw[<-e];exact List.mem_map.2 ⟨x,hx,rfl⟩)),<-Fl];exact hd x (by simp[hx])
  rw[Fy,if_neg (by rw[hd0];simp)];refine⟨h1,λx=>?_⟩;rw[h2,hl,B4];by_cases e:x=n.1
  .subst e;rw[if_pos rfl,if_pos rfl,Fv.2 hn.1];rfl
  .rw[if_neg e,if_neg (Ne.symm e)]
def gA {π:Type}{pe:α->π->Int}{pv:α->π->α}{G:ByteArray->Option α} : ∀ {ps:List (ByteArray×π)}{l:List (ByteArray×α)},risN l->(ps.map (·.1)).Nodup->(∀ p∈ps,∃ t,B4 l p.1=some t/\pe t p.2=0/\G p.1=some (pv t p.2)) ->
  (Dg pe pv l ps).2=0 /\ ∀ x,(x∈ps.map (·.1)->B4 (Dg pe pv l ps).1 x=G x)/\(x ∉ ps.map (·.1)->B4 (Dg pe pv l ps).1 x=B4 l x)
 | [],l,_,_,_=>⟨rfl,λx=>⟨λh=>(by cases h),λ_=>rfl⟩⟩
 | p::ps,l,h,hn,hd=>by
  rw[List.map_cons,List.nodup_cons] at hn;obtain⟨t,h1,h2,h3⟩:=hd p (by simp);have hs:=λx=>gT (x:=x) (t:=pv t p.2) (Ke h1);obtain⟨k1,k2⟩:=gA (pe:=pe) (pv:=pv) (ps:=ps) (G:=G) (cQ (t:=pv t p.2) h (Ke h1)) hn.2 λq hq=>by
   obtain⟨u,e1,e2,e3⟩:=hd q (by simp[hq]);exact⟨u,by rw[hs,if_neg (λe=>hn.1 (by rw[<-e];exact List.mem_map.2 ⟨q,hq,rfl⟩))];exact e1,e2,e3⟩
  have e:Dg pe pv l (p::ps)=Dg pe pv (l.set (idxN l p.1) (p.1,pv t p.2)) ps:=by
   rw[Dg,h1];simp[h2]
  rw[e];refine⟨k1,λx=>⟨λhx=>?_,λhx=>?_⟩⟩
  .rw[List.map_cons] at hx;rcases List.mem_cons.1 hx with rfl | hx
   .rw[(k2 p.1).2 hn.1,hs,if_pos rfl,h3]
   .exact (k2 x).1 hx
  .rw[List.map_cons,List.mem_cons,not_or] at hx;rw[(k2 x).2 hx.2,hs,if_neg hx.1]
section
variable {π : Type} [DecidableEq α]
def betD (r s:List (ByteArray×α)):List ByteArray:=(r.filter λn=>!hasN s n.1).map (·.1)
def betP (r s:List (ByteArray×α)):List (ByteArray×α):=s.filter λn=>!hasN r n.1
def betF (pd:α->α->π) (r:List (ByteArray×α)) (n:ByteArray×α):Option (ByteArray×π):=match B4 r n.1 with
 | none=>none
 | some t=>if t=n.2 then none else some (n.1,pd t n.2)
def betT (pd:α->α->π) (r s:List (ByteArray×α)):List (ByteArray×π):=s.filterMap (betF pd r)
def M8 {pd:α->α->π}{r:List (ByteArray×α)}{n:ByteArray×α}{p:ByteArray×π}(h:betF pd r n=some p):p.1=n.1 /\ ∃ t,B4 r n.1=some t/\t≠n.2/\p.2=pd t n.2:=by
 unfold betF at h;split at h
 .cases h
 .rename_i t ht;split at h
  .cases h
  .rename_i hne;cases h;exact⟨rfl,t,ht,hne,rfl⟩
def Tb {pd:α->α->π}{r s:List (ByteArray×α)}{p:ByteArray×π}:p∈betT pd r s ↔ ∃ n∈s,betF pd r n=some p:=by unfold betT;rw[List.mem_filterMap]
def Yt {pd:α->α->π}{r:List (ByteArray×α)} : ∀ {s:List (ByteArray×α)},risN s->((betT pd r s).map (·.1)).Nodup
 | [],_=>by simp[betT]
 | n::s,h=>by
  have ih:=Yt (pd:=pd) (r:=r) (Kj h);unfold betT at ih ⊢;rw[List.filterMap_cons];split
  .exact ih
  .rename_i p hp;rw[List.map_cons,List.nodup_cons];refine⟨λhm=>?_,ih⟩;obtain⟨q,hq,e⟩:=List.mem_map.1 hm;obtain⟨k,hk,hf⟩:=List.mem_filterMap.1 hq;have h1:=(M8 hp).1;have h2:=(M8 hf).1;exact Tr (Ij h hk) (by rw[<-h1,<-h2,e])
def leadN {pe:α->π->Int}{pv:α->π->α}{pd:α->α->π}{r s:List (ByteArray×α)}(hr:risN r) (hs:risN s) (hp : ∀ t u,(∃ x,B4 r x=some t/\B4 s x=some u)->pe t (pd t u)=0/\pv t (pd t u)=u) :
  (C1 r (betD r s)).2=0/\(Dg pe pv (C1 r (betD r s)).1 (betT pd r s)).2=0/\(Fy (Dg pe pv (C1 r (betD r s)).1 (betT pd r s)).1 (betP r s)).2=0 /\
   (Fy (Dg pe pv (C1 r (betD r s)).1 (betT pd r s)).1 (betP r s)).1=s:=by
 have memD : ∀ x,x∈betD r s↔hasN r x=true/\hasN s x=false:=λx=>by
  unfold betD;rw[List.mem_map];constructor
  .rintro⟨n,hn,rfl⟩;obtain⟨h1,h2⟩:=List.mem_filter.1 hn;exact⟨Ht.2 (List.mem_map.2 ⟨n,h1,rfl⟩),by simpa using h2⟩
  .rintro⟨h1,h2⟩;obtain⟨n,hn,rfl⟩:=List.mem_map.1 (Ht.1 h1);exact⟨n,List.mem_filter.2 ⟨hn,by simp[h2]⟩,rfl⟩
 obtain⟨a1,a2⟩:=jI (ds:=betD r s) hr ((Qv (l:=r.filter λn=>!hasN s n.1) (hr.filter _))) λd hd=>((memD d).1 hd).1;have ar:=bE (ds:=betD r s) hr
 have haveA : ∀ x,hasN s x=true->B4 (C1 r (betD r s)).1 x=B4 r x:=λx h2 =>
  (a2 x).2 λhm=>by have:=((memD x).1 hm).2;rw[h2] at this;cases this
 obtain⟨b1,b2⟩:=gA (pe:=pe) (pv:=pv) (G:=B4 s) (ps:=betT pd r s) ar (Yt hs) λp hp'=>by
  obtain⟨n,hn,hf⟩:=Tb.1 hp';obtain⟨e1,t,e2,e3,e4⟩:=M8 hf;have hsn:B4 s n.1=some n.2:=Tq hs hn;obtain⟨k1,k2⟩:=hp t n.2 ⟨n.1,e2,hsn⟩;exact⟨t,by rw[e1,haveA _ (Ke hsn)];exact e2,by rw[e4];exact k1,by rw[e4,k2,e1];exact hsn⟩
 have br:=Z8 (pe:=pe) (pv:=pv) (ps:=betT pd r s) ar;have lookB : ∀ x,B4 (Dg pe pv (C1 r (betD r s)).1 (betT pd r s)).1 x=if hasN r x=true then B4 s x else none:=λx=>by
  by_cases hx:x∈(betT pd r s).map (·.1)
  .rw[(b2 x).1 hx];obtain⟨p,hp',rfl⟩:=List.mem_map.1 hx;obtain⟨n,hn,hf⟩:=Tb.1 hp';obtain⟨e1,t,e2,e3,e4⟩:=M8 hf;rw[if_pos (by rw[e1];exact Ke e2)]
  .rw[(b2 x).2 hx];cases hr':B4 r x with
   | none =>
    rw[if_neg (by rw[Fl,hr'];simp)]
    by_cases hd:x∈betD r s
    .exact (a2 x).1 hd
    .rw[(a2 x).2 hd,hr']
   | some t =>
    rw[if_pos (Ke hr')]
    cases hs':B4 s x with
    | none=>exact (a2 x).1 ((memD x).2 ⟨Ke hr',by rw[Fl,hs'];rfl⟩)
    | some u =>
     rw[haveA x (Ke hs'),hr']
     refine congrArg some (Decidable.byContradiction λhne=>hx ?_)
     exact List.mem_map.2 ⟨(x,pd t u),Tb.2 ⟨(x,u),F4 hs',by unfold betF;simp only[hr'];rw[if_neg hne]⟩,rfl⟩
 have hPn:((betP r s).map (·.1)).Nodup:=Qv (hs.filter _);obtain⟨c1,c2⟩:=oR (ns:=betP r s) br hPn λn hn=>by
  obtain⟨h1,h2⟩:=List.mem_filter.1 hn;rw[Fl,lookB,if_neg (by simpa using h2)];rfl
 refine⟨a1,b1,c1,cR (fX br) hs λx=>?_⟩;rw[c2,lookB];cases hs':B4 s x with
 | none =>
  have:B4 (betP r s) x=none:=Fv.2 λhm=>by
   obtain⟨n,hn,e⟩:=List.mem_map.1 hm;have:=Fv.1 hs';exact this (List.mem_map.2 ⟨n,(List.mem_filter.1 hn).1,e⟩)
  rw[this];simp
 | some u =>
  by_cases h1:hasN r x=true
  .have:B4 (betP r s) x=none:=Fv.2 λhm=>by
    obtain⟨n,hn,e⟩:=List.mem_map.1 hm;have:=(List.mem_filter.1 hn).2;rw[e,h1] at this;cases this
   rw[this,if_pos h1];rfl
  .have:B4 (betP r s) x=some u:=Tq (hs.filter _) (List.mem_filter.2 ⟨F4 hs',by simpa using h1⟩)
   rw[this];rfl
end
end
end
end Go.Proofs.YtfcecekilahfiaaGreatDoor
section
namespace Go.Proofs.YtfcecekilahfiaaGreatDoor
namespace Civ
def Qi (y:Int):Bool:=y%4==0&&(y%100 != 0||y%400==0)
def lp (y:Int):Int:=if Qi y then 1 else 0
def bef (y:Int):Int:=365*(y-1)+(y-1)/4-(y-1)/100+(y-1)/400
def mlen (y m:Int):Int :=
 if m=2 then 28+lp y else if m=4 then 30 else if m=6 then 30 else if m=9 then 30 else if m=11 then 30 else 31
def cum (y m:Int):Int:=if m<=2 then 31*(m-1) else 59+lp y+(153*(m-3)+2)/5
def num (y m d:Int):Int:=bef y-719162+d-1+cum y m
def Db (y m d:Int):Bool:=decide (1<=y)&&decide (y<=9999)&&decide (1<=m)&&decide (m<=12)&&decide (1<=d)&&decide (d<=mlen y m)
def E8 {y m d:Int}:Db y m d=true↔1<=y/\y<=9999/\1<=m/\m<=12/\1<=d/\d<=mlen y m:=by
 simp[Db,and_assoc]
def lp_iff (y:Int):lp y=if y%4=0/\(y%100≠0\/y%400=0) then 1 else 0:=by
 unfold lp Qi;congr 1;simp
def Xx (y:Int):0<=lp y/\lp y<=1:=by unfold lp;split <;> omega
def M9 (y:Int):bef (y+1)=bef y+365+lp y:=by
 rw[lp_iff];unfold bef;split <;> omega
def Le {a b:Int}(h:a<=b):bef a<=bef b:=by unfold bef;omega
def Yv {a b:Int}(h:a<b):bef a+365<=bef b:=by unfold bef;omega
def bef_bd {y:Int}(h0:1<=y) (h:y<=20000):0<=bef y/\bef y<=8000000:=by unfold bef;omega
def bef_1970:bef 1970=719162:=by decide
def bef_1:bef 1=0:=by decide
def Iq:bef 10000=3652059:=by decide
def H5 (y m:Int):28<=mlen y m/\mlen y m<=31:=by
 have:=Xx y;unfold mlen;split <;> (try split) <;> (try split) <;> (try split) <;> (try split) <;> omega
def O3 {y m:Int}(h1:1<=m) (h2:m<=12):cum y (m+1)=cum y m+mlen y m:=by
 have:m=1\/m=2\/m=3\/m=4\/m=5\/m=6\/m=7\/m=8\/m=9\/m=10\/m=11\/m=12:=by omega
 rcases this with h | h | h | h | h | h | h | h | h | h | h | h <;> subst h <;> simp[cum,mlen] <;> omega
def jL (y:Int):cum y 1=0:=by simp[cum]
def mV (y:Int):cum y 13=365+lp y:=by simp[cum];omega
def Yl {y m:Int}(h1:1<=m) (h2:m<=13):0<=cum y m/\cum y m<=366:=by
 have:=Xx y;unfold cum;split <;> omega
def cum_le {y a b:Int}(h1:1<=a) (h:a<=b):cum y a<=cum y b:=by
 have:=Xx y;unfold cum;split <;> split <;> omega
def jK {y a b:Int}(h1:1<=a) (h:a<b) (h2:b<=13):cum y a+mlen y a<=cum y b:=by
 rw[<-O3 (y:=y) h1 om];exact cum_le om om
def Xp {y m d:Int}(h:Db y m d=true):bef y<=num y m d+719162/\num y m d+719162<bef (y+1):=by
 rw[E8] at h;have hs:=M9 y;have hc:=Yl (y:=y) (m:=m) om om;have:cum y m+mlen y m<=365+lp y:=by rw[<-mV];exact jK h.2.2.1 om om
 unfold num;omega
def Tp {y m d:Int}(h:Db y m d=true) : -719162<=num y m d/\num y m d<=2932896:=by
 have h1:=Xp h;rw[E8] at h;have a:=Le (a:=1) (b:=y) om;have b:=Le (a:=y+1) (b:=10000) om;rw[bef_1] at a;rw[Iq] at b;omega
def Us {y m d y' m' d':Int}(h:Db y m d=true) (h':Db y' m' d'=true) (hl:y<y'):num y m d<num y' m' d':=by
 have a:=Xp h;have b:=Xp h';have c:=Le (a:=y+1) (b:=y') om;omega
def Sf {y m d m' d':Int}(h:Db y m d=true) (h':Db y m' d'=true) (hl:m<m'):num y m d<num y m' d':=by
 rw[E8] at h h';have:=jK (y:=y) h.2.2.1 hl om;unfold num;omega
def Xq {y m d y' m' d':Int}(h:Db y m d=true) (h':Db y' m' d'=true) :
  num y m d<num y' m' d'↔y<y'\/y=y'/\(m<m'\/m=m'/\d<d'):=by
 constructor
 .intro hlt;rcases Int.lt_trichotomy y y' with a | a | a
  .exact .inl a
  .subst a;rcases Int.lt_trichotomy m m' with b | b | b
   .exact .inr ⟨rfl,.inl b⟩
   .subst b;refine .inr ⟨rfl,.inr ⟨rfl,?_⟩⟩;unfold num at hlt;omega
   .have:=Sf h' h b;omega
  .have:=Us h' h a;omega
 .rintro (a | ⟨rfl,a | ⟨rfl,a⟩⟩)
  .exact Us h h' a
  .exact Sf h h' a
  .unfold num;omega
def num_inj {y m d y' m' d':Int}(h:Db y m d=true) (h':Db y' m' d'=true) (he:num y m d=num y' m' d'):y=y'/\m=m'/\d=d':=by
 have a:=(Xq h h').2;have b:=(Xq h' h).2;rcases Int.lt_trichotomy y y' with c | c | c
 .have:=a (.inl c);omega
 .subst c;rcases Int.lt_trichotomy m m' with c | c | c
  .have:=a (.inr ⟨rfl,.inl c⟩);omega
  .subst c;unfold num at he;exact⟨rfl,rfl,by omega⟩
  .have:=b (.inr ⟨rfl,.inl c⟩);omega
 .have:=b (.inl c);omega
def yrUp:Nat->Int->Int->Int
 | 0,_,y=>y
 | k+1,n,y=>if bef (y+1)<=n then yrUp k n (y+1) else y
def moUp:Nat->Int->Int->Int->Int×Int
 | 0,_,m,r=>(m,r)
 | k+1,y,m,r=>if mlen y m<=r then moUp k y (m+1) (r-mlen y m) else (m,r)
def yrOf (days:Int):Int:=yrUp 60 (days+719162) ((days+719162)/366+1)
def De (days:Int):Int×Int×Int :=
 let y:=yrOf days
 let p:=moUp 12 y 1 (days+719162-bef y)
 (y,p.1,p.2+1)
def Zj : ∀ (k:Nat) (n y:Int),bef y<=n->n<bef y+365*(k:Int)+365->bef (yrUp k n y)<=n/\n<bef (yrUp k n y+1)
 | 0,n,y,h1,h2=>by
  simp only[yrUp];have:=M9 y;have:=Xx y;exact⟨h1,by simp at h2;omega⟩
 | k+1,n,y,h1,h2=>by
  simp only[yrUp];split
  .rename_i h;refine Zj k n (y+1) h ?_;have:=Yv (a:=y) (b:=y+1) om;simp only[Int.natCast_add,Int.cast_ofNat_Int] at h2;omega
  .exact⟨h1,by omega⟩
def iS {n:Int}(h0:0<=n):bef (n/366+1)<=n:=by unfold bef;omega
def X5 {n:Int}(h0:0<=n) (h1:n<=3652058):n<bef (n/366+1)+365*60:=by unfold bef;omega
def Zk {days:Int}(h0 : -719162<=days) (h1:days<=2932896):bef (yrOf days)<=days+719162/\days+719162<bef (yrOf days+1):=by
 refine Zj 60 _ _ (iS om) ?_;have:=X5 (n:=days+719162) om om;simp;omega
def aI (y:Int) : ∀ (k:Nat) (m r:Int),1<=m->m+k=13->0<=r->cum y m+r<365+lp y ->
  1<=(moUp k y m r).1/\(moUp k y m r).1<=12/\0<=(moUp k y m r).2/\(moUp k y m r).2<mlen y (moUp k y m r).1/\cum y (moUp k y m r).1+(moUp k y m r).2=cum y m+r
 | 0,m,r,h1,h2,h3,h4=>by
  have:m=13:=by simpa using h2
  subst this;rw[mV] at h4;omega
 | k+1,m,r,h1,h2,h3,h4=>by
  simp only[Int.natCast_add,Int.cast_ofNat_Int] at h2;have hs:=O3 (y:=y) (m:=m) h1 om;simp only[moUp];split
  .rename_i h;have ih:=aI y k (m+1) (r-mlen y m) om om om om;omega
  .exact⟨h1,by omega,h3,by show r<mlen y m;omega,rfl⟩
def O0 {days:Int}(h0 : -719162<=days) (h1:days<=2932896) :
  Db (De days).1 (De days).2.1 (De days).2.2=true/\num (De days).1 (De days).2.1 (De days).2.2=days:=by
 have hy:=Zk h0 h1;have hs:=M9 (yrOf days);have hm:=aI (yrOf days) 12 1 (days+719162-bef (yrOf days)) om om om (by rw[jL];omega);rw[jL] at hm;rw[E8];have y1:1<=yrOf days:=by
  rcases Int.lt_or_le (yrOf days) 1 with c | c
  .have:=Le (a:=yrOf days+1) (b:=1) om;rw[bef_1] at this;omega
  .exact c
 have y2:yrOf days<=9999:=by
  rcases Int.lt_or_le 9999 (yrOf days) with c | c
  .have:=Le (a:=10000) (b:=yrOf days) om;rw[Iq] at this;omega
  .exact c
 unfold De num;dsimp only;refine⟨⟨y1,y2,hm.1,hm.2.1,by omega,by omega⟩,by omega⟩
def mU {y m d:Int}(h:Db y m d=true):De (num y m d)=(y,m,d):=by
 have hb:=Tp h;have hs:=O0 hb.1 hb.2;obtain⟨a,b,c⟩:=num_inj hs.1 h hs.2;ext <;> simp[a,b,c]
def uD {days y m d:Int}(h:Db y m d=true) (hn:num y m d=days):De days=(y,m,d):=by
 rw[<-hn];exact mU h
def wd (n:Int):Int:=(n+4)%7
def wd_bd (n:Int):0<=wd n/\wd n<=6:=by unfold wd;omega
def Zp (n:Int):n.tmod 7=if 0<=n then n%7 else -((-n)%7):=by
 split
 .rename_i h;exact Int.tmod_eq_emod_of_nonneg h
 .rename_i h;have:n = - (-n):=by omega
  rw[this,Int.neg_tmod,Int.tmod_eq_emod_of_nonneg om];simp
def wd_go (n:Int):(((n.tmod 7+4).tmod 7)+7).tmod 7=wd n:=by
 simp only[Zp,wd];repeat' split
 all_goals omega
end Civ
end Go.Proofs.YtfcecekilahfiaaGreatDoor
namespace Go.Proofs.YtfcecekilahfiaaGreatDoor
def wi (n a b:Int):Bool:=decide (a<=n)&&decide (n<=b)
end Go.Proofs.YtfcecekilahfiaaGreatDoor
end
namespace Go.Proofs.YtfcecekilahfiaaGreatDoor
open Go.Ab
variable {h:AH}{a0 a1 a2 a3 a4 a5 c0:AV}{f1 f2:Bool}{d0 e0:Ent}{n:Int}{k:Nat}
section
open Civ
def letB (n:Int):Bool:=decide (97<=n/\n<=122\/65<=n/\n<=90)
def digB (n:Int):Bool:=decide (48<=n/\n<=57)
def Ec (n:Int):Bool:=letB n||digB n||n==43||n==45
def allB (p:Int->Bool) (s:ByteArray):Bool:=s.data.toList.all λc=>p c.toNat
def eN {p:Int->Bool}{s:ByteArray}(hk:k<s.size) (h:p s[k].toNat=false):allB p s=false:=by
 unfold allB;rw[List.all_eq_false];refine⟨s[k],?_,by simpa using h⟩;have:s[k]=s.data.toList[k]'(by simpa using hk):=rfl;rw[this];exact List.getElem_mem _
def Yy {p:Int->Bool}{s:ByteArray}(h : ∀ k (hk:k<s.size),p s[k].toNat=true):allB p s=true:=by
 unfold allB;rw[List.all_eq_true];intro x hx;obtain⟨i,hi,rfl⟩:=List.getElem_of_mem hx;exact h i (by simpa using hi)
abbrev Loc:=Int×Int×ByteArray
abbrev Chg:=Int×Loc
abbrev Tab:=Loc×List Chg
def locE (l:Loc):Int :=
 if ¬(-75600<=l.1/\l.1<=75600)\/¬(0<=l.2.1/\l.2.1<=10800) then 3
 else if l.2.2.size=0\/24<l.2.2.size\/allB Ec l.2.2=false then 1 else 0
def Gj (a:Int):Bool:=wi a (-62135596800) 253402300799
def aM (a b:Loc):Bool:=a.1==b.1&&(a.2.1==b.2.1&&a.2.2.toList==b.2.2.toList)
def uK {a b:ByteArray}:a.toList=b.toList↔a=b:=by
 constructor
 .intro h;rw[ByteArray.toList_eq,ByteArray.toList_eq] at h;obtain⟨⟨x⟩⟩:=a;obtain⟨⟨y⟩⟩:=b;simpa using h
 .intro h;rw[h]
def P0 {a b:Loc}:aM a b=true↔a=b:=by
 obtain⟨a1,a2,a3⟩:=a;obtain⟨b1,b2,b3⟩:=b;unfold aM;simp[uK]
def Sl {a b:Loc}(h:a≠b):aM a b=false:=by rw[<-Bool.not_eq_true];exact λe=>h (P0.1 e)
def chk:Int->Loc->List Chg->Int
 | _,_,[]=>0
 | a,l,c::cs=>if Gj c.1=false then 3 else if c.1<=a then 4 else if locE c.2≠0 then locE c.2 else if aM c.2 l=true then 4 else chk c.1 c.2 cs
def Bw (t:Tab):Int:=if 1000<t.2.length then 2 else if locE t.1≠0 then locE t.1 else chk (-62135596801) t.1 t.2
def Nm {l:Loc}(h:locE l=0):(-75600<=l.1/\l.1<=75600)/\(0<=l.2.1/\l.2.1<=10800)/\0<l.2.2.size/\l.2.2.size<=24/\allB Ec l.2.2=true:=by
 unfold locE at h;split at h
 .omega
 .split at h
  .omega
  .rename_i h1 h2;have:allB Ec l.2.2=true:=by
    cases ha:allB Ec l.2.2
    .exact absurd (.inr (.inr ha)) h2
    .rfl
   exact⟨by omega,by omega,by omega,by omega,this⟩
def Tg {a:Int}:Gj a=true ↔ -62135596800<=a/\a<=253402300799:=by unfold Gj wi;simp
def qG (a:Int) (l:Loc):chk a l []=0:=rfl
def L2 {a:Int}{l:Loc}{c:Chg}{cs:List Chg}(h1:Gj c.1=true) (h2:a<c.1) (h3:locE c.2=0) (h4:aM c.2 l=false):chk a l (c::cs)=chk c.1 c.2 cs:=by
 rw[chk,if_neg (by rw[h1];simp),if_neg om,if_neg (by simp[h3]),if_neg (by rw[h4];simp)]
def Yq {a:Int}{l:Loc}{c:Chg}{cs:List Chg}(h1:Gj c.1=false):chk a l (c::cs)=3:=by
 rw[chk,if_pos h1]
def Yp {a:Int}{l:Loc}{c:Chg}{cs:List Chg}(h1:Gj c.1=true) (h2:c.1<=a):chk a l (c::cs)=4:=by
 rw[chk,if_neg (by rw[h1];simp),if_pos h2]
def Rb {a:Int}{l:Loc}{c:Chg}{cs:List Chg}(h1:Gj c.1=true) (h2:a<c.1) (h3:locE c.2≠0):chk a l (c::cs)=locE c.2:=by
 rw[chk,if_neg (by rw[h1];simp),if_neg om,if_pos h3]
def Ra {a:Int}{l:Loc}{c:Chg}{cs:List Chg}(h1:Gj c.1=true) (h2:a<c.1) (h3:locE c.2=0) (h4:aM c.2 l=true):chk a l (c::cs)=4:=by
 rw[chk,if_neg (by rw[h1];simp),if_neg om,if_neg (by simp[h3]),if_pos h4]
end
open Go.Ab
variable {l m:List Chg}
section
open Go.Ab Civ
section
def Bv {l:List AV}:(a0::a1::a2::a3::l).take 4=[a0,a1,a2,a3]:=rfl
def Hz {a0 b0:Int}{a1 b1:Int}{a2 b2:Int}{a3 b3:ByteArray}:Ei [.int,.int,.int,.str] [iv a0,iv a1,iv a2,sv a3] [iv b0,iv b1,iv b2,sv b3]=some (decide (a0=b0/\a1=b1/\a2=b2/\a3=b3)):=by
 simp only[Ei,K7,if_true,Ko,Option.some.injEq];simp only[Bool.decide_and,Bool.and_true];try (congr 1 <;> simp)
 try rfl
end
def c93:AC:=(Sr [Mc 4 0] (Sr [Mc 5 0] (.seq (.block 0 (.loop (.seq (Sd [Mv 6 5,Mv 7 0,Oo 8 (.len false (t 7)),Bn 9 .lss 6 8,Mv 10 9,Ot 11 10 (mt 5),Ot 12 10 (mt 1),Ot 13 10 (.len false (t 12)),Ot 14 10 (.bin .lss (t 11) (t 13)),Oo 15 (.pick (t 10) (t 14) (.const (.bool false))),Mv 16 15,Ot 17 16 (mt 0),Ot 18 16 (mt 5),Ot 19 16 (.ia 4 (t 17) (t 18)),Ot 20 16 (.load true 4 (t 19)),Ot 21 16 (mt 1),Ot 22 16 (mt 5),Ot 23 16 (.ia 4 (t 21) (t 22)),Ot 24 16 (.load true 4 (t 23)),Ot 25 16 (.eqs false [.int,.int,.int,.str] (t 20) (t 24)),Oo 26 (.pick (t 16) (t 25) (.const (.bool false)))] (Cd 26 .skip (.exit 0))) (.block 1 (.reg [Mv 27 5,Bc 28 .add 27 1,Mv 5 28]))))) (Sr [Mv 29 5,Mv 4 29] .ret))))
def k93:Em Tryz.prog 93=some ⟨c93,[(.tmp 4)],30⟩:=by kernel_rfl
abbrev chgC (c:Chg):List AV:=[iv c.1,iv c.2.1,iv c.2.2.1,sv c.2.2.2]
def Cp {n:Nat}(l:List Chg):AV.ltL n (rows chgC l)=true:=Eh (λ_ _=>rfl) l
attribute [local simp] Cp
def M7 (l:List Chg):(rows chgC l).all leaf=true:=Jg (λ_=>rfl) l
def Cg : ∀ x,(chgC x).length=4:=λ_=>rfl
def Cu (l:List Chg):(rows chgC l).length=l.length*4:=C9 Cg l
abbrev chS (l:List Chg):AV:=.sl l.length 4 false (rows chgC l)
abbrev tabA (t:Tab):AV:=.agg [iv t.1.1,iv t.1.2.1,sv t.1.2.2,chS t.2]
abbrev chFr (l:List Chg):AV:=.fs l.length 4 (rows chgC l)
abbrev N9 (t:Tab):AV:=.agg [iv t.1.1,iv t.1.2.1,sv t.1.2.2,chFr t.2]
def Is {t:Tab}:Wk (N9 t) (tabA t):=Wk.agg (wk1 rfl (wk1 rfl (wk1 rfl (wkw Wk.fs wk0))))
def com:List Chg->List Chg->Nat
 | a::l,b::m=>if a=b then com l m+1 else 0
 | _,_=>0
def mX : ∀ l m,com l m<=l.length/\com l m<=m.length
 | a::l,b::m=>by
  have:=mX l m;unfold com;split <;> simp <;> omega
 | [],_=>by simp[com]
 | _::_,[]=>by simp[com]
def Yo (h1:k<l.length) (h2:k<m.length) (h:l[k]=m[k]):com (l.drop k) (m.drop k)=com (l.drop (k+1)) (m.drop (k+1))+1:=by
 rw[List.drop_eq_getElem_cons h1,List.drop_eq_getElem_cons h2,com,if_pos h]
def I9 (h1:k<l.length) (h2:k<m.length) (h:l[k]≠m[k]):com (l.drop k) (m.drop k)=0:=by
 rw[List.drop_eq_getElem_cons h1,List.drop_eq_getElem_cons h2,com,if_neg h]
def Kf (h:l.length<=k\/m.length<=k):com (l.drop k) (m.drop k)=0:=by
 rcases h with h | h
 .rw[List.drop_eq_nil_of_le h];rfl
 rw[List.drop_eq_nil_of_le h];cases l.drop k <;> rfl
def Sz {a b:Chg}(h:a.1=b.1/\a.2.1=b.2.1/\a.2.2.1=b.2.2.1/\a.2.2.2=b.2.2.2):a=b:=by
 obtain⟨a1,a2,a3,a4⟩:=a;obtain⟨b1,b2,b3,b4⟩:=b;simp at h ⊢;exact h
def common_a (l m:List Chg) (h:AH):Ac 93 [chS l,chS m] h (iv (com l m)):=by
 refine tI' k93 λN hn _ _ hbd=>?_;simp only[tb'] at hbd ⊢;refine wk'<|wk'<|Ab<|Ah<|?_;refine w_lp (ι:=Nat) (λ(k:Nat)=>[(5,iv (k:Int))]++rn' 6 23) (λ(k:Nat)=>[]) (λ(k:Nat)=>k<=l.length/\k<=m.length/\com l m=k+com (l.drop k) (m.drop k)) (λ(k:Nat)=>l.length-k) (0) (by refine⟨by omega,by omega,by simp⟩) ?_;rintro k hi1;try simp only[sm',Nat.reduceAdd]
 obtain⟨hk1,hk2,hkc⟩:=hi1;refine Ab<|Ab<|Bl<|Dw vm<|Dw vm<|Dw (Bf lk)<|Dw (Bm lk lk)<|Dw vm<|?_;refine dq' (t:=10) gt pt pt (λhg10=>?_) (λhg10=>?_)
 .refine dO<|Dw vm<|dO<|Dw vm<|dO<|Dw (Bf lk)<|dO<|Dw (Bm lk lk)<|Dw (Ar lk lk)<|Dw vm<|?_;refine dq' (t:=16) gt pt pt (λhg16=>?_) (λhg16=>?_)
  .refine dO<|Dw vm<|dO<|Dw vm<|dO<|?_;refine D' (Bh lk lk (λ_=>rfl) nb ro om ro rfl) pt ?_;refine dO<|Dw (Ax lk Bv rfl)<|dO<|Dw vm<|dO<|Dw vm<|dO<|?_;refine D' (Bh lk lk (λ_=>rfl) nb ro om ro rfl) pt ?_;refine dO<|Dw (Ax lk Bv rfl)<|dO<|Dw (Nc lk lk Hz)<|Dw (Ar lk lk)<|Bi<|?_;refine B9 ?_;refine sn' ?_;refine cd' lk (λhc1=>?_) (λhc1=>?_)
   .refine za<|Ah<|Aq<|mw<|?_;refine ad<|mw<|Am<|Aw<|Az<|?_;refine lT' (k+1) (by (try dsimp only);refine⟨by omega,by omega,?_⟩;rw[hkc,Yo om om (Sz hc1)];omega)
   refine Bd<|As<|As<|Bp<|An<|wm<|mr<|Ad rz<|rT'<|?_;congr 2;first | (rw[hkc,Kf om];simp;done) | (rw[hkc,I9 om om (λe=>hc1 (by rw[e];simp))];simp;done)
  refine dn<|dn<|dn<|dn<|dn<|dn<|dn<|dn<|dn<|Dw (Ao lk lkb)<|Bi<|?_;refine B9 ?_;refine sn'<|Cf lk<|Bd<|As<|As<|Bp<|An<|wm<|ms<|?_;refine C4<|Ad rz<|rT'<|?_;congr 2;first | (rw[hkc,Kf om];simp;done) | (rw[hkc,I9 om om (λe=>hc1 (by rw[e];simp))];simp;done)
 refine dn<|dn<|dn<|dn<|Dw (Ao lk lkb)<|Dw vm<|dn<|dn<|dn<|dn<|dn<|dn<|dn<|dn<|?_;refine dn<|Dw (Ao lk lkb)<|Bi<|?_;refine B9 ?_;refine sn'<|Cf lk<|Bd<|As<|As<|Bp<|An<|wm<|ms<|?_;refine C4<|Ad rz<|rT'<|?_;congr 2;first | (rw[hkc,Kf om];simp;done) | (rw[hkc,I9 om om (λe=>hc1 (by rw[e];simp))];simp;done)
def bF (hk:com l m=k):Ac 93 [.sl l.length 4 f1 (rows chgC l),.sl m.length 4 f2 (rows chgC m)] h (iv (k:Int)):=by
 subst hk;exact ACalls.wk (wkw Wk.full (wkw Wk.full wk0)) (common_a l m h)
end
section
open Go.Ab Civ
def k124:=Kx 124 []
def k127:=Kx 127 []
def k219:=Kx 219 []
def k125:=Kx 125 []
def k141:=Kx 141 []
def k138:=Kx 138 []
def k154:=Kx 154 []
def k155:=Kx 155 []
def k142:=Kx 142 []
def k200:=Kx 200 []
def k76:=Kx 76 []
def k116:=Kx 116 []
def k73:=Kx 73 []
def k75:=Kx 75 []
abbrev uv (n:Int):AV:=.v (.int .u8 n)
def bvx {a b:Bool}(h:a=b):bv a=bv b:=by rw[h]
def Sm :Ac 124 [uv n] h (bv (letB n)):=by
 refine tI' k124 λN hn _ _ hbd=>?_;simp only[tb'] at hbd ⊢;refine wk'<|wm<|Vw (Gz lk lki)<|mw<|?_;refine sp' (t:=5) gt pt pt (λhg5=>?_) (λhg5=>?_)
 .refine sd<|mw<|sd<|Vw (Gy lk lki)<|Vw (Ar lk lk)<|mw<|?_;refine sp' (t:=9) gt pt pt (λhg9=>?_) (λhg9=>?_)
  .refine so<|so<|so<|s_nu gt pt<|s_nu gt pt<|so<|Vw (Ar lk lkb)<|mr<|Ad rz<|rT'<|?_;refine bvx ?_;unfold letB;rw[Bool.eq_iff_iff];simp;omega
  refine sd<|mw<|sd<|Vw (Gz lk lki)<|sd<|mw<|?_;refine sp' (t:=12) gt pt pt (λhg12=>?_) (λhg12=>?_)
  .refine sd<|mw<|sd<|Vw (Gy lk lki)<|sd<|Vw (Ar lk lk)<|Vw (Ao lk lk)<|mr<|Ad rz<|rT'<|?_;refine bvx ?_;unfold letB;rw[Bool.eq_iff_iff];simp;omega
  refine so<|so<|sd<|Vw (Ao lk lkb)<|Vw (Ao lk lk)<|mr<|Ad rz<|rT'<|?_;refine bvx ?_;unfold letB;rw[Bool.eq_iff_iff];simp;omega
 refine so<|so<|Vw (Ao lk lkb)<|mw<|sd<|mw<|sd<|Vw (Gz lk lki)<|sd<|mw<|?_;refine sp' (t:=12) gt pt pt (λhg12=>?_) (λhg12=>?_)
 .refine sd<|mw<|sd<|Vw (Gy lk lki)<|sd<|Vw (Ar lk lk)<|Vw (Ao lk lk)<|mr<|Ad rz<|rT'<|?_;refine bvx ?_;unfold letB;rw[Bool.eq_iff_iff];simp;omega
 refine so<|so<|sd<|Vw (Ao lk lkb)<|Vw (Ao lk lk)<|mr<|Ad rz<|rT'<|?_;refine bvx ?_;unfold letB;rw[Bool.eq_iff_iff];simp;omega
def pX :Ac 127 [uv n] h (bv (digB n)):=by
 refine tI' k127 λN hn _ _ hbd=>?_;simp only[tb'] at hbd ⊢;refine wk'<|wm<|Vw (Gz lk lki)<|mw<|?_;refine sp' (t:=5) gt pt pt (λhg5=>?_) (λhg5=>?_)
 .refine sd<|mw<|sd<|Vw (Gy lk lki)<|Vw (Ar lk lk)<|mr<|Ad rz<|rT'<|?_;refine bvx ?_;unfold digB;rw[Bool.eq_iff_iff];simp;omega
 refine so<|so<|Vw (Ao lk lkb)<|mr<|Ad rz<|rT'<|?_;refine bvx ?_;unfold digB;rw[Bool.eq_iff_iff];simp;omega
def plain1_a :Ac 219 [uv n] h (bv (Ec n)):=by
 refine tI' k219 λN hn _ _ hbd=>?_;simp only[tb'] at hbd ⊢;refine wk'<|wm<|Af mp (Sm) pt<|mw<|?_;refine Cz (t:=5) gt pt pt (λhg5=>?_) (λhg5=>?_)
 .refine so<|so<|Vw (Ar lk lkb)<|mw<|so<|so<|Vw (Ar lk lkb)<|mw<|so<|so<|Vw (Ar lk lkb)<|ms<|?_;refine C4<|Ad rz<|rT'<|?_;refine bvx ?_;unfold Ec;rw[Bool.eq_iff_iff];simp_all
 refine sd<|mw<|sd<|Af mp (pX) pt<|Vw (Ao lk lk)<|mw<|?_;refine Cz (t:=9) gt pt pt (λhg9=>?_) (λhg9=>?_)
 .refine so<|so<|Vw (Ar lk lkb)<|mw<|so<|so<|Vw (Ar lk lkb)<|mr<|Ad rz<|rT'<|?_;refine bvx ?_;unfold Ec;rw[Bool.eq_iff_iff];simp_all
 refine sd<|mw<|sd<|Vw (Cy lk lki)<|Vw (Ao lk lk)<|mw<|?_;refine sp' (t:=13) gt pt pt (λhg13=>?_) (λhg13=>?_)
 .refine so<|so<|Vw (Ar lk lkb)<|mr<|Ad rz<|rT'<|?_;refine bvx ?_;unfold Ec;rw[Bool.eq_iff_iff];simp_all
 refine sd<|mw<|sd<|Vw (Cy lk lki)<|Vw (Ao lk lk)<|mr<|Ad rz<|rT'<|?_;refine bvx ?_;unfold Ec;rw[Bool.eq_iff_iff];simp_all
def all_a {p:Int->Bool}{f:FuncId}(hp : ∀ (n:Int) (h:AH),ACalls Tryz.prog f [uv n] h λx h'=>h'=h/\x=.ret (bv (p n))) {s:ByteArray}(hs:s.size<=maxLen)  :
  Ac 125 [sv s,.v (.func (.func f) #[] #[])] h (bv (allB p s)):=by
 have hm:s.size<=9223372036854775807:=by simpa [maxLen] using hs
 refine tI' k125 λN hn _ _ hbd=>?_;simp only[tb'] at hbd ⊢;refine wk'<|Ab<|wm<|Vw (E6 lk)<|ms<|Ah<|?_;refine w_lp (ι:=Nat) (λ(k:Nat)=>[(8,iv (k:Int)),(4,.any),(5,.any)]++rn' 9 9) (λ(k:Nat)=>[]) (λ(k:Nat)=>k<=s.size /\ ∀ j (hj:j<s.size),j<k->p s[j].toNat=true) (λ(k:Nat)=>s.size-k) (0) (by exact⟨by omega,λj hj h0=>absurd h0 om⟩) ?_;rintro k hi1;try simp only[sm',Nat.reduceAdd]
 obtain⟨hk1,hk2⟩:=hi1;refine wr'<|Vw (Bm lk lk)<|sn'<|Ab<|?_;refine cd' lk (λhc1=>?_) (λhc1=>?_)
 .refine za<|Ab<|Ah<|wm<|ms<|wm<|mw<|?_;refine mv' lk pt ?_;refine V' (v_ix lk lk om om) pt ?_;refine Nh lk mp (hp _ _) pt<|Vw (Bj lk)<|sn'<|?_;rw[Ji om] at *;refine Bg lk (λhc2=>?_) (λhc2=>?_)
  .refine wo<|Au<|Ag<|Ag<|Au<|Ag<|Ad rz<|rT'<|?_;refine bvx ?_;rw[eN (k:=k) om (by simpa [Ji (show k<s.size by omega)] using hc2)]
  refine Be<|Aw<|An<|Aq<|?_;refine ad<|mw<|Am<|Az<|?_;refine lT' (k+1) (by (try dsimp only);refine⟨by omega,λj hj h0=>?_⟩;by_cases e:j=k;subst e;simpa [Ji hj] using hc2;exact hk2 j hj om)
 refine Bd<|As<|As<|Bp<|An<|wo<|Ad rz<|rT'<|?_;refine bvx ?_;rw[Yy λj hj=>hk2 j hj om]
def R6 {s:ByteArray}(hs:s.size<=maxLen:=by first | assumption | omega):Ac 141 [sv s] h (bv (allB Ec s)):=by
 refine tI' k141 λN hn _ _ hbd=>?_;simp only[tb'] at hbd ⊢;refine wk'<|wm<|?_;refine Af mp (all_a (λ_ _=>plain1_a) hs) pt ?_;exact mr<|Ad rz<|rT' rfl
def Wl {a b:Int}:Ac 138 [iv n,iv a,iv b] h (bv (wi n a b)):=by
 refine tI' k138 λN hn _ _ hbd=>?_;simp only[tb'] at hbd ⊢;refine wk'<|wm<|mw<|Vw (Gz lk lk)<|mw<|?_;refine sp' (t:=10) gt pt pt (λhg10=>?_) (λhg10=>?_)
 .refine sd<|mw<|sd<|mw<|sd<|Vw (Gy lk lk)<|Vw (Ar lk lk)<|mr<|Ad rz<|rT'<|?_;refine bvx ?_;unfold wi;rw[Bool.eq_iff_iff];simp;omega
 refine so<|so<|so<|Vw (Ao lk lkb)<|mr<|Ad rz<|rT'<|?_;refine bvx ?_;unfold wi;rw[Bool.eq_iff_iff];simp;omega
def O7 {y:Int}(h0:1<=y) (h1:y<=20000):Ac 154 [iv y] h (iv (bef y)):=by
 refine tI' k154 λN hn _ _ hbd=>?_;simp only[tb'] at hbd ⊢;refine wk'<|wm<|?_;refine V' (Ch lk lki om om) pt ?_;refine ms<|wm<|?_;refine V' (J8 lki lk om om) pt ?_;refine mv' lk pt ?_;refine V' (Mj lk lki om om om) pt ?_;refine V' (Du lk lk om om) pt ?_;refine mv' lk pt ?_;refine V' (Mj lk lki om om om) pt ?_;refine V' (Ch lk lk om om) pt ?_;refine mv' lk pt ?_;refine V' (Mj lk lki om om om) pt ?_;refine V' (Du lk lk om om) pt ?_;refine mr<|Ad rz<|rT'<|?_;unfold bef;rfl
def V9 :Ac 155 [] h (iv 719162):=by
 refine tI' k155 λN hn _ _ hbd=>?_;simp only[tb'] at hbd ⊢;refine wk'<|wr'<|?_;refine Af mp (O7 (by first | assumption | omega) (by first | assumption | omega)) pt ?_;refine mr<|Ad rz<|rT'<|?_;rw[bef_1970]
def pM :Ac 142 [] h (iv (-719162)):=by
 refine tI' k142 λN hn _ _ hbd=>?_;simp only[tb'] at hbd ⊢;refine wk'<|wr'<|Af mp0 (V9) pt<|?_;refine V' (v_neg lk om om) pt ?_;exact mr<|Ad rz<|rT' rfl
def last_a :Ac 200 [] h (iv 2932896):=by
 refine tI' k200 λN hn _ _ hbd=>?_;simp only[tb'] at hbd ⊢;refine wk'<|wr'<|?_;refine Af mp (O7 om om) pt ?_;refine Af mp0 (V9) pt ?_;refine V' (Ch lk lk (by rw[Iq];omega) (by rw[Iq];omega)) pt ?_;refine V' (Ch lk lki (by rw[Iq];omega) (by rw[Iq];omega)) pt ?_;refine mr<|Ad rz<|rT'<|?_;rw[Iq];rfl
def dJ :Ac 76 [] h (iv (-62135596800)):=by
 refine tI' k76 λN hn _ _ hbd=>?_;simp only[tb'] at hbd ⊢;refine wk'<|wr'<|Af mp0 (pM) pt<|?_;refine V' (J8 lk lki om om) pt ?_;exact mr<|Ad rz<|rT' rfl
def most_a :Ac 116 [] h (iv 253402300799):=by
 refine tI' k116 λN hn _ _ hbd=>?_;simp only[tb'] at hbd ⊢;refine wk'<|wr'<|Af mp0 (last_a) pt<|?_;refine ad<|V' (J8 lk lki om om) pt ?_;refine V' (Ch lk lki om om) pt ?_;exact mr<|Ad rz<|rT' rfl
def kX :Ac 73 [iv n] h (bv (Gj n)):=by
 refine tI' k73 λN hn _ _ hbd=>?_;simp only[tb'] at hbd ⊢;refine wk'<|wm<|Af mp0 (dJ) pt<|Af mp0 (most_a) pt<|Af mp (Wl) pt<|ms<|?_;exact C4<|Ad rz<|rT' rfl
def dH {a b:Int}{s:ByteArray}(hs:s.size<=maxLen:=by first | assumption | omega):Ac 75 [.agg [iv a,iv b,sv s]] h (iv (locE (a,b,s))):=by
 refine tI' k75 λN hn _ _ hbd=>?_;simp only[tb'] at hbd ⊢;refine wr'<|E' (Bq cv rfl hl0 ha0) pt<|ms<|Ab<|Ah<|wr'<|fq<|Vw (Aa lk gx gt0)<|Af mp (Wl) pt<|Vw (Bj lk)<|?_;refine mv' lk pt ?_;refine Cz (t:=8) gt pt pt (λhg8=>?_) (λhg8=>?_)
 .refine so<|so<|so<|so<|Vw (Ar lk lkb)<|ms<|Cx lk<|wk'<|?_;refine C4<|Au<|Ag<|Ad rz<|rT'<|?_;refine ivx ?_;unfold locE;simp_all [wi];try omega
 refine sd<|fq<|sd<|Vw (Aa lk gx gt1)<|sd<|Af mp (Wl) pt<|sd<|Vw (Bj lk)<|Vw (Ao lk lk)<|ms<|?_;refine Bg lk (λhc1=>?_) (λhc1=>?_)
 .refine wo<|Au<|Ag<|Ad rz<|rT'<|?_;refine ivx ?_;unfold locE;simp_all [wi];try omega
 refine wr'<|fq<|Vw (Aa lk gx gt2)<|Vw (v_eqlE lk)<|mw<|?_;refine sp' (t:=18) gt pt pt (λhg18=>?_) (λhg18=>?_)
 .refine so<|so<|so<|so<|Vw (Ar lk lkb)<|mw<|so<|so<|so<|so<|Vw (Ar lk lkb)<|ms<|?_;refine Cx lk<|wo<|Au<|Ag<|Ad rz<|rT'<|?_;refine ivx ?_;unfold locE;simp_all [wi];try omega
 refine sd<|fq<|sd<|Vw (Aa lk gx gt2)<|sd<|Vw (E6 lk)<|sd<|Vw (C7 lk lki)<|Vw (Ao lk lk)<|mw<|?_;refine sp' (t:=24) gt pt pt (λhg24=>?_) (λhg24=>?_)
 .refine so<|so<|so<|so<|Vw (Ar lk lkb)<|ms<|Cx lk<|wk'<|?_;refine C4<|Au<|Ag<|Ad rz<|rT'<|?_;refine ivx ?_;unfold locE;simp_all [wi];try omega
 refine sd<|fq<|sd<|Vw (Aa lk gx gt2)<|sd<|Af mp (R6) pt<|sd<|Vw (Bj lk)<|Vw (Ao lk lk)<|ms<|?_;refine Bg lk (λhc2=>?_) (λhc2=>?_)
 .refine wo<|Au<|Ag<|Ad rz<|rT'<|?_;refine ivx ?_;unfold locE;simp_all [wi];try omega
 refine Be<|Aw<|An<|wo<|Ad rz<|rT'<|?_;refine ivx ?_;unfold locE;simp_all [wi];try omega
end
section
open Go.Ab Civ
attribute [local simp] Cp
section
def Ap {l:List AV}:((a0::a1::a2::l).drop 0).take 3=[a0,a1,a2]:=rfl
def Eo {τ:Operand->AV}{y0 y1:Operand}{a b c d:AV}(h0:Lf τ y0 [a])(h1:Lf τ y1 [b,c,d]):Cm τ [(0,1,y0),(1,3,y1)] [(iv 0),(iv 0),(iv 0),(.v (.string ⟨#[]⟩))]=some [a,b,c,d]:=fl h0<|fl h1 rfl
def B2 { e:Ent}:([]:AH)++[e]=[e]:=rfl
def J4 :([e0]:AH)++[d0]=[e0,d0]:=rfl
def Ay {c1 c2 c3:AV}{l:List AV}:setCells (a0::a1::a2::a3::l) 0 [c0,c1,c2,c3]=c0::c1::c2::c3::l:=rfl
def Dj {l:List AV}:((a0::a1::a2::a3::l).drop 1).take 3=[a1,a2,a3]:=rfl
def Ft {a0 b0:Int}{a1 b1:Int}{a2 b2:ByteArray}:Ei [.int,.int,.str] [iv a0,iv a1,sv a2] [iv b0,iv b1,sv b2]=some (decide (a0=b0/\a1=b1/\a2=b2)):=by
 simp only[Ei,K7,if_true,Ko,Option.some.injEq];simp only[Bool.decide_and,Bool.and_true];try (congr 1 <;> simp)
 try rfl
def Av {l:List AV}:((a0::a1::a2::a3::l).drop 0).take 4=[a0,a1,a2,a3]:=rfl
end
def c35:AC:=(Sr [Oo 1 (.box 30 4 (t 0)),Mc 2 0] (.seq (Sr [Fa 8 3 1,Ld 9 8,Oo 10 (.len false (t 9)),Bc 11 .gtr 10 1000] (Cd 11 (Sr [Mc 2 2] .ret) .skip)) (.seq (Sr [Fa 12 0 1,Oo 13 (.load true 3 (t 12)),Cl 14 75 [(t 13)],Mv 3 14] (Sr [Mv 15 3,Bc 16 .neq 15 0] (Cd 16 (Sr [Mv 17 3,Mv 2 17] .ret) .skip))) (.seq (.drw [Cl 18 76 [],Bc 19 .sub 18 1,Fa 20 0 1,Oo 21 (.load true 3 (t 20)),Oo 22 (.build [(iv 0),(iv 0),(iv 0),Ss] [(0,(1,(t 19))),(1,(3,(t 21)))]),Oo 4 (.new 86 4 [(iv 0),(iv 0),(iv 0),Ss])] [false] [⟨none,none,(.store 4 (t 4) (t 22))⟩]) (.seq (Sr [Fa 23 3 1,Ld 24 23,Oo 25 (.len false (t 24)),Mc 26 0] (.block 0 (.loop (Sr [Bn 27 .lss 26 25] (.seq (Cd 27 .skip (.exit 0)) (.seq (.block 1 (Sr [Oo 28 (.ia 4 (t 24) (t 26)),Oo 29 (.load true 4 (t 28)),Oo 6 (.new 86 4 [(iv 0),(iv 0),(iv 0),Ss]),⟨none,none,(.store 4 (t 6) (t 29))⟩] (.seq (.block 2 (Sr [Fa 31 0 6,Ld 32 31,Cl 33 73 [(t 32)],Oo 34 (.un .not (t 33)),Mv 30 34] (Cd 30 (Sr [Mc 2 3] .ret) (Sr [Fa 36 0 6,Ld 37 36,Fa 38 0 4,Ld 39 38,Bn 40 .leq 37 39,Mv 35 40] (Cd 35 (Sr [Mc 2 4] .ret) .skip))))) (.seq (Sr [Fa 41 1 6,Oo 42 (.load true 3 (t 41)),Cl 43 75 [(t 42)],Mv 7 43] (Sr [Mv 44 7,Bc 45 .neq 44 0] (Cd 45 (Sr [Mv 46 7,Mv 2 46] .ret) .skip))) (.seq (Sr [Fa 47 1 6,Oo 48 (.load true 3 (t 47)),Fa 49 1 4,Oo 50 (.load true 3 (t 49)),Oo 51 (.eqs false [.int,.int,.str] (t 48) (t 50))] (Cd 51 (Sr [Mc 2 4] .ret) .skip)) (.reg [Oo 52 (.load true 4 (t 6)),⟨none,none,(.store 4 (t 4) (t 52))⟩])))))) (.reg [Bc 53 .add 26 1,Mv 26 53]))))))) (Sr [Mc 2 0] .ret))))))
def k35:Em Tryz.prog 35=some ⟨c35,[(.tmp 2)],54⟩:=by kernel_rfl
def Kg {a b:Int}{c:ByteArray}{full:Bool}(hs:c.size<=maxLen) (hl : ∀ x∈l,x.2.2.2.size<=maxLen) :
  Ac 35 [.agg [iv a,iv b,sv c,.sl l.length 4 full (rows chgC l)]] h (iv (Bw ((a,b,c),l))):=by
 refine tI' k35 λN hn hlt _ hbd=>?_;simp only[tb'] at hbd ⊢;refine wr'<|E' (Bq cv rfl hl0 ha0) pt<|ms<|Ab<|wr'<|fq<|Vw (Aa lk gx gt3)<|Vw (Bf lk)<|Vw (C7 lk lki)<|Am<|?_;refine An ?_;refine cd' lk (λhc1=>?_) (λhc1=>?_)
 .refine wo<|Ag<|Ad rz<|rT'<|?_;refine ivx ?_;rw[Bw,if_pos (by simp only;omega)]
 refine za<|Ab<|wr'<|fq<|Vw (Ak lk gx Ap rfl)<|Af mp (dH) pt<|ms<|wm<|?_;refine Vw (Ca lk lki)<|sn'<|?_;refine cd' lk (λhc2=>?_) (λhc2=>?_)
 .refine wm<|mr<|Ag<|Ad rz<|rT'<|?_;refine ivx ?_;rw[Bw,if_neg (by simp only;omega),if_pos hc2]
 refine za<|?_;have hE:Bw ((a,b,c),l)=chk (-62135596801) (a,b,c) l:=by rw[Bw,if_neg (by simp only;omega),if_neg (by simpa using hc2)]
 refine Ab<|Bl<|?_;refine Br mp0 (λhE hX=>dJ) pt ?_;refine D' (Ch lk lki om om) pt ?_;refine dg<|Dw (Ak lk gx Ap rfl)<|Dw (Bb (Eo cw cw))<|D5 rfl rfl (hlk hn rfl) (Lv) pt B2<|Bi<|?_;refine Eg J4 ?_;refine E' (Ai lk cv gx rfl nb rfl Ay hs1) ptn<|sn'<|Ab<|wr'<|fq<|Vw (Aa lk gx gt3)<|Vw (Bf lk)<|ms<|Ah<|?_;refine w_lp (ι:=Nat×Int×Int×Int×ByteArray) (λ⟨k,wa,ws,wv,wn⟩=>[(26,iv (k:Int)),(2,.any),(6,.any),(7,.any)]++rn' 27 27) (λ⟨k,wa,ws,wv,wn⟩=>[(1,.mk 0 86 4 [iv wa,iv ws,iv wv,sv wn])]) (λ⟨k,wa,ws,wv,wn⟩=>k<=l.length/\Bw ((a,b,c),l)=chk wa (ws,wv,wn) (l.drop k)) (λ⟨k,wa,ws,wv,wn⟩=>l.length-k) (⟨0,-62135596801,a,b,c⟩) (by exact⟨by omega,by rw[hE];simp⟩) ?_;rintro⟨k,wa,ws,wv,wn⟩ hi1;try simp only[sm',Nat.reduceAdd]
 obtain⟨hk1,hk2⟩:=hi1;refine wr'<|Vw (Bm lk lk)<|sn'<|Ab<|?_;refine cd' lk (λhc3=>?_) (λhc3=>?_)
 .have hk:k<l.length:=by omega
  have hsz:l[k].2.2.2.size<=maxLen:=hl _ (List.getElem_mem hk);rw[List.drop_eq_getElem_cons hk] at hk2;refine za<|Ab<|Ah<|wr'<|?_;refine V' (Bh lk lk (λ_=>rfl) nb ro om ro rfl) pt ?_;refine Vw (Ax lk Bv rfl)<|E' (Bz hl2 ha2) pt<|E' (Ai lk cv gx rfl nb rfl Ay hs2) ptn<|sn'<|Ab<|Ah<|wr'<|fq<|Vw (Aa lk gx gt0)<|Af mp (kX) pt<|Vw (Bj lk)<|mw<|?_;refine sn' ?_;refine Bg lk (λhc4=>?_) (λhc4=>?_)
  .refine wo<|Au<|Ag<|Au<|Ag<|Ag<|Au<|Ag<|Ad rz<|?_;refine rT' ?_;refine ivx ?_;rw[hk2,Yq (by simpa using hc4)]
  refine wr'<|fq<|Vw (Aa lk gx gt0)<|fq<|Vw (Aa lk gx gt0)<|Vw (Gy lk lk)<|ms<|?_;refine cd' lk (λhc5=>?_) (λhc5=>?_)
  .refine wo<|Au<|Ag<|Au<|Ag<|Ag<|Au<|Ag<|Ad rz<|?_;refine rT' ?_;refine ivx ?_;rw[hk2,Yp (by simpa using hc4) om]
  refine Be<|Aw<|An<|Ab<|wr'<|fq<|Vw (Ak lk gx Dj rfl)<|Af mp (dH) pt<|ms<|wr'<|?_;refine mw<|Vw (Ca lk lki)<|sn'<|?_;refine cd' lk (λhc6=>?_) (λhc6=>?_)
  .refine wm<|mr<|Ag<|Au<|Ag<|Ag<|Au<|Ag<|Ad rz<|?_;refine rT' ?_;refine ivx ?_;rw[hk2,Rb (by simpa using hc4) om hc6]
  refine za<|Ab<|wr'<|fq<|Vw (Ak lk gx Dj rfl)<|fq<|Vw (Ak lk gx Dj rfl)<|Vw (Nc lk lk Ft)<|sn'<|?_;refine cd' lk (λhc7=>?_) (λhc7=>?_)
  .refine wo<|Ag<|Au<|Ag<|Ag<|Au<|Ag<|Ad rz<|rT'<|?_;refine ivx ?_;rw[hk2,Ra (by simpa using hc4) om (by simpa using hc6) (P0.2 (by obtain⟨x1,x2,x3⟩:=hc7;exact Prod.ext x1 (Prod.ext x2 x3)))]
  refine za<|Aq<|Vw (Ak lk gx Av rfl)<|E' (Ai lk cv gx rfl nb rfl Ay hs1) ptn<|Am<|Aw<|An<|Aq<|?_;refine ad<|mw<|Am<|Az<|?_;refine lU' (⟨k+1,l[k].1,l[k].2.1,l[k].2.2.1,l[k].2.2.2⟩) (by (try dsimp only);exact⟨by omega,by rw[hk2,L2 (by simpa using hc4) om (by simpa using hc6) (Sl (λe=>hc7 (by rw[e];simp)))]⟩) (by refine zz ?_;exact bk' 2 hn hlt)
 refine Bd<|As<|As<|Bp<|An<|wo<|Ad rz<|rT'<|?_;refine ivx ?_;rw[hk2,List.drop_eq_nil_of_le om,qG]
end
section
open Go.Ab Civ
attribute [local simp] Cp
section
def F7 {τ:Operand->AV}:Cm τ [] []=some []:=rfl
end
def k92:=Kx 92 []
def k149:=Kx 149 [.e [] 13 [false,false,false]]
def k94:=Kx 94 []
def qE {full:Bool}(hl:l.length<=3000000000000):ACalls Tryz.prog 92 [.sl l.length 4 full (rows chgC l)] h λr h' => ∃ v,r=.ret (.own h.length v l.length)/\h'=h++[.mk v 86 4 (rows chgC l)]:=by
 refine tN' k92 λN hn _ _ hbd=>?_;simp only[tb'] at hbd ⊢;refine wk'<|Ab<|wm<|?_;refine s_eqn lk (λ_=>pt) (λbn3 hbn3=>?_);refine sn' ?_;refine cd' lk (λhc1=>?_) (λhc1=>?_)
 .refine wr'<|mv' lkn pt2<|Am<|B0 (ALe.own0 (d:=2) (st':=4) (ty:=86) rfl)<|C4<|Ag<|Ad (rs1 (rr_t gt2))<|?_;have h0:l=[]:=List.eq_nil_of_length_eq_zero ((Nat.eq_zero_or_pos _).resolve_right (λe=>by have:=hbn3 e;rw[hc1] at this;cases this));subst h0;exact⟨0,by simp,by simp[rows]⟩
 refine za<|wr'<|E' (Ep F7 hl0 ha0) pt<|mw<|?_;refine E' (C6 (Qf lk (Cu _)) lk gx rfl om (M7 _) hs0) pt ?_;refine mr<|Ad rz<|?_;exact⟨0+1,by simp[hn],by simp⟩
def rvAt (l m:List Chg) (k:Nat):Prop:=m.length=l.length /\ ∀ t,t<l.length->m[t]?=if t<k\/l.length-k<=t then l[l.length-1-t]? else l[t]?
def lG (l:List Chg):rvAt l l 0:=⟨rfl,λt ht=>by rw[if_neg om]⟩
def rY (h:rvAt l m k) (hk:k<l.length-1-k) (h1:k<m.length) (h2:l.length-1-k<m.length):rvAt l ((m.set k m[l.length-1-k]).set (l.length-1-k) m[k]) (k+1):=by
 obtain⟨hl,hm⟩:=h;refine⟨by simp[hl],λt ht=>?_⟩;have a:=hm k om;have b:=hm (l.length-1-k) om;have c:=hm t ht;rw[List.getElem?_eq_getElem h1,if_neg om] at a;rw[List.getElem?_eq_getElem h2,if_neg om] at b;rw[List.getElem?_set,List.length_set];by_cases e1:l.length-1-k=t
 .rw[if_pos e1,if_pos h2,a,if_pos om];congr 1;omega
 rw[if_neg e1,List.getElem?_set];by_cases e2:k=t
 .rw[if_pos e2,if_pos h1,b,if_pos om];congr 1;omega
 rw[if_neg e2,c];by_cases e3:t<k\/l.length-k<=t
 .rw[if_pos e3,if_pos om]
 rw[if_neg e3,if_neg om]
def rvAt_end (h:rvAt l m k) (hk:¬k<l.length-1-k):m=l.reverse:=by
 obtain⟨hl,hm⟩:=h;apply List.ext_getElem?;intro t;by_cases ht:t<l.length
 .rw[hm t ht,List.getElem?_reverse ht];by_cases e:t<k\/l.length-k<=t
  .rw[if_pos e]
  rw[if_neg e];congr 1;omega
 rw[List.getElem?_eq_none om,List.getElem?_eq_none (by simp;omega)]
def sB {id v:Nat}(he:h[id]?=some (.mk v 86 4 (rows chgC l))):ACalls Tryz.prog 149 [.own id v l.length] h λr h'=>r=.ret (.tup [])/\h'=h.set id (.mk v 86 4 (rows chgC l.reverse)):=by
 have hid:id<h.length:=(List.getElem?_eq_some_iff.1 he).1;refine tJ' k149 λN hn hlt _ hbd=>?_;simp only[tb'] at hbd ⊢;refine Gg (h1:=h.set id (.mk v 86 4 (rows chgC l))++[]) (by rw[Hi he]) ?_;refine wm<|Vw (Ej lk)<|?_;refine V' (Ch lk lki (by (try simp only[List.length_set]);omega) (by (try simp only[List.length_set]);omega)) pt ?_;refine mw<|ms<|Ah<|?_;refine Ll (ι:=List Chg×Nat) (λ⟨m,k⟩=>[(2,iv (k:Int)),(3,iv ((l.length:Int)-1-k))]++rn' 7 21) (λ⟨m,k⟩=>h.set id (.mk v 86 4 (rows chgC m))++[]) (λ⟨m,k⟩=>rvAt l m k/\k<=l.length) (λ⟨m,k⟩=>l.length-k) (⟨l,0⟩) (by exact⟨lG l,by omega⟩) (by try simp only[sm',Nat.reduceAdd];exact ALe.same wA' rfl) ?_;rintro⟨m,k⟩ hi1;try simp only[sm',Nat.reduceAdd]
 obtain⟨hk1,hk2⟩:=hi1;have hml:m.length=l.length:=hk1.1;refine Ab<|wm<|mw<|Vw (Bm lk lk)<|sn'<|?_;refine cd' lk (λhc1=>?_) (λhc1=>?_)
 .have hkk:k<l.length-1-k:=by omega
  refine za<|Ab<|Ah<|Bl<|Dw vm<|Dw vm<|Dw vm<|Dw vm<|Dw vm<|Dw vm<|?_;refine D' (Ck (k:=l.length-1-k) lk lk (I7 hid) Cg nb (by first | rfl | (try simp only[List.length_set]);omega) (by (try simp only[List.length_set]);omega) (by first | rfl | (simp;done) | (try simp only[List.length_set]);omega)) pt ?_;refine D' (Iv lk (I7 hid) Cg (by (try simp only[List.length_set]);omega) rfl) pt ?_;refine Dw vm<|Dw vm<|?_;refine D' (Ck lk lk (I7 hid) Cg nb (by first | rfl | (try simp only[List.length_set]);omega) (by (try simp only[List.length_set]);omega) (by first | rfl | (simp;done) | (try simp only[List.length_set]);omega)) pt ?_;refine D' (Iv lk (I7 hid) Cg (by (try simp only[List.length_set]);omega) rfl) pt ?_;refine D' (Ck lk lk (I7 hid) Cg nb (by first | rfl | (try simp only[List.length_set]);omega) (by (try simp only[List.length_set]);omega) (by first | rfl | (simp;done) | (try simp only[List.length_set]);omega)) pt ?_;refine Bi ?_;refine B9 ?_;refine E' (Nn lk cv (I7 hid) Cg rfl (by (try simp only[List.length_set]);omega) (Oq hid)) ptn ?_;refine V' (Ck (k:=l.length-1-k) lk lk (I7 hid) Cg nb (by first | rfl | (try simp only[List.length_set]);omega) (by (try simp only[List.length_set]);omega) (by first | rfl | (simp;done) | (try simp only[List.length_set]);omega)) pt ?_;refine E' (Nn lk cv (I7 hid) Cg rfl (by (try simp only[List.length_set]);omega) (Oq hid)) ptn ?_;refine Am<|Aw<|An<|Aq<|mw<|?_;refine V' (Du lk lki (by (try simp only[List.length_set]);omega) (by (try simp only[List.length_set]);omega)) pt ?_;refine mv' lk pt ?_;refine V' (Ch lk lki (by (try simp only[List.length_set]);omega) (by (try simp only[List.length_set]);omega)) pt ?_;refine mw<|mw<|Am<|Az<|?_;refine lT' (⟨_,k+1⟩) (by (try dsimp only);exact⟨rY hk1 hkk om om,by omega⟩)
 refine Bd<|As<|As<|Bp<|Ul (rs0)<|?_;exact⟨h.set id (.mk v 86 4 (rows chgC m)),[],rfl,I6 hn,Sp hlt (by simp[Ent.lt,Cp]),rfl,rfl,by rw[rvAt_end hk1 om]⟩
def back_a {full:Bool}(hl:l.length<=3000000000000):Ac 94 [.sl l.length 4 full (rows chgC l)] h (chS l.reverse):=by
 refine tI' k94 λN hn _ _ hbd=>?_;simp only[tb'] at hbd ⊢;refine wk'<|wm<|?_;refine Vx mp (qE (by first | assumption | omega)) hl0 (λ_=>ha0) (λ_=>pt) (λva3=>?_);refine ms<|wm<|H2 mp (sB gx) hs0 pt<|sn'<|wm<|mw<|Am<|?_;refine B0 (ALe.iceR (hga hn rfl) gt2 (List.take_of_length_le (by rw[Cu];simp)) (by rw[Cu];simp) pt2 hs0) ?_;refine C4<|Ad rz<|rT'<|?_;simp[chS]
end
section
open Go.Ab Civ
attribute [local simp] Cp
section
def Uk {τ:Operand->AV}{y0 y1:Operand}{a b c d:AV}(h0:Lf τ y0 [a,b,c])(h1:Lf τ y1 [d]):Cm τ [(0,3,y0),(3,1,y1)] [(iv 0),(iv 0),(.v (.string ⟨#[]⟩)),(iv 0),(iv 0),(.sl 0 0 true [])]=some [a,b,c,d,(iv 0),(.sl 0 0 true [])]:=fl h0<|fl h1 rfl
def L8 {e1 e2:Ent}:([e0,e1,e2]:AH)++[d0]=[e0,e1,e2,d0]:=rfl
def Hc {c1 c2 c3 c4 c5:AV}{l:List AV}:setCells (a0::a1::a2::a3::a4::a5::l) 0 [c0,c1,c2,c3,c4,c5]=c0::c1::c2::c3::c4::c5::l:=rfl
def Vl {l:List AV}:setCells (a0::a1::a2::a3::a4::l) 4 [c0]=a0::a1::a2::a3::c0::l:=rfl
def Vk {l:List AV}:setCells (a0::a1::a2::a3::a4::a5::l) 5 [c0]=a0::a1::a2::a3::a4::c0::l:=rfl
def Gd {l:List AV}:((a0::a1::a2::a3::a4::a5::l).drop 0).take 6=[a0,a1,a2,a3,a4,a5]:=rfl
def eS {τ:Operand->AV}{y0 y1:Operand}{a b c d e f g i:AV}(h0:Lf τ y0 [a,b,c,d])(h1:Lf τ y1 [e,f,g,i]):Cm τ [(0,4,y0),(4,4,y1)] [(iv 0),(iv 0),(.v (.string ⟨#[]⟩)),(.sl 0 0 true []),(iv 0),(iv 0),(.v (.string ⟨#[]⟩)),(.sl 0 0 true [])]=some [a,b,c,d,e,f,g,i]:=fl h0<|fl h1 rfl
def Zi {τ:Operand->AV}:Cm τ [] [(iv 0),(iv 0),(.v (.string ⟨#[]⟩)),(iv 0),(iv 0),(.sl 0 0 true [])]=some [(iv 0),(iv 0),(.v (.string ⟨#[]⟩)),(iv 0),(iv 0),(.sl 0 0 true [])]:=rfl
end
def k47:=Kx 47 [.e [] 9 [false],.e [] 14 [false]]
def k17:=Kx 17 []
abbrev Pat:=Loc×Int×Int×List Chg
abbrev tabC (t:Tab):List AV:=[iv t.1.1,iv t.1.2.1,sv t.1.2.2,chS t.2]
def tab_lt {n:Nat}(l:List Tab):AV.ltL n (rows tabC l)=true:=Eh (λn x=>by simp[AV.ltL,AV.lt,Cp]) l
attribute [local simp] tab_lt
abbrev patFr (p:Pat):AV:=.agg [iv p.1.1,iv p.1.2.1,sv p.1.2.2,iv p.2.1,iv p.2.2.1,chFr p.2.2.2]
abbrev patA (p:Pat):AV:=.agg [iv p.1.1,iv p.1.2.1,sv p.1.2.2,iv p.2.1,iv p.2.2.1,chS p.2.2.2]
def eX {p:Pat}:Wk (patFr p) (patA p):=Wk.agg (wk1 rfl (wk1 rfl (wk1 rfl (wk1 rfl (wk1 rfl (wkw Wk.fs wk0))))))
def hdOf (t u:Tab):Nat:=com t.2 u.2
def tlOf (t u:Tab):Nat:=com (t.2.drop (hdOf t u)).reverse (u.2.drop (hdOf t u)).reverse
def D9 (t u:Tab):Pat:=(u.1,hdOf t u,tlOf t u,(u.2.take (u.2.length-tlOf t u)).drop (hdOf t u))
def noPat:Pat:=((0,0,⟨#[]⟩),0,0,[])
def Ga:Tab:=((0,0,⟨#[]⟩),[])
def hd_le (t u:Tab):hdOf t u<=t.2.length/\hdOf t u<=u.2.length:=mX _ _
def tl_le (t u:Tab):tlOf t u<=t.2.length-hdOf t u/\tlOf t u<=u.2.length-hdOf t u:=by
 have:=mX (t.2.drop (hdOf t u)).reverse (u.2.drop (hdOf t u)).reverse;simpa [tlOf] using this
def Mz (t u:Tab):Int:=if Bw t≠0 then Bw t else Bw u
def J2 (t u:Tab):Pat:=if Mz t u=0 then D9 t u else noPat
def okT (t:Tab):Prop:=t.1.2.2.size<=maxLen /\ ∀ x∈t.2,x.2.2.2.size<=maxLen
def D7 {t:Tab}(h:Bw t=0):t.2.length<=1000:=by
 unfold Bw at h;split at h
 .omega
 omega
def diffE_at {t u:Tab}{k:Nat}(hk:k<[t,u].length) (h0 : ∀ j (hj:j<[t,u].length),j<k->Bw [t,u][j]=0) (h:Bw [t,u][k]≠0):Mz t u=Bw [t,u][k]:=by
 match k,hk with
 | 0,_=>exact if_pos h
 | 1,_ =>
  have:=h0 0 (by simp) om
  unfold Mz
  rw[if_neg (by simpa using this)]
  rfl
def diffE_ok {t u:Tab}(h0 : ∀ j (hj:j<[t,u].length),Bw [t,u][j]=0):Mz t u=0/\Bw t=0/\Bw u=0:=by
 have h1:=h0 0 (by simp);have h2:=h0 1 (by simp);refine⟨?_,h1,h2⟩;unfold Mz;rw[if_neg (by simpa using h1)];exact h2
def bH {t u:Tab}(h1:t.2.length<=3000000000000) (h2:u.2.length<=3000000000000) :
  Ac 47 [.agg [iv t.1.1,iv t.1.2.1,sv t.1.2.2,.sl t.2.length 4 f1 (rows chgC t.2)],.agg [iv u.1.1,iv u.1.2.1,sv u.1.2.2,.sl u.2.length 4 f2 (rows chgC u.2)]] h (patFr (D9 t u)):=by
 have hh:=hd_le t u;have ht:=tl_le t u;refine tI' k47 λN hn _ _ hbd=>?_;simp only[tb'] at hbd ⊢;refine wr'<|E' (Bq cv rfl hl0 ha0) pt<|E' (Bq cv rfl hl1 ha1) pt<|E' (Bz hl2 ha2) pt<|sn'<|Ab<|Bl<|dg<|Dw (Ak lk gx Ap rfl)<|dg<|Dw (Aa lk gx gt3)<|dg<|?_;refine D' (Aa lk gx gt3) pt ?_;refine Br mp (λhE hX=>(bF (f1:=f1) (f2:=f2) rfl:ACalls Tryz.prog 93 _ _ λx h'=>_=_/\x=.ret (iv (hdOf t u)))) pt ?_;refine Dw (Bb (Uk cw cw))<|D5 rfl rfl (hlk hn rfl) (Lv) pt B2<|Bi<|?_;refine Eg L8 ?_;refine E' (Ai lk cv gx rfl nb rfl Hc hs3) ptn<|sn'<|Ab<|Bl<|dg<|Dw (Aa lk gx gt3)<|dg<|Dw (Aa lk gx gt3)<|?_;refine D' (v_lo (k:=hdOf t u) lk lk Cg ro om ro) pt ?_;refine Br mp (λhE hX=>back_a (by rw[List.length_drop];omega)) pt ?_;refine dg<|Dw (Aa lk gx gt3)<|dg<|Dw (Aa lk gx gt3)<|?_;refine D' (v_lo (k:=hdOf t u) lk lk Cg ro om ro) pt ?_;refine Br mp (λhE hX=>back_a (by rw[List.length_drop];omega)) pt ?_;refine Br mp (λhE hX=>(bF (f1:=false) (f2:=false) rfl:ACalls Tryz.prog 93 _ _ λx h'=>_=_/\x=.ret (iv (tlOf t u)))) pt ?_;refine dg<|Bi<|?_;refine B9 ?_;refine E' (Ai lk cv gx rfl nb rfl Vl hs3) ptn<|sn'<|wr'<|fq<|Vw (Aa lk gx gt3)<|fq<|Vw (Aa lk gx gt3)<|fq<|Vw (Aa lk gx gt3)<|Vw (Bf lk)<|fq<|Vw (Aa lk gx gt4)<|?_;refine V' (Ch lk lk om om) pt ?_;have hq:tlOf t u<=u.2.length:=by omega
 refine V' (v_lh (k:=hdOf t u) (m:=u.2.length-tlOf t u) lk lk lk Cg ro ro om om ro) pt ?_;refine Vx mp (qE (by simp;omega)) hl4 (λ_=>ha4) (λ_=>pt) (λva40=>?_);refine fq<|E' (Ai lk cv gx rfl nb rfl Vk hs3) ptn<|Am<|?_;refine B0 (ALe.iceCellRF (hga hn rfl) (hga hn rfl) om gt5 (List.take_of_length_le (by rw[C9 Cg];first | exact Nat.le_refl _ | omega)) (by rw[C9 Cg];first | exact Nat.le_refl _ | omega) rfl pt5 hs4 hs3) ?_;exact wr'<|Vw (Ak lk gx Gd rfl)<|E' (Ai lk cv gx rfl nb rfl Hc hs2) ptn<|sr<|Ad (rs1 (rr_c gt gx (ld1 Gd rfl)))<|rT' rfl
def diff_f {t u:Tab}{f1 f2:Bool}{h:AH}(ht:okT t) (hu:okT u) :
  Ac 17 [.agg [iv t.1.1,iv t.1.2.1,sv t.1.2.2,.sl t.2.length 4 f1 (rows chgC t.2)],.agg [iv u.1.1,iv u.1.2.1,sv u.1.2.2,.sl u.2.length 4 f2 (rows chgC u.2)]] h (.tup [patFr (J2 t u),iv (Mz t u)]):=by
 refine ACalls.wk (wkw (Wk.agg (wk1 rfl (wk1 rfl (wk1 rfl (wkw Wk.full wk0))))) (wkw (Wk.agg (wk1 rfl (wk1 rfl (wk1 rfl (wkw Wk.full wk0))))) wk0)) ?_;refine tW' k17 λN hn hlt _ hbd=>?_;simp only[tb'] at hbd ⊢;refine wr'<|E' (Bq cv rfl hl0 ha0) pt<|E' (Bq cv rfl hl1 ha1) pt<|E' (Bz hl2 ha2) pt<|ms<|Ab<|wr'<|Vw (Ak lk gx Av rfl)<|Vw (Ak lk gx Av rfl)<|E' (Ep (eS cw cw) hl3 ha3) pt<|?_;refine Vw (Ej lk)<|ms<|Ah<|?_;refine w_lp (ι:=Nat) (λ(k:Nat)=>[(13,iv (k:Int)),(5,.any),(7,.any),(8,.any)]++rn' 14 10) (λ(k:Nat)=>[(3,.mk 0 30 4 (rows tabC [t,u]))]) (λ(k:Nat)=>k<=[t,u].length /\ ∀ j (hj:j<[t,u].length),j<k->Bw [t,u][j]=0) (λ(k:Nat)=>2-k) (0) (by exact⟨by simp,λj hj h0=>by omega⟩) ?_;rintro k hi1;try simp only[sm',Nat.reduceAdd]
 obtain⟨hk1,hk2⟩:=hi1;have hlen:[t,u].length=2:=rfl;refine wr'<|Vw (Bm lk lk)<|sn'<|Ab<|?_;refine cd' lk (λhc1=>?_) (λhc1=>?_)
 .have hk:k<[t,u].length:=by omega
  have hok:okT [t,u][k]:=by
   match k,hk with
   | 0,_=>exact ht
   | 1,_=>exact hu
  refine za<|Ab<|Ah<|wr'<|?_;refine V' (Ck lk lk gx (λ_=>rfl) nb ro om (by first | rfl | (simp;done) | omega)) pt ?_;refine V' (Iv lk gx (λ_=>rfl) om rfl) pt ?_;refine E' (Bz hl4 ha4) pt<|E' (Ai lk cv gx rfl nb rfl Ay hs4) ptn<|sn'<|wr'<|Vw (Ak lk gx Av rfl)<|Af mp (Kg hok.1 hok.2) pt<|ms<|wm<|?_;refine Vw (Ca lk lki)<|sn'<|?_;refine cd' lk (λhc2=>?_) (λhc2=>?_)
  .refine wr'<|Vw (Bb Zi)<|mw<|E' (Ai lk cv gx rfl nb rfl Hc hs2) ptn<|mr<|Au<|Ag<|Ag<|Au<|Ag<|?_;refine Ad (rsn (rm1 (rr_c gt gx (ld1 Gd rfl)) (rm1 (rr_t gt) rm0)))<|rtW'<|?_;have hE:=diffE_at hk hk2 hc2;rw[J2,if_neg (by rw[hE];exact hc2),hE];exact Wk.tup (wkw (Wk.agg (wk1 rfl (wk1 rfl (wk1 rfl (wk1 rfl (wk1 rfl (wkw Wk.nilS wk0))))))) (wk1 rfl wk0))
  refine Be<|Aw<|An<|Aq<|?_;refine ad<|mw<|Am<|Az<|?_;refine lU' (k+1) (by (try dsimp only);exact⟨by omega,λj hj h0=>by by_cases e:j=k;subst e;exact Decidable.of_not_not hc2;exact hk2 j hj om⟩) (by refine zz ?_;exact bk' 4 hn hlt)
 refine Bd<|As<|As<|Bp<|An<|?_;have hz:=diffE_ok (t:=t) (u:=u) λj hj=>hk2 j hj om;refine wr'<|Vw (Ak lk gx Av rfl)<|Vw (Ak lk gx Av rfl)<|?_;refine Af mp (bH (by have:=D7 hz.2.1;omega) (by have:=D7 hz.2.2;omega)) pt ?_;refine E' (Ai lk cv gx rfl nb rfl Hc hs2) ptn<|mr<|Ad (rsn (rm1 (rr_c gt gx (ld1 Gd rfl)) (rm1 (rr_t gt) rm0)))<|rtW'<|?_;rw[J2,if_pos hz.1,hz.1];exact Wk.refl _
def diff_a {t u:Tab}(ht:okT t) (hu:okT u) :
  Ac 17 [.agg [iv t.1.1,iv t.1.2.1,sv t.1.2.2,.sl t.2.length 4 f1 (rows chgC t.2)],.agg [iv u.1.1,iv u.1.2.1,sv u.1.2.2,.sl u.2.length 4 f2 (rows chgC u.2)]] h (.tup [patA (J2 t u),iv (Mz t u)]):=(diff_f ht hu).wkR (Wk.tup (wkw eX (wk1 rfl wk0)))
end
open Go.Ab
variable {p:Pat}
section
open Go.Ab Civ
attribute [local simp] Cp
def k150:=Kx 150 []
def k95:=Kx 95 []
def grow_a {m:Nat}(hm:m<=3000000000000):ACalls Tryz.prog 150 [.sl 0 0 true [],iv (m:Int)] h λr h' => ∃ v,r=.ret (.own h.length v 0)/\h'=h++[.mk v 86 4 []]:=by
 refine ACalls.wk (wkw (Wk.nil (st':=4)) (wk1 rfl wk0)) ?_;refine tN' k150 λN hn _ _ hbd=>?_;simp only[tb'] at hbd ⊢;refine wk'<|Ab<|wm<|Vw (Bm lk lki)<|sn'<|?_;refine F2 lk (by exact decide_eq_false om) ?_;refine za<|Ab<|wm<|mw<|Vw (v_cap lk)<|mw<|Vw (Bf lk)<|?_;refine V' (Ch lk lk om om) pt ?_;refine V' (Ch lk lk om om) pt ?_;refine ms<|wm<|Vw (C7 lk lki)<|sn'<|?_;refine cd' lk (λhc2=>?_) (λhc2=>?_)
 .refine Aq<|mw<|mw<|Vw (v_cap lk)<|?_;refine V' (v_slc lk on_ (oi lk) om om om) pt ?_;refine mv' lk pt ?_;refine E' (e_appz lk lk om nb nb om hl0 ha0) pt ?_;refine mw<|Vw (Bf lk)<|?_;refine V' (v_hiO (m:=0) lk lk ro om) pt ?_;refine ms<|wm<|mr<|Ad rz<|?_;exact⟨_,by simp[hn];rfl,by simp⟩
 refine za<|wr'<|mv' lk0 pt26<|mv' lk26 pt4<|Am<|B0 (ALe.own0 (d:=4) (st':=4) (ty:=86) rfl)<|C4<|Ad (rs1 (rr_t gt4))<|?_;exact⟨_,by simp[hn];rfl,by simp⟩
abbrev chSC (l:List Chg):List AV:=[chS l]
def jQ : ∀ x,(chSC x).length=1:=λ_=>rfl
def concat_f {ls:List (List Chg)}{full:Bool}(hm:ls.flatten.length<=3000000000000):Ac 95 [.sl ls.length 1 full (rows chSC ls)] h (chFr ls.flatten):=by
 have hpre : ∀ k,(ls.take k).flatten.length<=ls.flatten.length:=λk=>by
  conv=>rhs;rw[<-List.take_append_drop k ls]
  rw[List.flatten_append,List.length_append];omega
 have hst : ∀ k (hk:k<ls.length),(ls.take (k+1)).flatten=(ls.take k).flatten++ls[k]:=λk hk=>by rw[List.take_succ_eq_append_getElem hk,List.flatten_append,List.flatten_cons,List.flatten_nil,List.append_nil]
 have hls : ∀ k (hk:k<ls.length),(ls.take k).flatten.length+ls[k].length<=ls.flatten.length:=λk hk=>by
  have:=hpre (k+1);rw[hst k hk,List.length_append] at this;exact this
 refine tI' k95 λN hn _ _ hbd=>?_;simp only[tb'] at hbd ⊢;refine wk'<|wk'<|Ab<|wm<|?_;refine Vw (Bf lk)<|ms<|Ah<|?_;refine w_lp (ι:=Nat) (λ(k:Nat)=>[(3,iv ((ls.take k).flatten.length:Int)),(11,iv (k:Int)),(5,.any)]++rn' 12 11) (λ(k:Nat)=>[]) (λ(k:Nat)=>k<=ls.length) (λ(k:Nat)=>ls.length-k) (0) om ?_;rintro k hi1;try simp only[sm',Nat.reduceAdd]
 refine wr'<|Vw (Bm lk lk)<|sn'<|Ab<|?_;refine cd' lk (λhc1=>?_) (λhc1=>?_)
 .have hk:k<ls.length:=by omega
  have hkl:=hls k hk;refine za<|Ab<|Ah<|wr'<|?_;refine V' (Bh lk lk jQ nb ro om ro rfl) pt ?_;refine Vw (Ba lk gt)<|ms<|wm<|mw<|?_;refine V' ((by first | exact Bf lk | exact Ej lk)) pt ?_;refine V' (Du lk lk om om) pt ?_;refine ms<|wm<|Vw (Bm lk lki)<|sn'<|?_;refine F2 lk (by exact decide_eq_false om) ?_;refine Be<|Aw<|An<|Aq<|?_;refine ad<|mw<|Am<|Az<|?_;refine lU' (k+1) (by (try dsimp only);omega) (by refine zz ?_;exact ALe.same (by repeat (first | exact wk0 | refine wka ?_ | refine wk1 rfl ?_ | refine wk1 (by first | rfl | exact ivx om | exact ivx (by rw[hst k hk,List.length_append];omega) | (simp;done)) ?_)) rfl)
 refine Bd<|As<|As<|Bp<|An<|wm<|?_;refine Vx mp (grow_a (Nat.le_trans (hpre _) hm)) hl0 (λ_=>ha0) (λ_=>pt) (λva22=>?_);refine ms<|Ab<|wm<|Vw (Bf lk)<|ms<|Ah<|?_;refine w_lp (ι:=Nat×Nat) (λ⟨k,v⟩=>[(6,.own (N+0) v (ls.take k).flatten.length),(27,iv (k:Int)),(8,.any)]++rn' 28 7) (λ⟨k,v⟩=>[(0,.mk v 86 4 (rows chgC (ls.take k).flatten))]) (λ⟨k,v⟩=>k<=ls.length) (λ⟨k,v⟩=>ls.length-k) (⟨0,va22⟩) (by exact Nat.zero_le _) ?_;rintro⟨k,v⟩ hi2;try simp only[sm',Nat.reduceAdd]
 refine wr'<|Vw (Bm lk lk)<|sn'<|Ab<|?_;refine cd' lk (λhc3=>?_) (λhc3=>?_)
 .have hk:k<ls.length:=by omega
  have hkl:=hls k hk;refine za<|Ab<|Ah<|wr'<|?_;refine V' (Bh lk lk jQ nb ro om ro rfl) pt ?_;refine Vw (Ba lk gt)<|ms<|Aq<|mw<|mw<|?_;refine E' (C6 (Qf lk (Cu _)) lk gx (Cu _) om (M7 _) hs0) pt ?_;refine mw<|Am<|Aw<|An<|Aq<|?_;refine ad<|mw<|Am<|Az<|?_;refine lU' (⟨k+1,v+1⟩) (by (try dsimp only);exact hk) (by refine zz ?_;exact ALe.same (by repeat (first | exact wk0 | refine wka ?_ | refine wk1 rfl ?_ | refine wk1 (by first | rfl | exact ivx om | (rw[hst k hk,List.length_append];done) | (simp;done)) ?_)) (by rw[hst k hk,Bt]))
 refine Bd<|As<|As<|Bp<|An<|wm<|mw<|Am<|?_;refine B0 (ALe.iceRF (hga hn rfl) gt2 (List.take_of_length_le (by rw[Cu];exact Nat.le_refl _)) (by rw[Cu];exact Nat.le_refl _) rfl pt2 hs0) ?_;refine C4<|Ad rz<|rT'<|?_;rw[List.take_of_length_le (show ls.length<=k by omega)]
end
section
open Go.Ab Civ
attribute [local simp] Cp
section
def B5 {τ:Operand->AV}:Cm τ [] [(iv 0),(iv 0),(.v (.string ⟨#[]⟩)),(.sl 0 0 true [])]=some [(iv 0),(iv 0),(.v (.string ⟨#[]⟩)),(.sl 0 0 true [])]:=rfl
def Uj {τ:Operand->AV}{y0 y1 y2:Operand}{a b c:AV}(h0:Lf τ y0 [a])(h1:Lf τ y1 [b])(h2:Lf τ y2 [c]):Cm τ [(0,1,y0),(1,1,y1),(2,1,y2)] [(.sl 0 0 true []),(.sl 0 0 true []),(.sl 0 0 true [])]=some [a,b,c]:=fl h0<|fl h1<|fl h2 rfl
def Ef {τ:Operand->AV}{y0 y1:Operand}{a b c d:AV}(h0:Lf τ y0 [a,b,c])(h1:Lf τ y1 [d]):Cm τ [(0,3,y0),(3,1,y1)] [(iv 0),(iv 0),(.v (.string ⟨#[]⟩)),(.sl 0 0 true [])]=some [a,b,c,d]:=fl h0<|fl h1 rfl
def Za {e:Ent}:([e0]:AH)++[e]=[e0,e]:=rfl
def kP {e1 e2 d1:Ent}:([e0,e1,e2]:AH)++[d0,d1]=[e0,e1,e2,d0,d1]:=rfl
end
def k48:=Kx 48 [.e [] 20 [false]]
def k18:=Kx 18 []
def offP (t:Tab) (p:Pat):Prop:=p.2.1<0\/p.2.2.1<0\/(t.2.length:Int)<p.2.1\/(t.2.length:Int)-p.2.1<p.2.2.1
instance (t:Tab) (p:Pat):Decidable (offP t p):=by unfold offP;infer_instance
abbrev outL (t:Tab) (p:Pat):List (List Chg):=[t.2.take p.2.1.toNat,p.2.2.2,t.2.drop ((t.2.length:Int)-p.2.2.1).toNat]
def outT (t:Tab) (p:Pat):Tab:=(p.1,(outL t p).flatten)
def patE (t:Tab) (p:Pat):Int:=if offP t p then 3 else if 1000<p.2.2.2.length then 2 else Bw (outT t p)
def patV (t:Tab) (p:Pat):Tab:=if patE t p=0 then outT t p else Ga
def okP (p:Pat):Prop:=p.1.2.2.size<=maxLen /\ ∀ x∈p.2.2.2,x.2.2.2.size<=maxLen
def oY {t:Tab}(ht:okT t) (hp:okP p):okT (outT t p):=by
 refine⟨hp.1,λx hx=>?_⟩;simp only[outT,List.flatten_cons,List.flatten_nil,List.append_nil,List.mem_append] at hx;rcases hx with h | h | h
 .exact ht.2 x (List.mem_of_mem_take h)
 .exact hp.2 x h
 exact ht.2 x (List.mem_of_mem_drop h)
def out_len {t:Tab}:(outL t p).flatten.length<=t.2.length+p.2.2.2.length+t.2.length:=by
 simp only[List.flatten_cons,List.flatten_nil,List.append_nil,List.length_append,List.length_take,List.length_drop];omega
def Z7 {t:Tab}(h1:t.2.length<=1000) (ht:okT t) (hp:okP p) :
  Ac 48 [.agg [iv t.1.1,iv t.1.2.1,sv t.1.2.2,.sl t.2.length 4 f1 (rows chgC t.2)],.agg [iv p.1.1,iv p.1.2.1,sv p.1.2.2,iv p.2.1,iv p.2.2.1,.sl p.2.2.2.length 4 f2 (rows chgC p.2.2.2)]] h (.tup [N9 (patV t p),iv (patE t p)]):=by
 refine ACalls.wk (wkw (Wk.agg (wk1 rfl (wk1 rfl (wk1 rfl (wkw Wk.full wk0))))) (wkw (Wk.agg (wk1 rfl (wk1 rfl (wk1 rfl (wk1 rfl (wk1 rfl (wkw Wk.full wk0))))))) wk0)) ?_;have hz:Wk (.agg [.v (.int .i64 0),.v (.int .i64 0),.v (.string ⟨#[]⟩),.sl 0 0 true []]) (N9 Ga):=Wk.agg (wk1 rfl (wk1 rfl (wk1 rfl (wkw Wk.nilS wk0))));have ho:=oY ht hp;have hl:=out_len (t:=t) (p:=p);refine tW' k48 λN hn _ _ hbd=>?_;simp only[tb'] at hbd ⊢;refine wr'<|E' (Bq cv rfl hl0 ha0) pt<|E' (Bq cv rfl hl1 ha1) pt<|E' (Bz hl2 ha2) pt<|ms<|wr'<|fq<|Vw (Aa lk gx gt3)<|Vw (Bf lk)<|mw<|?_;refine sn'<|Ab<|Ah<|wr'<|fq<|Vw (Aa lk gx gt3)<|Vw (Bm lk lki)<|mw<|?_;refine sp' (t:=16) gt pt pt (λhg16=>?_) (λhg16=>?_)
 .refine so<|so<|so<|Vw (Ar lk lkb)<|mw<|so<|so<|so<|so<|Vw (Ar lk lkb)<|mw<|so<|so<|so<|?_;refine so<|so<|so<|so<|Vw (Ar lk lkb)<|ms<|Cx lk<|wr'<|Vw (Bb B5)<|E' (Ai lk cv gx rfl nb rfl Ay hs2) ptn<|mw<|?_;refine sr<|Au<|Ag<|Ad (rsn (rm1 (rr_c gt gx (ld1 Av rfl)) (rm1 (rr_t gt) rm0)))<|rtW'<|?_;have hE:patE t p=3:=if_pos (by unfold offP;omega);rw[patV,if_neg (by rw[hE];decide),hE];exact Wk.tup (wkw hz (wk1 rfl wk0))
 refine sd<|fq<|sd<|Vw (Aa lk gx gt4)<|sd<|Vw (Bm lk lki)<|Vw (Ao lk lk)<|mw<|?_;refine sp' (t:=21) gt pt pt (λhg21=>?_) (λhg21=>?_)
 .refine so<|so<|so<|so<|Vw (Ar lk lkb)<|mw<|so<|so<|so<|so<|so<|so<|so<|Vw (Ar lk lkb)<|?_;refine ms<|Cx lk<|wr'<|Vw (Bb B5)<|E' (Ai lk cv gx rfl nb rfl Ay hs2) ptn<|mr<|Au<|Ag<|?_;refine Ad (rsn (rm1 (rr_c gt gx (ld1 Av rfl)) (rm1 (rr_t gt) rm0)))<|rtW'<|?_;have hE:patE t p=3:=if_pos (by unfold offP;omega);rw[patV,if_neg (by rw[hE];decide),hE];exact Wk.tup (wkw hz (wk1 rfl wk0))
 refine sd<|fq<|sd<|Vw (Aa lk gx gt3)<|sd<|mw<|sd<|Vw (C7 lk lk)<|Vw (Ao lk lk)<|mw<|?_;refine sp' (t:=27) gt pt pt (λhg27=>?_) (λhg27=>?_)
 .refine so<|so<|so<|so<|so<|so<|so<|Vw (Ar lk lkb)<|ms<|Cx lk<|wr'<|?_;refine Vw (Bb B5)<|E' (Ai lk cv gx rfl nb rfl Ay hs2) ptn<|mr<|Au<|Ag<|Ad (rsn (rm1 (rr_c gt gx (ld1 Av rfl)) (rm1 (rr_t gt) rm0)))<|rtW'<|?_;have hE:patE t p=3:=if_pos (by unfold offP;omega);rw[patV,if_neg (by rw[hE];decide),hE];exact Wk.tup (wkw hz (wk1 rfl wk0))
 refine sd<|fq<|sd<|Vw (Aa lk gx gt4)<|sd<|mw<|sd<|fq<|sd<|Vw (Aa lk gx gt3)<|sd<|?_;refine V' (Ch lk lk om om) pt ?_;refine sd<|Vw (C7 lk lk)<|Vw (Ao lk lk)<|ms<|?_;refine cd' lk (λhc1=>?_) (λhc1=>?_)
 .refine wr'<|Vw (Bb B5)<|E' (Ai lk cv gx rfl nb rfl Ay hs2) ptn<|mr<|Au<|Ag<|Ad (rsn (rm1 (rr_c gt gx (ld1 Av rfl)) (rm1 (rr_t gt) rm0)))<|rtW'<|?_;have hE:patE t p=3:=if_pos (by unfold offP;omega);rw[patV,if_neg (by rw[hE];decide),hE];exact Wk.tup (wkw hz (wk1 rfl wk0))
 refine wr'<|fq<|Vw (Aa lk gx gt5)<|Vw (Bf lk)<|Vw (C7 lk lki)<|ms<|?_;refine cd' lk (λhc2=>?_) (λhc2=>?_)
 .refine wr'<|Vw (Bb B5)<|E' (Ai lk cv gx rfl nb rfl Ay hs2) ptn<|mr<|Au<|Ag<|Ad (rsn (rm1 (rr_c gt gx (ld1 Av rfl)) (rm1 (rr_t gt) rm0)))<|rtW'<|?_;have hE:patE t p=2:=by rw[patE,if_neg (by unfold offP;omega),if_pos om]
  rw[patV,if_neg (by rw[hE];decide),hE];exact Wk.tup (wkw hz (wk1 rfl wk0))
 refine Be<|Aw<|An<|Ab<|Bl<|dg<|Dw (Ak lk gx Ap rfl)<|dg<|Dw (Aa lk gx gt3)<|dg<|Dw (Aa lk gx gt3)<|?_;refine D' (v_hi (k:=p.2.1.toNat) lk lk Cg ro om ro) pt ?_;refine dg<|Dw (Aa lk gx gt5)<|dg<|Dw (Aa lk gx gt3)<|Dw vm<|dg<|Dw (Aa lk gx gt4)<|?_;refine D' (Ch lk lk om om) pt ?_;refine D' (v_lo (k:=((t.2.length:Int)-p.2.2.1).toNat) lk lk Cg ro om ro) pt ?_;refine d_effI rfl rfl (hlk hn rfl) (l_litI (Uj cw cw cw) rfl) pt B2 ?_;refine Br mp (λhE hX=>concat_f (ls:=outL t p) om) pt ?_;refine Dw (Bb (Ef cw cw))<|D5 rfl rfl (hlk hn rfl) (Lv) pt Za<|Bi<|?_;refine Eg kP ?_;refine E' (Ai lk cv gx rfl nb rfl Ay hs4) ptn<|sn'<|Ab<|wr'<|Vw (Ak lk gx Av rfl)<|?_;refine Af mp (ACalls.wk (wkw (Is (t:=outT t p)) wk0)<|Kg (l:=(outL t p).flatten) ho.1 ho.2) pt ?_;refine ms<|wm<|Vw (Ca lk lki)<|sn'<|?_;refine cd' lk (λhc3=>?_) (λhc3=>?_)
 .refine wr'<|Vw (Bb B5)<|mw<|E' (Ai lk cv gx rfl nb rfl Ay hs2) ptn<|mr<|Ag<|Ad (rsn (rm1 (rr_c gt gx (ld1 Av rfl)) (rm1 (rr_t gt) rm0)))<|rtW'<|?_;have hE:patE t p=Bw (outT t p):=by rw[patE,if_neg (by unfold offP;omega),if_neg om]
  rw[patV,if_neg (by rw[hE];exact hc3),hE];exact Wk.tup (wkw hz (wk1 rfl wk0))
 refine za<|wr'<|Vw (Ak lk gx Av rfl)<|E' (Ai lk cv gx rfl nb rfl Ay hs2) ptn<|mr<|Ad (rsn (rm1 (rr_c gt gx (ld1 Av rfl)) (rm1 (rr_t gt) rm0)))<|rtW'<|?_;have hE:patE t p=0:=by rw[patE,if_neg (by unfold offP;omega),if_neg om];exact Decidable.of_not_not hc3
 rw[patV,if_pos hE,hE];exact Wk.refl _
def appE (t:Tab) (p:Pat):Int:=if Bw t≠0 then Bw t else patE t p
def appV (t:Tab) (p:Pat):Tab:=if Bw t≠0 then Ga else patV t p
def qV {t:Tab}(ht:okT t) (hp:okP p) :
  Ac 18 [.agg [iv t.1.1,iv t.1.2.1,sv t.1.2.2,.sl t.2.length 4 f1 (rows chgC t.2)],.agg [iv p.1.1,iv p.1.2.1,sv p.1.2.2,iv p.2.1,iv p.2.2.1,.sl p.2.2.2.length 4 f2 (rows chgC p.2.2.2)]] h (.tup [N9 (appV t p),iv (appE t p)]):=by
 have hz:Wk (.agg [.v (.int .i64 0),.v (.int .i64 0),.v (.string ⟨#[]⟩),.sl 0 0 true []]) (N9 Ga):=Wk.agg (wk1 rfl (wk1 rfl (wk1 rfl (wkw Wk.nilS wk0))));refine tW' k18 λN hn _ _ hbd=>?_;simp only[tb'] at hbd ⊢;refine wr'<|E' (Bq cv rfl hl0 ha0) pt<|E' (Bq cv rfl hl1 ha1) pt<|E' (Bz hl2 ha2) pt<|ms<|Ab<|wr'<|Vw (Ak lk gx Av rfl)<|Af mp (Kg ht.1 ht.2) pt<|mw<|?_;refine sn'<|wm<|Vw (Ca lk lki)<|sn'<|?_;refine cd' lk (λhc1=>?_) (λhc1=>?_)
 .refine wr'<|Vw (Bb B5)<|mw<|E' (Ai lk cv gx rfl nb rfl Ay hs2) ptn<|mr<|Ag<|Ad (rsn (rm1 (rr_c gt gx (ld1 Av rfl)) (rm1 (rr_t gt) rm0)))<|rtW'<|?_;rw[appV,appE,if_pos hc1,if_pos hc1];exact Wk.tup (wkw hz (wk1 rfl wk0))
 refine za<|wr'<|Vw (Ak lk gx Av rfl)<|Vw (Ak lk gx Gd rfl)<|Af mp (Z7 (t:=t) (p:=p) (D7 (t:=t) (Decidable.of_not_not hc1)) ht hp) pt<|Vw (B7 lk gt)<|Vw (B7 lk gt)<|E' (Ai lk cv gx rfl nb rfl Ay hs2) ptn<|mr<|?_;refine Ad (rsn (rm1 (rr_c gt gx (ld1 Av rfl)) (rm1 (rr_t gt) rm0)))<|rtW'<|?_;rw[appV,appE,if_neg hc1,if_neg hc1];exact Wk.refl _
def apply_a {t:Tab}(ht:okT t) (hp:okP p) :
  Ac 18 [.agg [iv t.1.1,iv t.1.2.1,sv t.1.2.2,.sl t.2.length 4 f1 (rows chgC t.2)],.agg [iv p.1.1,iv p.1.2.1,sv p.1.2.2,iv p.2.1,iv p.2.2.1,.sl p.2.2.2.length 4 f2 (rows chgC p.2.2.2)]] h (.tup [tabA (appV t p),iv (appE t p)]):=(qV ht hp).wkR (Wk.tup (wkw Is (wk1 rfl wk0)))
end
section
open Go.ChangeShapes Go.WideShapes Go.ChangeAt Go.RowKit
def own:ownKnob Tryz.prog.godebug=none:=by kernel_rfl
def laidOut:laidOutB Tryz.prog=true:=by kernel_rfl
def Qe {H:Type}{enc:TypeId×Value->H}{P:Program}(hl:laidOutB P=true) {W W':World}(hb:Below W.heap.size W W') :
  ∀ (ts:List TypeId) (vs:List Value) (ds:List (DataW H)) (ps:List MemPlace),(ts.all λt=>P.readableRec t&&decide (t<P.types.size))=true->(∀ x∈ps,x.block<W.heap.size) ->
   DataW.TrodAll enc P W 0 (λ_=>true) true ts vs ds ps->DataW.TrodAll enc P W' 0 (λb=>decide (b<W.heap.size)) true ts vs ds ps
 | [],[],[],ps,_,_,h=>h
 | t::ts,v::vs,d::ds,ps,hr,hlt,h=>by
  obtain⟨p,q,h1,h2,rfl⟩:=h;simp only[List.all_cons,Bool.and_eq_true,decide_eq_true_eq] at hr
  exact⟨p,q,Below.trod hl hr.1.1 hr.1.2 h1 hb (λx hx=>hlt x (List.mem_append.2 (.inl hx))),
   Qe hl hb ts vs ds q hr.2 (λx hx=>hlt x (List.mem_append.2 (.inr hx))) h2,rfl⟩
 | [],_::_,_,_,_,_,h=>by simp[DataW.TrodAll] at h
 | [],[],_::_,_,_,_,h=>by simp[DataW.TrodAll] at h
 | _::_,[],_,_,_,_,h=>by simp[DataW.TrodAll] at h
 | _::_,_::_,[],_,_,_,h=>by simp[DataW.TrodAll] at h
def law_post {H:Type}{enc:TypeId×Value->H}{P:Program}{f:Func}{s:ChangeSpec}{handsOn fresh:Bool}{W W':World}{args:Array Value}{ds gs:List (DataW H)}{before:List MemPlace}{tb:TypeId}
  (hl:laidOutB P=true) (hts:(f.params.toList.all λt=>P.readableRec t&&decide (t<P.types.size))=true)
  (hrt:f.resultTypes = #[tb]) (htb:P.underlying tb=some .bool) (hvars:s.vars=[])
  (hs:s.fn H ds={ results:=[.lit (.bool true)],args:=ds })
  (hW:DataW.Whole enc P f.params.toList s.vars false W args.toList ds gs before) (hb:Below W.heap.size W W') :
  s.post enc P f false fresh handsOn false W args (.bool true) W':=by
 have hW':=hW;obtain⟨p,q,hA,hV,rfl,_,_⟩:=hW;rw[hvars] at hV;obtain⟨rfl,rfl⟩:=trodVars_none hV;have hlt : ∀ x∈p,x.block<W.heap.size:=λx hx=>by simpa using hW'.lt x (List.mem_append.2 (.inl hx))
 have e1:s.fn H (ds++[])={ results:=[.lit (.bool true)],args:=ds }:=by simpa using hs
 refine⟨ds,[],p++[],[],p,[],hW',?_,?_,?_,hb.frame _,λh=>by cases h⟩
 .rw[e1,hrt];exact trodAll_mk1 (shut_bool htb _)
 .rw[e1];exact Qe hl hb _ _ _ _ hts hlt hA
 .rw[e1,hvars];exact rfl
end
section
open Go.ChangeShapes Go.WideShapes Go.ChangeAt Go.RowKit Go.Deep Go.Ab
inductive Ds where
 | int | str | bool
 | pair (a b:Ds)
 | slice (a:Ds)
@[reducible] def El:Ds->Type
 | .int=>Int
 | .str=>ByteArray
 | .bool=>Bool
 | .pair a b=>El a×El b
 | .slice a=>List (El a)
def Ds.size:Ds->Nat
 | .pair a b=>a.size+b.size
 | _=>1
def Ds.size_pos (d:Ds):0<d.size:=by
 induction d with
 | pair a b iha ihb=>simp only[Ds.size];omega
 | _=>simp[Ds.size]
def Rd (w:World) (B:Nat):(d:Ds)->List Value->El d->Prop
  | .int,cs,n=>cs=[.int .i64 n] /\ -9223372036854775808<=n/\n<=9223372036854775807
  | .str,cs,s=>cs=[.string s]/\s.size<=maxLen
  | .bool,cs,b=>cs=[.bool b]
  | .pair a b,cs,p => ∃ c1 c2,cs=c1++c2/\Rd w B a c1 p.1/\Rd w B b c2 p.2
  | .slice a, cs, l => ∃ A c, cs = [.slice A l.length c] /\ l.length <= c /\ c <= maxLen /\ (A = none -> c = 0) /\
      (0<l.length -> ∃ b off,A=some ⟨b,off,none⟩/\b<B /\ ∀ k (h:k<l.length),∃ r,(∀ j v,r[j]?=some v->w.cell? ⟨b,off+k*a.size+j,none⟩=some v)/\Rd w B a r l[k])
end
end Go.Proofs.YtfcecekilahfiaaGreatDoor
