/-
  Part 3 of the proof: own lemmas and contracts on plain data. No condition beyond those that each lemma states.
-/
import Derived.Test.YtfcecekilahfiaaGreatDoorZr2
import Derived.Shelf.SlSortCmp.WholeK
import Derived.Lib.ReplaceLaws
import Derived.Sort.OwnSorted
import Derived.Lib.RowBridge
set_option linter.all false
set_option maxRecDepth 1000000
set_option maxHeartbeats 4000000
namespace Go.Ab
variable {h:AH}{c:AV}
section
section
variable {P : Program}
section
variable (m : Nat)
variable {m}
def aeff_chg {h h':AH}{τ:Operand->AV}{op:AOp}{c:AV}(he:aeff h τ op=some (c,h')) {i:Nat}(hi:i<h.length) (hg : ∀ j,chgE τ op=some j->i≠j):h'[i]?=h[i]?:=by
  have app : ∀ e:Ent,(h++[e])[i]?=h[i]?:=λe=>List.getElem?_append_left hi;cases op <;> simp only[aeff] at he <;> try (cases he;done)
  case new=>cases he;exact app _
  case box => split at he <;> try (cases he; done)
              split at he <;> cases he
              exact app _
  case lit => split at he <;> cases he
              exact app _
  case store sz p x =>
    split at he <;> try (cases he;done)
    rename_i id ver off cs hp _
    split at he <;> try (cases he;done)
    split at he <;> cases he
    exact List.getElem?_set_ne (Ne.symm (hg id (by simp only[chgE,hp])))
  case app ty sz bytes s x =>
    split at he <;> try (cases he;done)
    split at he <;> try (cases he;done)
    . rename_i id ver n hs
      split at he <;> try (cases he;done)
      split at he <;> cases he
      exact List.getElem?_set_ne (Ne.symm (hg id (by simp only[chgE,hs])))
    . split at he <;> cases he
      exact app _
  case appz =>
    split at he <;> try (cases he;done)
    split at he <;> cases he
    exact app _
def chgOk_ok {R:List Nat}{h h':AH}{τ:Operand->AV}{op:AOp}{c:AV}(he:aeff h τ op=some (c,h')) (hc:chgOk R h.length (chgE τ op)=true) : ∀ id∈R,h'[id]?=h[id]?:=λid hid=>by
 have:=List.all_eq_true.1 hc id hid;simp only[Bool.and_eq_true,Nat.blt_eq] at this;refine aeff_chg he this.1 λj hj e=>?_;have h2:=this.2;rw[hj] at h2;simp[e] at h2
def evOpK (m:Nat) (C:CE) (R:List Nat) (o:AOper) (M:TM) (h:AH):EK :=
 match o.op with
 | .call f xs=>match Q8 C [] (evO M f) (xs.map (evO M)) with
  | some c=>evNK m M o.dst c h
  | none=>match dW C (evO M f) (xs.map (evO M)) h with
   | some (.ret c,h')=>bif R.all (λi=>Ub h'[i]? h[i]?) then evNK m M o.dst c h' else none
   | _=>none
 | .panic _=>none
 | .eqn _ _=>none
 | op=>match aval h (evO M) op with
  | some c=>evNK m M o.dst c h
  | none=>match aeff h (evO M) op with
   | some (c,h')=>bif chgOk R h.length (chgE (evO M) op) then evNK m M o.dst c h' else none
   | none=>none
def evK (m:Nat) (C:CE) (rs:List Nat):List Bool->List AOper->TM->AH->EK
 | _,[],M,h=>some (M,h)
 | q,o::rest,M,h=>match evG o.guard M with
  | some true=>match evOpK m C (bif q.headD true then rs else []) o M h with
   | some (M',h')=>evK m C rs q.tail rest M' h'
   | none=>none
  | some false=>match Qk m M o.dst (.v undef) with
   | some M'=>evK m C rs q.tail rest M' h
   | none=>none
  | none=>none
def evNK_ok {M:TM}{T:List AV}(hR:Rl m M T) {d:Option Nat}{r:TM×AH}(he:evNK m M d c h=some r):r.2=h/\Rl m r.1 (aPut T d c):=by
 unfold evNK at he;split at he <;> cases he;rename_i hp;exact⟨rfl,J1 hR hp⟩
def evOpK_ok {C:CE}(hC:F6 P C) {o:AOper}{M:TM}{T:List AV}(hR:Rl m M T) {h:AH}{rs:List Nat}{r:TM×AH}(he:evOpK m C rs o M h=some r) {K:List AV->AH->Prop}(hr : ∀ T',Rl m r.1 T'->K T' r.2):Mg P rs o T h K:=by
 obtain⟨d,g,op⟩:=o;have fin : ∀ {c:AV} {h':AH},evNK m M d c h'=some r->K (aPut T d c) h':=λhe=>by
  obtain⟨e1,e2⟩:=evNK_ok hR he;rw[<-e1];exact hr _ e2
 have gen:(match aval h (evO M) op with
  | some c=>evNK m M d c h
  | none=>match aeff h (evO M) op with
   | some (c,h')=>bif chgOk rs h.length (chgE (evO M) op) then evNK m M d c h' else none
   | none=>none)=some r->(match aval h (evO M) op with
  | some c=>K (aPut T d c) h
  | none=>match aeff h (evO M) op with
   | some (c,h')=>(∀ id∈rs,h'[id]?=h[id]?)/\K (aPut T d c) h'
   | none=>False):=by
  intro he;split at he
  .exact fin he
  .split at he <;> try (cases he;done)
   rename_i ha;cases hb:chgOk rs h.length (chgE (evO M) op) with
   | false=>rw[hb] at he;cases he
   | true=>rw[hb] at he;exact⟨chgOk_ok ha hb,fin he⟩
 unfold Mg;rw[hR.eval];cases op <;> first | exact gen he | (simp only[evOpK] at he;cases he;done) | skip
 case call f xs =>
  simp only[evOpK] at he
  dsimp only
  split at he
  .rename_i c hx
   exact⟨c,h,Mw hC hx h iO,λ_ _=>rfl,fin he⟩
  .split at he <;> try (cases he;done)
   rename_i c h' hx
   cases hb:rs.all (λi=>Ub h'[i]? h[i]?) with
   | false=>rw[hb] at he;cases he
   | true =>
    rw[hb] at he
    rw[List.all_eq_true] at hb
    exact⟨c,h',T9 hC hx ⟨rfl,rfl⟩,λi hi=>bD (hb i hi),fin he⟩
def mN {C:CE}(hC:F6 P C) {rs:List Nat}{K:List AV->AH->Prop} : ∀ (q:List Bool) (al:List AOper) (M:TM) (T:List AV) (h:AH) (r:TM×AH),Rl m M T->evK m C rs q al M h=some r->(∀ T',Rl m r.1 T'->K T' r.2)->En P rs q al T h K
 | q,[],M,T,h,r,hR,he,hr=>by cases q <;> (cases he;exact hr _ hR)
 | q,o::rest,M,T,h,r,hR,he,hr=>by
  simp only[evK] at he;simp only[En];split at he <;> try (cases he;done)
  .rename_i hg;split at he <;> try (cases he;done)
   rename_i M' h' ho;exact Ov hR hg ⟨λ_=>evOpK_ok hC hR ho (λT' hR'=>mN hC _ rest M' T' h' _ hR' he hr),λh=>by cases h⟩
  .rename_i hg;split at he <;> try (cases he;done)
   rename_i hp;exact Ov hR hg ⟨λh=>(by cases h),λ_=>mN hC _ rest _ _ _ _ (J1 hR hp) he hr⟩
def dB (a b:Bool×List Nat):Bool:=(a.1&&b.1)||a.2.all λx=>!(b.2.contains x)
def sW {a b:Bool×List Nat}(h:dB a b=true):Ky a b:=by
 simp only[dB,Bool.or_eq_true,Bool.and_eq_true,List.all_eq_true] at h;refine h.imp id λh x hx hy=>?_;have:=h x hx;simp[hy] at this
abbrev EU:=Option ((Bool×List Nat)×Bool×TM×AH)
def evNU (m:Nat) (t:Bool×List Nat) (ext:Bool) (M:TM) (d:Option Nat) (c:AV) (h:AH):EU:=match Qk m M d c with
 | some M'=>some (t,ext,M',h)
 | none=>none
def V6 (h:AH):List (Nat×Ent):=(List.range h.length).filterMap λi=>(h[i]?).map λe=>(i,e)
def Ol {p:Nat×Ent}:p∈V6 h↔h[p.1]?=some p.2:=by
 unfold V6;simp only[List.mem_filterMap,List.mem_range,Option.map_eq_some_iff];constructor
 .rintro⟨i,_,e,he,rfl⟩;exact he
 .intro hp;exact⟨p.1,(List.getElem?_eq_some_iff.1 hp).1,p.2,hp,rfl⟩
def Zu {e:Ent}{i:Nat}(he:h[i]?=some e):h.set i e=h:=by
 apply List.ext_getElem?;intro j;by_cases hj:j=i
 .subst hj;rw[List.getElem?_set_self (List.getElem?_eq_some_iff.1 he).1,he]
 .rw[List.getElem?_set_ne (Ne.symm hj)]
def evOpU (m:Nat) (C:CE) (h0:AH) (o:AOper) (ext:Bool) (M:TM) (h:AH):EU :=
 match o.op with
 | .call f xs=>match Q8 C [] (evO M f) (xs.map (evO M)) with
  | some c=>evNU m (false,[]) ext M o.dst c h
  | none=>match (bif ext then Q8 C h0 (evO M f) (xs.map (evO M)) else none) with
   | some c=>evNU m (true,List.range h0.length) ext M o.dst c h
   | none=>match h[0]?,Q8 C h (evO M f) (xs.map (evO M)) with
    | some _,some c=>evNU m (false,(V6 h).map (·.1)) ext M o.dst c h
    | _,_=>none
 | .panic _=>none
 | .eqn _ _=>none
 | .loadR _ _ _=>none
 | op=>match aval [] (evO M) op with
  | some c=>evNU m (false,[]) ext M o.dst c h
  | none=>match (bif ext then aval h0 (evO M) op else none) with
   | some c=>evNU m (true,List.range h0.length) ext M o.dst c h
   | none=>match aupd h (evO M) op with
    | some (c,need,id,e2)=>evNU m (false,need.map (·.1)) (ext&&Nat.ble h0.length id) M o.dst c (h.set id e2)
    | none=>match aallo h.length (evO M) op with
     | some (c,e)=>evNU m (false,[h.length]) ext M o.dst c (h++[e])
     | none=>match Fb h.length (evO M) op with
      | some (c,e)=>evNU m (false,[h.length]) ext M o.dst c (h++[e])
      | none=>none
def evU (m:Nat) (C:CE) (h0:AH):List (List Nat)->List AOper->List (Bool×List Nat)->Bool->TM->AH->EK
 | _,[],_,_,M,h=>some (M,h)
 | q,o::rest,tc,ext,M,h=>match evG o.guard M with
  | some true=>match evOpU m C h0 o ext M h with
   | some (t,ext',M',h')=>bif (q.headD []).all (λi=>dB (tc.getD i (false,[])) t) then evU m C h0 q.tail rest (tc++[t]) ext' M' h' else none
   | none=>none
  | some false=>match Qk m M o.dst (.v undef) with
   | some M'=>evU m C h0 q.tail rest (tc++[(false,[])]) ext M' h
   | none=>none
  | none=>none
def iQ {h0:AH}{e:Ent}(hx:HExt h0 h):HExt h0 (h++[e]):=λi x hi=>by
 have:=hx i x hi;rw[List.getElem?_append_left (List.getElem?_eq_some_iff.1 this).1];exact this
def hext_set {h0:AH}{e:Ent}{id:Nat}(hx:HExt h0 h) (hid:h0.length<=id):HExt h0 (h.set id e):=λi x hi=>by
 have h1:=(List.getElem?_eq_some_iff.1 hi).1;rw[List.getElem?_set_ne om];exact hx i x hi
def evNU_ok {M:TM}{T:List AV}(hR:Rl m M T) {t0 t:Bool×List Nat}{e0 ext':Bool}{d:Option Nat}{h':AH}{M':TM}(he:evNU m t0 e0 M d c h=some (t,ext',M',h')):t=t0/\ext'=e0/\h'=h/\Rl m M' (aPut T d c):=by
 unfold evNU at he;split at he <;> cases he;rename_i hp;exact⟨rfl,rfl,rfl,J1 hR hp⟩
def evOpU_ok {C:CE}(hC:F6 P C) {h0:AH}{o:AOper}{ext ext':Bool}{M M':TM}{T:List AV}(hR:Rl m M T) {h h':AH}{t:Bool×List Nat}(he:evOpU m C h0 o ext M h=some (t,ext',M',h')) (hx:ext=true->HExt h0 h):(ext'=true->HExt h0 h') /\ ∀ (K:Bool×List Nat->List AV->AH->Prop),(∀ T',Rl m M' T'->K t T' h')->austep P h0 o T h K:=by
 obtain⟨d,g,op⟩:=o;have fin : ∀ {t0:Bool×List Nat} {e0:Bool} {c:AV} {h2:AH},evNU m t0 e0 M d c h2=some (t,ext',M',h')->(e0=true->HExt h0 h2)->(ext'=true->HExt h0 h') /\ ∀ (K:Bool×List Nat->List AV->AH->Prop),(∀ T',Rl m M' T'->K t T' h')->K t0 (aPut T d c) h2:=by
  intro t0 e0 c h2 he hx;obtain⟨rfl,rfl,rfl,e4⟩:=evNU_ok hR he;exact⟨hx,λK hk=>hk _ e4⟩
 have gen:(match aval [] (evO M) op with
  | some c=>evNU m (false,[]) ext M d c h
  | none=>match (bif ext then aval h0 (evO M) op else none) with
   | some c=>evNU m (true,List.range h0.length) ext M d c h
   | none=>match aupd h (evO M) op with
    | some (c,need,id,e2)=>evNU m (false,need.map (·.1)) (ext&&Nat.ble h0.length id) M d c (h.set id e2)
    | none=>match aallo h.length (evO M) op with
     | some (c,e)=>evNU m (false,[h.length]) ext M d c (h++[e])
     | none=>match Fb h.length (evO M) op with
      | some (c,e)=>evNU m (false,[h.length]) ext M d c (h++[e])
      | none=>none)=some (t,ext',M',h')->(ext'=true->HExt h0 h') /\ ∀ (K:Bool×List Nat->List AV->AH->Prop),(∀ T',Rl m M' T'->K t T' h') ->
   (∃ c,aval [] (evO M) op=some c/\K (false,[]) (aPut T d c) h) \/
   (∃ c,aval h0 (evO M) op=some c/\HExt h0 h/\K (true,List.range h0.length) (aPut T d c) h) \/
   (∃ c need id e2,aupd h (evO M) op=some (c,need,id,e2)/\K (false,need.map (·.1)) (aPut T d c) (h.set id e2)) \/
   ∃ c ent,(aallo h.length (evO M) op=some (c,ent)\/Fb h.length (evO M) op=some (c,ent))/\K (false,[h.length]) (aPut T d c) (h++[ent]):=by
  intro he;split at he
  .rename_i c h1;exact⟨(fin he hx).1,λK hk=>.inl ⟨c,h1,(fin he hx).2 K hk⟩⟩
  .split at he
   .rename_i c h1;cases hb:ext with
    | false=>rw[hb] at h1;cases h1
    | true=>rw[hb] at h1;exact⟨(fin he hx).1,λK hk=>.inr (.inl ⟨c,h1,hx hb,(fin he hx).2 K hk⟩)⟩
   .split at he
    .rename_i c need id e2 h1;have hf:=fin he λhb=>by
      simp only[Bool.and_eq_true] at hb;exact hext_set (e:=e2) (hx hb.1) (Nat.le_of_ble_eq_true hb.2)
     exact⟨hf.1,λK hk=>.inr (.inr (.inl ⟨c,need,id,e2,h1,hf.2 K hk⟩))⟩
    .split at he
     .rename_i c e h1;have hf:=fin he λhb=>iQ (e:=e) (hx hb);exact⟨hf.1,λK hk=>.inr (.inr (.inr ⟨c,e,.inl h1,hf.2 K hk⟩))⟩
     .split at he <;> try (cases he;done)
      rename_i c e h1;have hf:=fin he λhb=>iQ (e:=e) (hx hb);exact⟨hf.1,λK hk=>.inr (.inr (.inr ⟨c,e,.inr h1,hf.2 K hk⟩))⟩
 unfold austep;rw[hR.eval];cases op <;> first | exact gen he | (simp only[evOpU] at he;cases he;done) | skip
 case call f xs =>
  simp only[evOpU] at he
  dsimp only
  split at he
  .rename_i c h1;exact⟨(fin he hx).1,λK hk=>.inl ⟨c,λh=>Mw hC h1 h iO,(fin he hx).2 K hk⟩⟩
  .split at he
   .rename_i c h1
    cases hb:ext with
    | false=>rw[hb] at h1;cases h1
    | true =>
     rw[hb] at h1
     have hf:=fin he hx
     exact⟨hf.1,λK hk=>.inr (.inl ⟨c,Mw hC h1,hx hb,hf.2 K hk⟩)⟩
   .split at he <;> try (cases he;done)
    rename_i e0 c h1 h2
    have hf:=fin he hx
    refine⟨hf.1,λK hk=>.inr (.inr ⟨c,V6 h,0,e0,λh2' hn=>?_,λp hp=>Ol.1 hp,⟨e0,Ol.2 h1⟩,by rw[Zu h1];exact hf.2 K hk⟩)⟩
    have hxx:HExt h h2':=λi e hi=>hn (i,e) (Ol.2 hi)
    rw[Zu (hxx 0 e0 h1)]
    exact Mw hC h2 h2' hxx
def mM {C:CE}(hC:F6 P C) {h0:AH}{K:List AV->AH->Prop} : ∀ (q:List (List Nat)) (al:List AOper) (tc:List (Bool×List Nat)) (ext:Bool) (M:TM) (T:List AV) (h:AH) (r:TM×AH),Rl m M T->(ext=true->HExt h0 h)->evU m C h0 q al tc ext M h=some r->(∀ T',Rl m r.1 T'->K T' r.2)->Di P h0 q al tc T h K
 | q,[],tc,ext,M,T,h,r,hR,hx,he,hr=>by simp only[evU,Option.some.injEq] at he;subst he;simp only[Di];exact hr _ hR
 | q,o::rest,tc,ext,M,T,h,r,hR,hx,he,hr=>by
  simp only[evU] at he;simp only[Di];split at he <;> try (cases he;done)
  .rename_i hg;split at he <;> try (cases he;done)
   rename_i t ext' M' h' ho;obtain⟨h1,h2⟩:=evOpU_ok hC hR ho hx;cases hb:(q.headD []).all (λi=>dB (tc.getD i (false,[])) t) with
   | false=>rw[hb] at he;cases he
   | true =>
    rw[hb] at he
    rw[List.all_eq_true] at hb
    exact Ov hR hg ⟨λ_=>h2 _ λT' hR'=>⟨λi hi=>sW (hb i hi),mM hC _ rest _ _ M' T' h' _ hR' h1 he hr⟩,λh=>by cases h⟩
  .rename_i hg;split at he <;> try (cases he;done)
   rename_i hp;exact Ov hR hg ⟨λh=>(by cases h),λ_=>mM hC _ rest _ _ _ _ _ _ (J1 hR hp) hx he hr⟩
def dV (F:TM->AH->ES):Nat->TM->AH->ES
 | 0,_,_=>none
 | n+1,M,h=>match F M h with
  | some (.normal,M1,h1)=>dV F n M1 h1
  | r=>r
def evAC (m:Nat) (C:CE) (L:Nat):AC->TM->AH->ES
 | .skip,M,h=>some (.normal,M,h)
 | .reg al,M,h=>Yf m C al M h
 | .drw b q t,M,h=>match evD m C h b M [] [] with
  | some (M1,ents,rs)=>match evK m C rs q t M1 (h++ents) with
   | some (M2,h2)=>some (.normal,M2,h2)
   | none=>none
  | none=>none
 | .drwU q al,M,h=>match evU m C h q al [] true M h with
  | some (M2,h2)=>some (.normal,M2,h2)
  | none=>none
 | .orPan a _ _ _ _,M,h=>evAC m C L a M h
 | .seq a b,M,h=>match evAC m C L a M h with
  | some (.normal,M1,h1)=>evAC m C L b M1 h1
  | r=>r
 | .cond c a b,M,h=>match evO M c with
  | .v (.bool true)=>evAC m C L a M h
  | .v (.bool false)=>evAC m C L b M h
  | _=>none
 | .block id a,M,h=>match evAC m C L a M h with
  | some (.exit i,M1,h1)=>bif Nat.beq i id then some (.normal,M1,h1) else some (.exit i,M1,h1)
  | r=>r
 | .loop a,M,h=>dV (evAC m C L a) L M h
 | .exit id,M,h=>some (.exit id,M,h)
 | .ret,M,h=>some (.ret,M,h)
def evN_ax {M:TM}{d:Option Nat}{r:AX×TM×AH}(he:evN m M d c h=some r):r.1=.normal:=by
 unfold evN at he;split at he <;> cases he;rfl
def Ye {C:CE} : ∀ (al:List AOper) (M:TM) (h:AH) (r:AX×TM×AH),Yf m C al M h=some r->r.1=.normal \/ ∃ c,r.1=.pan c
 | [],M,h,r,he=>by cases he;exact .inl rfl
 | o::rest,M,h,r,he=>by
  simp only[Yf] at he;split at he <;> try (cases he;done)
  .split at he
   .exact Ye rest _ _ r he
   .unfold evOp at he;repeat' (split at he)
    all_goals first | exact .inl (evN_ax he) | (cases he;done) | (cases he;exact .inr ⟨_,rfl⟩)
  .split at he <;> try (cases he;done)
   exact Ye rest _ _ r he
def dX {C:CE}(hC:F6 P C) {n0 L:Nat} : ∀ (a:AC) (M:TM) (T:List AV) (h:AH) (r:AX×TM×AH) (Q:AX->List AV->AH->Prop),Rl m M T->evAC m C L a M h=some r->(∀ T',Rl m r.2.1 T'->Q r.1 T' r.2.2)->aw P n0 a Q T h:=by
 intro a;induction a with
 | skip=>intro M T h r Q hR he hq;cases he;exact hq _ hR
 | reg al =>
  intro M T h r Q hR he hq
  refine Yc hC al M T h r hR he ?_
  obtain⟨x,M',h'⟩:=r
  rcases Ye al M h _ he with e | ⟨c,e⟩ <;> (simp only at e;subst e;exact hq)
 | drw b q t =>
  intro M T h r Q hR he hq
  simp only[evAC] at he
  split at he <;> try (cases he;done)
  rename_i M1 ents rs h1
  split at he <;> cases he
  rename_i M2 h2 h3
  exact⟨rs,(mP hC _ _ _ _ _ _ hR h1).2 rs _ (λ_ h=>h) λT' hR'=>mN hC _ _ _ _ _ _ hR' h3 hq⟩
 | drwU q al =>
  intro M T h r Q hR he hq
  simp only[evAC] at he
  split at he <;> cases he
  rename_i M2 h2 h3
  exact mM hC _ _ _ _ _ _ _ _ hR (λ_ i x hi=>hi) h3 hq
 | orPan a x f al d0 ih=>intro M T h r Q hR he hq;exact .inl (ih M T h r Q hR he hq)
 | seq a b iha ihb =>
  intro M T h r Q hR he hq
  simp only[evAC] at he
  split at he
  .rename_i M1 h1 h2
   exact iha M T h _ _ hR h2 λT1 hR1=>⟨T1,h1,ALe.refl,ihb M1 T1 h1 r Q hR1 he hq⟩
  .rename_i hne
   refine iha M T h _ _ hR he ?_
   obtain⟨x,M',h'⟩:=r
   cases x
   .exact (hne M' h' he).elim
   all_goals exact hq
 | cond c a b iha ihb =>
  intro M T h r Q hR he hq
  simp only[evAC] at he
  simp only[aw]
  rw[hR.eval]
  split at he <;> try (cases he;done)
  .rename_i hc;rw[hc];exact⟨λ_=>iha M T h r Q hR he hq,λh=>by cases h⟩
  .rename_i hc;rw[hc];exact⟨λh=>(by cases h),λ_=>ihb M T h r Q hR he hq⟩
 | block id a ih =>
  intro M T h r Q hR he hq
  simp only[evAC] at he
  split at he
  .rename_i i M1 h1 h2
   refine ih M T h _ _ hR h2 λT' hR'=>?_
   simp only[AX.blk]
   simp only[qS] at he
   by_cases hi:i=id
   .simp only[hi,decide_true,cond_true] at he;cases he;rw[if_pos hi];exact hq _ hR'
   .simp only[hi,decide_false,cond_false] at he;cases he;rw[if_neg hi];exact hq _ hR'
  .rename_i hne
   refine ih M T h _ _ hR he ?_
   obtain⟨x,M',h'⟩:=r
   cases x
   case exit i=>exact (hne i M' h' he).elim
   all_goals exact hq
 | loop a ih =>
  intro M T h r Q hR he hq
  simp only[evAC] at he
  refine⟨λn T h => ∃ M,Rl m M T/\dV (evAC m C L a) n M h=some r,L,⟨T,h,ALe.refl,M,hR,he⟩,?_⟩
  rintro n T h ⟨M,hR,hn⟩
  cases n with
  | zero=>cases hn
  | succ k =>
   simp only[dV] at hn
   split at hn
   .rename_i M1 h1 h2
    exact ih M T h _ _ hR h2 λT1 hR1=>⟨k,Nat.lt_succ_self k,T1,h1,ALe.refl,M1,hR1,hn⟩
   .rename_i hne
    refine ih M T h _ _ hR hn ?_
    obtain⟨x,M',h'⟩:=r
    cases x
    .exact (hne M' h' hn).elim
    all_goals exact hq
 | exit id=>intro M T h r Q hR he hq;cases he;exact hq _ hR
 | ret=>intro M T h r Q hR he hq;cases he;exact hq _ hR
end
def tmIn:List AV->Nat->TM->TM
 | [],_,M=>M
 | c::cs,i,M=>tmIn cs (i+1) (TM.put c (pth i) M)
def fH : ∀ (cs:List AV) (i:Nat) (M:TM) (j:Nat),i+cs.length<=4095->(tmIn cs i M).get (pth j)=if i<=j/\j<i+cs.length then (cs[j-i]?).getD .any else M.get (pth j)
 | [],i,M,j,h=>by simp only[tmIn,List.length_nil];rw[if_neg om]
 | c::cs,i,M,j,h=>by
  simp only[List.length_cons] at h ⊢;rw[tmIn,fH cs (i+1) _ j om,TM.get_put];by_cases hj:j=i
  .subst hj;rw[if_neg om,if_pos rfl,if_pos om];simp
  .rw[if_neg (pth_ne om hj)];by_cases h1:i+1<=j/\j<i+1+cs.length
   .rw[if_pos h1,if_pos om,show j-i=j-(i+1)+1 by omega];rfl
   .rw[if_neg h1,if_neg om]
def tmIn_rl {args:List AV}{m:Nat}(h1:args.length<=m) (h2:args.length<=4095):Rl m (tmIn args 0 .leaf) (args++List.replicate (m-args.length) .any):=by
 refine⟨by simp;omega,λi=>?_⟩;rw[fH args 0 .leaf i om];by_cases hi:i<args.length
 .rw[if_pos om,List.getElem?_append_left hi];rfl
 .rw[if_neg om,List.getElem?_append_right om,List.getElem?_replicate];split <;> rfl
def evR1 (m:Nat) (M:TM) (h:AH):AR->Option AV
 | .tmp t=>bif Nat.blt t m then some (M.get (pth t)) else none
 | .cell t agg sz=>match Fe h (M.get (pth t)) with
  | some cs=>Ed agg sz cs
  | none=>none
def evR1_ok {m:Nat}{M:TM}{T:List AV}(hR:Rl m M T) {h:AH} : ∀ {r:AR}{c:AV},evR1 m M h r=some c->Ja T h r=some c
 | .tmp t,c,he=>by
  simp only[evR1] at he;cases hb:Nat.blt t m with
  | false=>rw[hb] at he;cases he
  | true =>
   rw[hb] at he
   cases he
   rw[Nat.blt_eq] at hb
   have:=hR.get t
   rw[List.getElem?_eq_getElem (by rw[hR.len];exact hb)] at this
   simp only[Ja]
   rw[List.getElem?_eq_getElem (by rw[hR.len];exact hb),<-this];rfl
 | .cell t agg sz,c,he=>by
  simp only[evR1] at he;split at he <;> try (cases he;done)
  rename_i cs hc;have hg:=hR.get t;simp only[Ja];cases hT:T[t]? with
  | none=>rw[hT] at hg;rw[<-hg] at hc;cases hc
  | some p =>
   rw[hT] at hg
   rw[show p=M.get (pth t) from hg]
   simp only[hc,Option.bind_some];exact he
def evRs (m:Nat) (M:TM) (h:AH):List AR->Option (List AV)
 | []=>some []
 | r::rs=>match evR1 m M h r,evRs m M h rs with
  | some c,some cs=>some (c::cs)
  | _,_=>none
def pQ {m:Nat}{M:TM}{T:List AV}(hR:Rl m M T) {h:AH} : ∀ {rs:List AR}{cs:List AV},evRs m M h rs=some cs->rs.mapM (Ja T h)=some cs
 | [],cs,he=>by cases he;rfl
 | r::rs,cs,he=>by
  simp only[evRs] at he;split at he <;> cases he;rename_i h1 h2;rw[List.mapM_cons,evR1_ok hR h1,pQ hR h2];rfl
def iX:List AV->AV
 | [c]=>c
 | cs=>.tup cs
def iZ {m:Nat}{M:TM}{T:List AV}(hR:Rl m M T) {h:AH}{rs:List AR}{cs:List AV}(he:evRs m M h rs=some cs):aRes rs T h=some (iX cs):=by
 unfold aRes;rw[pQ hR he];match cs with
 | [c]=>rfl
 | []=>rfl
 | c::d::cs=>rfl
def evFin (n:Nat) (r:AV) (h:AH):Option (AE×AH):=bif Nat.ble n h.length&&(h.take n).all (Ent.lt n) then (match r.frz h n 100000 with
 | some d=>some (.ret d,h.take n)
 | none=>some (.ret r,h)) else some (.ret r,h)
def jB {f:FuncId}{args:List AV}{h h1:AH}{r:AV}{x:AE}{h2:AH}(hc:ACalls P f args h λy z=>z=h1/\y=.ret r) (he:evFin h.length r h1=some (x,h2)):ACalls P f args h λy z=>z=h2/\y=x:=by
 unfold evFin at he;cases hb:Nat.ble h.length h1.length&&(h1.take h.length).all (Ent.lt h.length) with
 | false=>rw[hb] at he;cases he;exact hc
 | true =>
  rw[hb] at he
  simp only[cond_true] at he
  simp only[Bool.and_eq_true] at hb
  split at he <;> cases he
  .rename_i d hd;exact hc.frz (Nat.le_of_ble_eq_true hb.1) hb.2 hd
  .exact hc
def evEnd (af:AF) (n:Nat) (r:ES):Option (AE×AH):=match r with
 | some (.normal,M,h1)=>match evRs af.ntmps M h1 af.res with
  | some cs=>evFin n (iX cs) h1
  | none=>none
 | some (.ret,M,h1)=>match evRs af.ntmps M h1 af.res with
  | some cs=>evFin n (iX cs) h1
  | none=>none
 | some (.pan c,_,h1)=>some (.pan c,h1)
 | _=>none
def evRun (C:CE) (L:Nat) (args:List AV) (h:AH):Option AF->Option (AE×AH)
 | some af=>bif Nat.ble args.length af.ntmps&&Nat.ble args.length 4095 then evEnd af h.length (evAC af.ntmps C L af.code (tmIn args 0 .leaf) h) else none
 | none=>none
def iY {C:CE}(hC:F6 P C) {L:Nat}{f:FuncId}{args:List AV}{h:AH}{o:Option AF}(ho : ∀ af,o=some af -> ∀ {R:AE->AH->Prop},aw P h.length af.code (retA af.res R) (args++List.replicate (af.ntmps-args.length) .any) h->ACalls P f args h R) {x:AE}{h1:AH}(he:evRun C L args h o=some (x,h1)):ACalls P f args h λy k=>k=h1/\y=x:=by
 unfold evRun at he;split at he <;> try (cases he;done)
 rename_i af;have hf := @ho af rfl;cases hb:Nat.ble args.length af.ntmps&&Nat.ble args.length 4095 with
 | false=>rw[hb] at he;cases he
 | true =>
  rw[hb] at he
  simp only[cond_true] at he
  simp only[Bool.and_eq_true] at hb
  have hR:=tmIn_rl (Nat.le_of_ble_eq_true hb.1) (Nat.le_of_ble_eq_true hb.2)
  unfold evEnd at he
  split at he
  .rename_i M h2 hr
   split at he <;> try (cases he;done)
   rename_i cs ha
   refine jB (h1:=h2) (r:=iX cs) (hf (dX hC _ _ _ _ _ _ hR hr λT' hR'=>?_)) he
   show retA _ _ _ _ _
   simp only[retA,iZ hR' ha,and_self]
  .rename_i M h2 hr
   split at he <;> try (cases he;done)
   rename_i cs ha
   refine jB (h1:=h2) (r:=iX cs) (hf (dX hC _ _ _ _ _ _ hR hr λT' hR'=>?_)) he
   show retA _ _ _ _ _
   simp only[retA,iZ hR' ha,and_self]
  .rename_i c M h2 hr
   cases he
   exact hf (dX hC _ _ _ _ _ _ hR hr λT' hR'=>⟨rfl,rfl⟩)
  .cases he
def evF (P:Program) (O:CE) (L:Nat):Nat->CE
 | 0=>λ_ _ _=>none
 | k+1=>λf args h=>match O f args h with
  | some r=>some r
  | none=>match evRun (evF P O L k) L args h (Em P f) with
   | some r=>some r
   | none=>evRun (evF P O L k) L args h (K9 P none f)
def mO {O:CE}(hO:F6 P O) {L:Nat} : ∀ k,F6 P (evF P O L k)
 | 0=>λf args h x h1 he=>by cases he
 | k+1=>λf args h x h1 he=>by
  simp only[evF] at he;split at he
  .rename_i r hr;cases he;exact hO _ _ _ _ _ hr
  .split at he
   .rename_i r hr;cases he;exact iY (mO hO k) (λaf hf=>ACalls.of_aw hf) hr
   .exact iY (mO hO k) (λaf hf=>ACalls.of_awU hf) he
def noO:CE:=λ_ _ _=>none
def noO_ok:F6 P noO:=λ_ _ _ _ _ he=>by cases he
def orc (f:FuncId) (args:List AV) (c:AV):CE:=λf' ats h=>bif Nat.beq f' f&&AV.eqbL ats args then some (.ret c,h) else none
def Ek {f:FuncId}{args:List AV}{c:AV}(hc : ∀ h,ACalls P f args h λy z=>z=h/\y=.ret c):F6 P (orc f args c):=λf' ats h x h1 he=>by
 unfold orc at he;cases hb:Nat.beq f' f&&AV.eqbL ats args with
 | false=>rw[hb] at he;cases he
 | true =>
  rw[hb] at he
  cases he
  simp only[Bool.and_eq_true] at hb
  have e1:=Nat.eq_of_beq_eq_true hb.1
  have e2:=AV.eqbL_eq hb.2
  subst e1 e2
  exact hc h
def orcs (O1 O2:CE):CE:=λf args h=>match O1 f args h with
 | some r=>some r
 | none=>O2 f args h
def Fc {O1 O2:CE}(h1:F6 P O1) (h2:F6 P O2):F6 P (orcs O1 O2):=λf args h x k he=>by
 unfold orcs at he;split at he
 .rename_i r hr;cases he;exact h1 _ _ _ _ _ hr
 .exact h2 _ _ _ _ _ he
def ACalls.ev {f:FuncId}{args:List AV}{O:CE}(L k:Nat) (hO:F6 P O) (he:evF P O L k f args []=some (.ret c,[])) (hl:AV.ltL 0 args=true:=by rfl) (hc:c.lt 0=true:=by rfl):ACalls P f args h λy z=>z=h/\y=.ret c :=
 ACalls.frame h (mO hO k _ _ _ _ _ he) rfl hc hl (λ_ h=>by cases h)
end
end
end Go.Ab
namespace Go.Proofs.YtfcecekilahfiaaGreatDoor
open Go.Ab
variable {h:AH}{x:Era}{b n sh y:Int}{g:Int->Loc}{es:List Era}{L:List Int}{l rl:List Rul}{r:Rul}
section
open Go.Ab Civ
abbrev Trn:=Int×Rul
abbrev Tim:=Int×Int×ByteArray
abbrev trnC (t:Trn):List AV:=iv t.1::rulC t.2
abbrev timC (t:Tim):List AV:=[iv t.1,iv t.2.1,sv t.2.2]
def Wq {n:Nat}(l:List Trn):AV.ltL n (rows trnC l)=true:=Eh (λn x=>by simp[AV.ltL,AV.lt]) l
def Ix {n:Nat}(l:List Tim):AV.ltL n (rows timC l)=true:=Eh (λn x=>by simp[AV.ltL,AV.lt]) l
def B3 : ∀ x,(trnC x).length=12:=λ_=>rfl
def Iy : ∀ x,(timC x).length=3:=λ_=>rfl
def nT (l:List Trn):(rows trnC l).length=l.length*12:=C9 B3 l
def H0 (l:List Tim):(rows timC l).length=l.length*3:=C9 Iy l
instance decTim:DecidableEq Tim:=inferInstance
abbrev rFr (r:Rul):Int:=r.2.1
abbrev rTo (r:Rul):Int:=r.2.2.1
abbrev rDy (r:Rul) (y:Int):Int:=Gl y r.2.2.2.1 r.2.2.2.2.1.1 r.2.2.2.2.1.2.1 r.2.2.2.2.1.2.2
abbrev rAt (r:Rul):Int:=r.2.2.2.2.2.1
abbrev rCk (r:Rul):Int:=r.2.2.2.2.2.2.1
abbrev rSv (r:Rul):Int:=r.2.2.2.2.2.2.2.1
abbrev rLt (r:Rul):ByteArray:=r.2.2.2.2.2.2.2.2
def Hm (r:Rul) (y:Int):Int:=rDy r y*86400+rAt r
def D2 (a b:Int):List Int:=(List.range (b+1-a).toNat).map λ(k:Nat)=>a+(k:Int)
def Gu (r:Rul):List Trn:=(D2 (rFr r) (rTo r)).map λy=>(Hm r y,r)
def C5 (l:List Rul) (nm:ByteArray):List Trn:=l.flatMap λr=>if r.1=nm then Gu r else []
def offV (r:Rul) (sh sa:Int):Int:=if rCk r=1 then sh+sa else if rCk r=2 then sh else 0
def timV (sh sa:Int) (t:Trn):Tim:=(t.1-offV t.2 sh sa,rSv t.2,rLt t.2)
def outV (sh:Int):Int->List Trn->List Tim
 | _,[]=>[]
 | sa,t::l=>timV sh sa t::outV sh (rSv t.2) l
def gapB:List Trn->Bool
 | a::b::l=>decide (b.1-a.1<172800)||gapB (b::l)
 | _=>false
def srtT (l:List Trn):List Trn:=l.mergeSort λa b=>decide (a.1<=b.1)
def Hn (l:List Rul) (nm:ByteArray) (sh:Int):Int :=
 if 40<l.length then 2 else if Dc Dd l≠0 then Dc Dd l else if sh < -64800\/sh>64800 then 3
 else if l.any (λr=>decide (r.1=nm))=false then 5 else 0
def Cv (l:List Rul) (nm:ByteArray) (sh:Int):List Tim×Int :=
 if Hn l nm sh≠0 then ([],Hn l nm sh)
 else if gapB (srtT (C5 l nm))=true then ([],4)
 else if 1000<(C5 l nm).length then ([],2) else (outV sh 0 (srtT (C5 l nm)),0)
def Ww (l:List Trn):(srtT l).Perm l:=List.mergeSort_perm l _
def lC (l:List Trn):(srtT l).Pairwise λa b=>a.1<=b.1:=by
 have h:=List.pairwise_mergeSort (le:=λa b:Trn=>decide (a.1<=b.1)) (λa b c h1 h2=>by simp at *;omega) (λa b=>by simp;omega) l;exact h.imp λh=>by simpa using h
def srt_len (l:List Trn):(srtT l).length=l.length:=List.length_mergeSort l
def P8 {a b:Trn}{l:List Trn}:gapB (a::b::l)=(decide (b.1-a.1<172800)||gapB (b::l)):=rfl
def mA {l m:List Trn}(hp:l.Perm m) (h1:l.Pairwise λa b=>a.1<=b.1) (h2:m.Pairwise λa b=>a.1<=b.1):l.map (·.1)=m.map (·.1):=by
 refine List.Perm.eq_of_pairwise (le:=λa b:Int=>a<=b) (λa b _ _ h1 h2=>by omega) ?_ ?_ (hp.map _)
 .exact List.pairwise_map.2 h1
 .exact List.pairwise_map.2 h2
def gapI:List Int->Bool
 | a::b::l=>decide (b-a<172800)||gapI (b::l)
 | _=>false
def X6 : ∀ l:List Trn,gapB l=gapI (l.map (·.1))
 | []=>rfl
 | [_]=>rfl
 | a::b::l=>by rw[P8,X6 (b::l)];rfl
def Q6 : ∀ {l:List Trn},gapB l=false->l.Pairwise (λa b=>a.1<=b.1)->l.Pairwise λa b=>a.1<b.1
 | [],_,_=>.nil
 | [a],_,_=>by simp
 | a::b::l,h,hp=>by
  rw[P8,Bool.or_eq_false_iff] at h;have h1:¬b.1-a.1<172800:=by simpa using h.1
  rw[List.pairwise_cons] at hp;have ih:=Q6 h.2 hp.2;refine List.pairwise_cons.2 ⟨λx hx=>?_,ih⟩;rcases List.mem_cons.1 hx with rfl | hx
  .omega
  .have:=(List.pairwise_cons.1 hp.2).1 x hx;omega
def gap_uniq {l m:List Trn}(hp:l.Perm m) (h1:l.Pairwise λa b=>a.1<=b.1) (h2:m.Pairwise λa b=>a.1<=b.1):gapB l=gapB m/\(gapB l=false->l=m):=by
 have e:gapB l=gapB m:=by rw[X6,X6,mA hp h1 h2]
 refine⟨e,λh=>?_⟩;exact List.Perm.eq_of_pairwise (le:=λa b:Trn=>a.1<b.1) (λa b _ _ h1 h2=>by omega) (Q6 h h1) (Q6 (e ▸ h) h2) hp
def Sq : ∀ l:List Trn,gapB l=false ↔ ∀ i (h:i+1<l.length),172800<=l[i+1].1-l[i].1
 | []=>by simp[gapB]
 | [_]=>by simp[gapB]
 | a::b::l=>by
  rw[P8,Bool.or_eq_false_iff,Sq (b::l)];constructor
  .rintro⟨h1,h2⟩ i hi;cases i with
   | zero=>simp at h1 ⊢;omega
   | succ i=>exact h2 i (by simpa using hi)
  .intro h;refine⟨?_,λi hi=>h (i+1) (by simpa using hi)⟩;have:=h 0 (by simp);simp at this ⊢;omega
def tW {l:List Trn}{i:Nat}(h:i+1<l.length) (hg:l[i+1].1-l[i].1<172800):gapB l=true:=by
 by_cases e:gapB l=true
 .exact e
 .have:=(Sq l).1 (by simpa using e) i h;omega
def svAt (l:List Trn) (i:Nat):Int:=match i with
 | 0=>0
 | i+1=>match l[i]? with
  | some t=>rSv t.2
  | none=>0
def Pn {l:List Trn}{i:Nat}(h:i<l.length):svAt l (i+1)=rSv l[i].2:=by
 show (match l[i]? with | some t=>rSv t.2 | none=>0)=_;rw[List.getElem?_eq_getElem h]
def lastS:Int->List Trn->Int
 | sa,[]=>sa
 | _,t::l=>lastS (rSv t.2) l
def X0 : ∀ (l:List Trn) (t:Trn) (sa:Int),lastS sa (l++[t])=rSv t.2
 | [],t,sa=>rfl
 | u::l,t,sa=>X0 l t (rSv u.2)
def gH : ∀ (l m:List Trn) (sh sa:Int),outV sh sa (l++m)=outV sh sa l++outV sh (lastS sa l) m
 | [],m,sh,sa=>rfl
 | t::l,m,sh,sa=>by rw[List.cons_append,outV,gH l m,outV,List.cons_append];rfl
def Il {l:List Trn}{i:Nat}(h:i<l.length) (sh:Int):outV sh 0 (l.take (i+1))=outV sh 0 (l.take i)++[timV sh (svAt l i) l[i]]:=by
 rw[List.take_succ_eq_append_getElem h,gH];congr 1;rw[outV,outV];cases i with
 | zero=>rfl
 | succ i=>rw[Pn om,List.take_succ_eq_append_getElem (i:=i) om,X0]
def J0 : ∀ (l:List Trn) (sh sa:Int),(outV sh sa l).length=l.length
 | [],_,_=>rfl
 | t::l,sh,sa=>by rw[outV,List.length_cons,J0 l,List.length_cons]
def Ea (h:Dd r=0):1900<=rFr r/\rFr r<=rTo r/\rTo r<=2100/\(1<=r.2.2.2.1/\r.2.2.2.1<=12)/\Dt 2001 r.2.2.2.1 r.2.2.2.2.1.1 r.2.2.2.2.1.2.1 r.2.2.2.2.1.2.2=0/\(0<=rAt r/\rAt r<=172800)/\clkB (rCk r) true=true/\(0<=rSv r/\rSv r<=10800):=by
 unfold Dd at h;split at h
 .omega
 split at h
 .omega
 rename_i h2;split at h
 .rename_i h3;exact absurd h h3
 rename_i h3;split at h
 .omega
 rename_i h4;split at h
 .omega
 rename_i h5;split at h
 .omega
 rename_i h6;have w1:wi r.2.2.2.1 1 12=true:=Decidable.of_not_not λe=>h2 (.inr (.inr (.inr e)));refine⟨show 1900<=r.2.1 by omega,show r.2.1<=r.2.2.1 by omega,show r.2.2.1<=2100 by omega,Dl.1 w1,?_,Dl.1 (Decidable.of_not_not h4),Decidable.of_not_not h5,Dl.1 (Decidable.of_not_not h6)⟩;by_cases e:Dt 2001 r.2.2.2.1 r.2.2.2.2.1.1 r.2.2.2.2.1.2.1 r.2.2.2.2.1.2.2=0
 .exact e
 .exact absurd (Decidable.of_not_not h3) (by rw[To rfl e];exact e)
def tB (m y:Int):mlen 2001 m<=mlen y m:=by
 have:=Xx y;have e:lp 2001=0:=by decide
 unfold mlen;rw[e];split <;> (try split) <;> (try split) <;> (try split) <;> (try split) <;> omega
def tX {m k w:Int}(h:Dt 2001 m k w n=0) (hy:1<=y/\y<=9999):Dt y m k w n=0:=by
 obtain⟨_,h2,h3,h4,h5,h6,h7⟩:=X7 h;have:=tB m y;unfold Dt;repeat' split
 all_goals omega
def onDay_bd {m k w:Int}(h:Dt y m k w n=0) (hy:1900<=y/\y<=2100) : -30000<=Gl y m k w n/\Gl y m k w n<=50000:=by
 obtain⟨h1,h2,h3,h4,h5,h6,h7⟩:=X7 h;have hm:=H5 y m;have a:=Le (a:=1900) (b:=y) hy.1;have b:=Le (a:=y) (b:=2100) hy.2;have c:=Yl (y:=y) (m:=m) h2.1 om;have e1:bef 1900=693595:=by decide
 have e2:bef 2100=766644:=by decide
 unfold Gl fwd bwd num;repeat' split
 all_goals omega
def R9 (h:Dd r=0) (hy:1900<=y/\y<=2100):onV y r.2.2.2.1 r.2.2.2.2.1.1 r.2.2.2.2.1.2.1 r.2.2.2.2.1.2.2=(De (rDy r y),0) /\ -30000<=rDy r y/\rDy r y<=50000:=by
 obtain⟨_,_,_,_,h5,_⟩:=Ea h;have hf:=tX (y:=y) h5 om;have hb:=onDay_bd hf hy;exact⟨by rw[Qw hf rfl,if_pos om],hb⟩
def rH (h:Dd r=0) (hy:1900<=y/\y<=2100) : -2592000000<=Hm r y/\Hm r y<=4320172800:=by
 have:=(R9 h hy).2;obtain⟨_,_,_,_,_,h6,_⟩:=Ea h;unfold Hm;omega
def G9 {α:Type}{p:α->Int} : ∀ {l:List α},Dc p l=0 -> ∀ x∈l,p x=0
 | [],_,x,hx=>by cases hx
 | a::l,h,x,hx=>by
  rw[Dc] at h;split at h
  .rename_i h1;exact absurd h h1
  .rename_i h1;rcases List.mem_cons.1 hx with rfl | hx
   .exact Decidable.of_not_not h1
   .exact G9 h x hx
def Pv {nm:ByteArray}(h:Hn l nm sh=0):l.length<=40/\(∀ r∈l,Dd r=0)/\(-64800<=sh/\sh<=64800) /\ ∃ r∈l,r.1=nm:=by
 unfold Hn at h;split at h
 .omega
 split at h
 .rename_i h1;exact absurd h h1
 rename_i h1;split at h
 .omega
 split at h
 .omega
 rename_i h2;refine⟨by omega,G9 (Decidable.of_not_not h1),by omega,?_⟩;have h3:l.any (λr=>decide (r.1=nm))=true:=by simpa using h2
 simpa using h3
def Mo {a:Int}:y∈D2 a b↔a<=y/\y<=b:=by
 unfold D2;simp only[List.mem_map,List.mem_range];constructor
 .rintro⟨k,hk,rfl⟩;omega
 .intro h;exact⟨(y-a).toNat,by omega,by omega⟩
def Hd (a b:Int):(D2 a b).length=(b+1-a).toNat:=by simp[D2]
def tE {nm:ByteArray}{t:Trn}:t∈C5 l nm↔t.2∈l/\t.2.1=nm /\ ∃ y,(rFr t.2<=y/\y<=rTo t.2)/\t.1=Hm t.2 y:=by
 unfold C5;rw[List.mem_flatMap];constructor
 .rintro⟨r,hr,h⟩;split at h
  .rename_i hn;obtain⟨y,hy,rfl⟩:=List.mem_map.1 h;exact⟨hr,hn,y,Mo.1 hy,rfl⟩
  .cases h
 .rintro⟨hr,hn,y,hy,e⟩;refine⟨t.2,hr,?_⟩;rw[if_pos hn];exact List.mem_map.2 ⟨y,Mo.2 hy,by rw[<-e]⟩
def Rp {nm:ByteArray}(h : ∀ r∈l,Dd r=0) {t:Trn}(ht:t∈C5 l nm):Dd t.2=0 /\ -2592000000<=t.1/\t.1<=4320172800:=by
 obtain⟨h1,h2,y,hy,e⟩:=tE.1 ht;have h3:=h _ h1;obtain⟨q1,q2,q3,_⟩:=Ea h3;rw[e];exact⟨h3,rH h3 om⟩
def Qs (h:Dd r=0):(Gu r).length<=201/\((Gu r).length:Int)=rTo r-rFr r+1:=by
 obtain⟨h1,h2,h3,_⟩:=Ea h;unfold Gu;rw[List.length_map,Hd];omega
def Pj : ∀ {l:List Rul}{nm:ByteArray},(∀ r∈l,Dd r=0)->(C5 l nm).length<=201*l.length
 | [],nm,_=>by simp[C5]
 | r::l,nm,h=>by
  have ih:=Pj (l:=l) (nm:=nm) λx hx=>h x (by simp[hx]);have h1:=Qs (h r (by simp));unfold C5 at ih ⊢;rw[List.flatMap_cons,List.length_append,List.length_cons];split
  .omega
  .rw[List.length_nil];omega
def Wp {k:Nat}(hk:k<l.length) (nm:ByteArray):C5 (l.take (k+1)) nm=C5 (l.take k) nm++(if l[k].1=nm then Gu l[k] else []):=by
 unfold C5;rw[List.take_succ_eq_append_getElem hk,List.flatMap_append,List.flatMap_cons,List.flatMap_nil,List.append_nil]
def Zl {a c:Int}(h1:a<=b+1) (h2:b<=c):D2 a c=D2 a b++D2 (b+1) c:=by
 refine List.ext_getElem (by rw[List.length_append,Hd,Hd,Hd];omega) λi h3 h4=>?_;rw[List.getElem_append];rw[Hd] at h3;split
 .simp[D2]
 .rename_i h5;rw[Hd] at h5;simp only[D2,List.getElem_map,List.getElem_range];have:(List.map (λ(k:Nat)=>a+(k:Int)) (List.range (b+1-a).toNat)).length=(b+1-a).toNat:=by simp
  rw[this];omega
def oF {l:List Trn}{i:Nat}(h : ∀ t∈l,Dd t.2=0):0<=svAt l i/\svAt l i<=10800:=by
 cases i with
 | zero=>simp[svAt]
 | succ i =>
  show 0<=(match l[i]? with | some t=>rSv t.2 | none=>0)/\(match l[i]? with | some t=>rSv t.2 | none=>0)<=10800
  cases e:l[i]? with
  | none=>exact⟨by simp,by simp⟩
  | some t =>
   obtain⟨_,_,_,_,_,_,_,h8⟩:=Ea (h t (List.mem_of_getElem? e))
   exact h8
def pA {sa:Int}(h : -64800<=sh/\sh<=64800) (h2:0<=sa/\sa<=10800) : -64800<=offV r sh sa/\offV r sh sa<=75600:=by
 unfold offV;split
 .omega
 split <;> omega
def yrT (l:List Rul) (nm:ByteArray) (y:Int):List Trn:=l.flatMap λr=>if r.1=nm/\wi y (rFr r) (rTo r)=true then [(Hm r y,r)] else []
def Mu {α β:Type}(f g:α->List β) : ∀ l:List α,(l.flatMap λx=>f x++g x).Perm (l.flatMap f++l.flatMap g)
 | []=>.nil
 | x::l=>by
  rw[List.flatMap_cons,List.flatMap_cons,List.flatMap_cons];have ih:=Mu f g l;rw[List.append_assoc,List.append_assoc];refine List.Perm.append_left _ ?_;refine (List.Perm.append_left _ ih).trans ?_;rw[<-List.append_assoc,<-List.append_assoc];exact List.Perm.append_right _ List.perm_append_comm
def kQ {a b:Int}(h1:1900<=a) (h2:a<=b) (h3:b<=2100) (f:Int->Trn):((D2 1900 2100).flatMap λy=>if wi y a b=true then [f y] else [])=(D2 a b).map f:=by
 have none : ∀ l:List Int,(∀ y∈l,¬(a<=y/\y<=b))->(l.flatMap λy=>if wi y a b=true then [f y] else [])=[]:=by
  intro l hl;rw[List.flatMap_eq_nil_iff];intro y hy;rw[if_neg (by rw[Dl];exact hl y hy)]
 have some : ∀ l:List Int,(∀ y∈l,a<=y/\y<=b)->(l.flatMap λy=>if wi y a b=true then [f y] else [])=l.map f:=by
  intro l;induction l with
  | nil=>intro _;rfl
  | cons y l ih =>
   intro hl
   rw[List.flatMap_cons,ih λz hz=>hl z (by simp[hz]),if_pos (Dl.2 (hl y (by simp)))];rfl
 rw[Zl (a:=1900) (b:=b) (c:=2100) om h3,List.flatMap_append,none (D2 (b+1) 2100) (λy hy=>by have:=Mo.1 hy;omega),List.append_nil];rw[show D2 1900 b=D2 1900 (a-1)++D2 a b by have:=Zl (a:=1900) (b:=a-1) (c:=b) om om;rwa [show a-1+1=a by omega] at this];rw[List.flatMap_append,none (D2 1900 (a-1)) (λy hy=>by have:=Mo.1 hy;omega),List.nil_append,some (D2 a b) (λy hy=>Mo.1 hy)]
def eW : ∀ {l:List Rul}{nm:ByteArray},(∀ r∈l,Dd r=0)->((D2 1900 2100).flatMap (yrT l nm)).Perm (C5 l nm)
 | [],nm,_=>by
  have:(D2 1900 2100).flatMap (yrT [] nm)=[]:=by rw[List.flatMap_eq_nil_iff];intro y _;rfl
  rw[this];exact .nil
 | r::l,nm,h=>by
  obtain⟨q1,q2,q3,_⟩:=Ea (h r (by simp));have ih:=eW (l:=l) (nm:=nm) λx hx=>h x (by simp[hx]);have e:(D2 1900 2100).flatMap (yrT (r::l) nm)=(D2 1900 2100).flatMap λy=>(if r.1=nm/\wi y (rFr r) (rTo r)=true then [(Hm r y,r)] else [])++yrT l nm y:=rfl;rw[e];refine (Mu _ _ _).trans ?_;have e2:C5 (r::l) nm=(if r.1=nm then Gu r else [])++C5 l nm:=rfl;rw[e2];refine List.Perm.append ?_ ih;by_cases hn:r.1=nm
  .simp only[hn,true_and,if_true];rw[kQ q1 q2 q3];exact List.Perm.refl _
  .simp only[hn,false_and,if_false];rw[show ((D2 1900 2100).flatMap λ_=>([]:List Trn))=[] by rw[List.flatMap_eq_nil_iff];intros;rfl]
def Ws {nm:ByteArray}(hr:Hn l nm sh=0) {S:List Trn}(hp:S.Perm (C5 l nm)) (hs:S.Pairwise λa b=>a.1<=b.1) :
  Cv l nm sh=if gapB S=true then ([],4) else if 1000<S.length then ([],2) else (outV sh 0 S,0):=by
 obtain⟨g1,g2⟩:=gap_uniq (hp.trans (Ww _).symm) hs (lC _);unfold Cv;rw[if_neg (by simp[hr]),<-g1,<-hp.length_eq];by_cases e:gapB S=true
 .rw[if_pos e,if_pos e]
 .rw[if_neg e,if_neg e,g2 (by simpa using e)]
def Kh {nm:ByteArray}(hr:Hn l nm sh≠0):Cv l nm sh=([],Hn l nm sh):=if_pos hr
end
section
def Gn (F:Loc):List Chg->Int->Loc
 | [],_=>F
 | c::cs,a=>if c.1<=a then Gn c.2 cs a else F
def nrm (a:Int) (F:Loc):List Chg->Prop
 | []=>True
 | c::cs=>a<c.1/\c.2≠F/\nrm c.1 c.2 cs
def gN {M:Int} : ∀ (C C':List Chg) (a:Int) (F:Loc),nrm a F C->nrm a F C'->(∀ c∈C,c.1<=M)->(∀ c∈C',c.1<=M)->(∀ x,a<=x->x<=M->Gn F C x=Gn F C' x)->C=C'
 | [],[],_,_,_,_,_,_,_=>rfl
 | [],c::cs,a,F,_,h2,_,m2,h=>by
  have:=h c.1 (by have:=h2.1;omega) (m2 c (by simp));rw[Gn,Gn,if_pos (Int.le_refl _)] at this;have e:Gn c.2 cs c.1=c.2:=by
   cases cs with
   | nil=>rfl
   | cons d ds=>rw[Gn,if_neg (by have:=h2.2.2.1;omega)]
  rw[e] at this;exact absurd this.symm h2.2.1
 | c::cs,[],a,F,h1,_,m1,_,h=>by
  have:=h c.1 (by have:=h1.1;omega) (m1 c (by simp));rw[Gn,Gn,if_pos (Int.le_refl _)] at this;have e:Gn c.2 cs c.1=c.2:=by
   cases cs with
   | nil=>rfl
   | cons d ds=>rw[Gn,if_neg (by have:=h1.2.2.1;omega)]
  rw[e] at this;exact absurd this h1.2.1
 | c::cs,d::ds,a,F,h1,h2,m1,m2,h=>by
  have self : ∀ (c:Chg) (cs:List Chg),nrm c.1 c.2 cs->Gn c.2 cs c.1=c.2:=by
   intro c cs hn;cases cs with
   | nil=>rfl
   | cons d ds=>rw[Gn,if_neg (by have:=hn.1;omega)]
  have hc:=h c.1 (by have:=h1.1;omega) (m1 c (by simp));have hd:=h d.1 (by have:=h2.1;omega) (m2 d (by simp));rw[Gn,Gn,if_pos (Int.le_refl _),self c cs h1.2.2] at hc;rw[Gn,Gn,if_pos (Int.le_refl _),self d ds h2.2.2] at hd;have e1:c.1=d.1:=by
   rcases Int.lt_trichotomy c.1 d.1 with e | e | e
   .rw[if_neg om] at hc;exact absurd hc h1.2.1
   .exact e
   .rw[if_neg om] at hd;exact absurd hd.symm h2.2.1
  rw[if_pos om,e1,self d ds h2.2.2] at hc;have e2:c=d:=Prod.ext e1 hc;subst e2;refine congrArg _ (gN cs ds c.1 c.2 h1.2.2 h2.2.2 (λx hx=>m1 x (by simp[hx])) (λx hx=>m2 x (by simp[hx])) λx hx hM=>?_);have:=h x (by have:=h1.1;omega) hM;rwa [Gn,Gn,if_pos hx,if_pos hx] at this
def dd (F:Loc):List Chg->List Chg
 | []=>[]
 | c::cs=>if c.2=F then dd F cs else c::dd c.2 cs
def pts (g:Int->Loc) (L:List Int):List Chg:=L.map λa=>(a,g a)
def Yj : ∀ {l:List Chg}{F:Loc}{c:Chg},c∈dd F l->c∈l
 | [],_,_,h=>by cases h
 | d::l,F,c,h=>by
  rw[dd] at h;split at h
  .exact List.mem_cons_of_mem _ (Yj h)
  .rcases List.mem_cons.1 h with rfl | h
   .exact List.mem_cons_self
   .exact List.mem_cons_of_mem _ (Yj h)
def eE : ∀ (l:List Chg) (F:Loc),(dd F l).length<=l.length
 | [],_=>Nat.le_refl _
 | d::l,F=>by
  rw[dd];split
  .have:=eE l F;simp only[List.length_cons];omega
  .have:=eE l d.2;simp only[List.length_cons];omega
def eF : ∀ (l m:List Chg) (F:Loc),dd F (l++m)=dd F l++dd ((dd F l).getLast?.elim F (·.2)) m
 | [],m,F=>rfl
 | c::l,m,F=>by
  rw[List.cons_append,dd,dd];split
  .exact eF l m F
  .rw[eF l m c.2,List.cons_append,List.getLast?_cons];cases (dd c.2 l).getLast? <;> rfl
def mT {g:Int->Loc} : ∀ {L:List Int}{a:Int},L.Pairwise (· <= ·)->(∀ x∈L,a<=x)->nrm a (g a) (dd (g a) (pts g L))
 | [],_,_,_=>trivial
 | p::L,a,hs,ha=>by
  have h1:=ha p (by simp);show nrm a (g a) (if g p=g a then dd (g a) (pts g L) else (p,g p)::dd (g p) (pts g L));rw[List.pairwise_cons] at hs;split
  .exact mT hs.2 λx hx=>ha x (by simp[hx])
  .rename_i hne;exact⟨by have:a≠p:=λe=>hne (by rw[e]);show a<p;omega,hne,mT hs.2 hs.1⟩
def tL {F:Loc}{l:List Chg}{x:Int}(h : ∀ c∈l,x<c.1):Gn F l x=F:=by
 cases l with
 | nil=>rfl
 | cons c l=>rw[Gn,if_neg (by have:=h c (by simp);omega)]
def dE {c:Chg}:c∈pts g L↔c.1∈L/\c.2=g c.1:=by
 unfold pts;rw[List.mem_map];constructor
 .rintro⟨a,ha,rfl⟩;exact⟨ha,rfl⟩
 .rintro⟨h1,h2⟩;exact⟨c.1,h1,by rw[<-h2]⟩
def still (g:Int->Loc) (L:List Int) (a M:Int):Prop := ∀ u v,a<=u->u<=v->v<=M->(∀ p∈L,¬(u<p/\p<=v))->g u=g v
def eD {g:Int->Loc}{M:Int} : ∀ {L:List Int}{a:Int},L.Pairwise (· <= ·)->(∀ x∈L,a<=x)->still g L a M -> ∀ x,a<=x->x<=M->Gn (g a) (dd (g a) (pts g L)) x=g x
 | [],a,_,_,hc,x,h1,h2=>hc a x (Int.le_refl _) h1 h2 (by simp)
 | p::L,a,hs,ha,hc,x,h1,h2=>by
  have hp:=ha p (by simp);rw[List.pairwise_cons] at hs;have hc':still g L p M:=λu v q1 q2 q3 q4=>hc u v om q2 q3 (λz hz=>by
   rcases List.mem_cons.1 hz with rfl | hz
   .omega
   .exact q4 z hz)
  show Gn (g a) (if g p=g a then dd (g a) (pts g L) else (p,g p)::dd (g p) (pts g L)) x=g x;have low:x<p->g a=g x:=λhx=>hc a x (Int.le_refl _) h1 h2 λz hz=>by
   rcases List.mem_cons.1 hz with rfl | hz
   .omega
   .have:=hs.1 z hz;omega
  split
  .rename_i e;by_cases hx:p<=x
   .have:=eD hs.2 hs.1 hc' x hx h2;rwa [e] at this
   .rw[tL λc hc=>?_]
    .exact low om
    .have:=hs.1 _ (dE.1 (Yj hc)).1;omega
  .rw[Gn];split
   .rename_i hx;exact eD hs.2 hs.1 hc' x hx h2
   .rename_i hx;exact low (by have:¬p<=x:=hx;omega)
abbrev tMin:Int := -62135596800
abbrev tMax:Int:=253402300799
def inT (x:Int):Bool:=decide (tMin<x/\x<=tMax)
def Jb (g:Int->Loc) (L:List Int):Tab:=(g tMin,dd (g tMin) (pts g (L.filter inT)))
def cI (h:still g L tMin tMax):still g (L.filter inT) tMin tMax:=λu v h1 h2 h3 h4=>h u v h1 h2 h3 λp hp hpp=>h4 p (List.mem_filter.2 ⟨hp,by unfold inT;simp only[tMin,tMax] at *;simp;omega⟩) hpp
def aZ  : ∀ x∈L.filter inT,tMin<=x:=λx hx=>by
 have:=(List.mem_filter.1 hx).2;unfold inT at this;simp only[tMin,decide_eq_true_eq] at *;omega
def Wu (hs:L.Pairwise (· <= ·)) (h:still g L tMin tMax) {x:Int}(h1:tMin<=x) (h2:x<=tMax):Gn (Jb g L).1 (Jb g L).2 x=g x :=
 eD (hs.filter _) aZ (cI h) x h1 h2
def Ti (hs:L.Pairwise (· <= ·)):nrm tMin (g tMin) (Jb g L).2:=mT (hs.filter _) aZ
def Zs  : ∀ c∈(Jb g L).2,c.1<=tMax:=λc hc=>by
 have:=(List.mem_filter.1 (dE.1 (Yj hc)).1).2;unfold inT at this;simp only[decide_eq_true_eq] at this;exact this.2
def lA {L':List Int}(hs:L.Pairwise (· <= ·)) (h:still g L tMin tMax) (hs':L'.Pairwise (· <= ·)) (h':still g L' tMin tMax):Jb g L=Jb g L':=by
 refine Prod.ext rfl (gN (M:=tMax) _ _ tMin (g tMin) (Ti hs) (Ti hs') Zs Zs λx h1 h2=>?_);have a:=Wu hs h h1 h2;have b:=Wu hs' h' h1 h2;exact a.trans b.symm
def D4:List Chg->Int
 | []=>0
 | c::cs=>if locE c.2≠0 then locE c.2 else D4 cs
def Sk : ∀ {l:List Chg}{F:Loc},locE F=0->D4 (dd F l)=D4 l
 | [],_,_=>rfl
 | c::l,F,h=>by
  rw[dd];split
  .rename_i e;rw[Sk h,D4,e,h];simp
  .rw[D4,D4];split
   .rfl
   .rename_i h2;exact Sk (Decidable.of_not_not h2)
def tabR (t:Tab):Tab×Int :=
 if locE t.1≠0 then ((((0,0,⟨#[]⟩):Loc),[]),locE t.1) else if D4 t.2≠0 then (((0,0,⟨#[]⟩),[]),D4 t.2) else if 1000<t.2.length then (((0,0,⟨#[]⟩),[]),2) else (t,0)
def gV : ∀ {l:List Chg},D4 l=0 -> ∀ c∈l,locE c.2=0
 | [],_,_,h=>by cases h
 | c::l,h,d,hd=>by
  rw[D4] at h;split at h
  .rename_i h2;exact absurd h h2
  .rename_i h2;rcases List.mem_cons.1 hd with rfl | hd
   .exact Decidable.of_not_not h2
   .exact gV h d hd
def qF : ∀ {C:List Chg}{a:Int}{F:Loc},nrm a F C->(∀ c∈C,locE c.2=0/\Gj c.1=true)->chk a F C=0
 | [],_,_,_,_=>rfl
 | c::cs,a,F,h,hc=>by
  have h1:=hc c (by simp);rw[L2 h1.2 h.1 h1.1 (Sl h.2.1)];exact qF h.2.2 λd hd=>hc d (by simp[hd])
def oD {t:Tab}(h:(tabR t).2=0):(tabR t).1=t/\locE t.1=0/\D4 t.2=0/\t.2.length<=1000:=by
 unfold tabR at h ⊢;split at h
 .rename_i h1;exact absurd h h1
 split at h
 .rename_i h1;exact absurd h h1
 split at h
 .cases h
 rename_i h1 h2 h3;rw[if_neg h1,if_neg h2,if_neg h3];exact⟨rfl,Decidable.of_not_not h1,Decidable.of_not_not h2,by omega⟩
def kZ {g:Int->Loc}{L:List Int}(hs:L.Pairwise (· <= ·)) (h:(tabR (Jb g L)).2=0):Bw (Jb g L)=0:=by
 obtain⟨_,h2,h3,h4⟩:=oD h;unfold Bw;rw[if_neg om,if_neg (by simp[h2])];have hn:nrm (-62135596801) (Jb g L).1 (Jb g L).2:=by
  have:=Ti (g:=g) hs;show nrm (-62135596801) (g tMin) (Jb g L).2;cases hC:(Jb g L).2 with
  | nil=>trivial
  | cons c cs=>rw[hC] at this;exact⟨by have:=this.1;simp only[tMin] at this;omega,this.2⟩
 refine qF hn λc hc=>⟨gV h3 c hc,Tg.2 ?_⟩;have:=(List.mem_filter.1 (dE.1 (Yj hc)).1).2;unfold inT at this;simp only[tMin,tMax,decide_eq_true_eq] at this;omega
end
section
open Go.Ab Civ
abbrev xSh (x:Era):Int:=x.1
abbrev xRl (x:Era):ByteArray:=x.2.1
abbrev xSv (x:Era):Int:=x.2.2.1
abbrev xFm (x:Era):ByteArray:=x.2.2.2.1
abbrev xOp (x:Era):Bool:=x.2.2.2.2.1
def endV (x:Era):Int:=num x.2.2.2.2.2.1.1 x.2.2.2.2.2.1.2.1 x.2.2.2.2.2.1.2.2*86400+x.2.2.2.2.2.2.1-(if x.2.2.2.2.2.2.2=2 then xSh x else 0)
def By (es:List Era):List Int:=es.dropLast.map endV
def J9 (fm lt:ByteArray) (sa:Int):ByteArray :=
 if (cutL fm [47]).2.2=true then (if 0<sa then bA (cutL fm [47]).2.1 else bA (cutL fm [47]).1)
 else if (cutL fm [37,115]).2.2=true then bA ((cutL fm [37,115]).1++aB lt++(cutL fm [37,115]).2.1) else fm
def locV (x:Era) (sa:Int) (lt:ByteArray):Loc:=(xSh x+sa,sa,J9 (xFm x) lt sa)
def B6 (rl:List Rul) (x:Era):List Tim:=if xRl x=⟨#[]⟩ then [] else (Cv rl (xRl x) (xSh x)).1
def Ff (sa:Int) (lt:ByteArray):List Tim->Int->Int×ByteArray
 | [],_=>(sa,lt)
 | t::ts,a=>if t.1<=a then Ff t.2.1 t.2.2 ts a else Ff sa lt ts a
def Ka (rl:List Rul) (x:Era) (a:Int):Loc:=locV x (Ff (xSv x) ⟨#[]⟩ (B6 rl x) a).1 (Ff (xSv x) ⟨#[]⟩ (B6 rl x) a).2
def locZ:Loc:=(0,0,⟨#[]⟩)
def Co (rl:List Rul):List Era->Int->Loc
 | [],_=>locZ
 | [x],a=>Ka rl x a
 | x::y::es,a=>if endV x<=a then Co rl (y::es) a else Ka rl x a
def kAt:List Int->Int->Nat
 | [],_=>0
 | e::es,a=>if e<=a then kAt es a+1 else 0
def dP : ∀ (l:List Int) (a:Int),kAt l a<=l.length
 | [],_=>Nat.le_refl _
 | e::es,a=>by
  rw[kAt];split
  .have:=dP es a;simp only[List.length_cons];omega
  .exact Nat.zero_le _
def iA : ∀ {l:List Int}{a:Int}{k:Nat}(h:k<l.length),k<=kAt l a->(l[k]<=a↔k+1<=kAt l a)
 | e::es,a,0,_,_=>by
  rw[kAt];simp only[List.getElem_cons_zero];split
  .rename_i h;exact⟨λ_=>by omega,λ_=>h⟩
  .rename_i h;exact⟨λh2=>absurd h2 h,λh2=>by omega⟩
 | e::es,a,k+1,h,hk=>by
  rw[kAt] at hk ⊢;simp only[List.getElem_cons_succ];split at hk
  .rename_i h2;rw[if_pos h2];have:=iA (l:=es) (a:=a) (k:=k) (by simpa using h) om;rw[this];omega
  .omega
def Hv (es:List Era):(By es).length=es.length-1:=by simp[By]
def My {y:Era}:By (x::y::es)=endV x::By (y::es):=by simp[By]
def Yh {k:Nat}(h:k<(By es).length) (h2:k<es.length):(By es)[k]=endV es[k]:=by simp[By]
def bZ {rl:List Rul} : ∀ {es:List Era}{a:Int}(h:kAt (By es) a<es.length),Co rl es a=Ka rl es[kAt (By es) a] a
 | [],a,h=>by simp at h
 | [x],a,h=>by simp[Co,By,kAt]
 | x::y::es,a,h=>by
  have e:kAt (By (x::y::es)) a=if endV x<=a then kAt (By (y::es)) a+1 else 0:=by rw[My,kAt]
  rw[Co];split
  .rename_i hx;rw[if_pos hx] at e;have h':kAt (By (y::es)) a<(y::es).length:=by have:=dP (By (y::es)) a;rw[Hv] at this;simp at this ⊢;omega
   rw[bZ h'];simp only[e,List.getElem_cons_succ]
  .rename_i hx;rw[if_neg hx] at e;simp only[e,List.getElem_cons_zero]
def kAt_lt (h:es≠[]) (a:Int):kAt (By es) a<es.length:=by
 have:=dP (By es) a;rw[Hv] at this;have:=List.length_pos_iff.2 h;omega
def Kl : ∀ (l:List Tim) (t:Tim) (sa:Int) (lt:ByteArray) (a:Int),Ff sa lt (l++[t]) a=if t.1<=a then (t.2.1,t.2.2) else Ff sa lt l a
 | [],t,sa,lt,a=>rfl
 | u::l,t,sa,lt,a=>by
  rw[List.cons_append,Ff,Ff];split
  .exact Kl l t _ _ a
  .exact Kl l t _ _ a
def Uq : ∀ (l:List Tim) (sa:Int) (lt:ByteArray) (u v:Int),u<=v->(∀ t∈l,¬(u<t.1/\t.1<=v))->Ff sa lt l u=Ff sa lt l v
 | [],_,_,_,_,_,_=>rfl
 | t::l,sa,lt,u,v,h,hl=>by
  have ih:=λsa lt=>Uq l sa lt u v h λx hx=>hl x (by simp[hx]);have:=hl t (by simp);rw[Ff,Ff];split
  .rw[if_pos om];exact ih _ _
  .rw[if_neg om];exact ih _ _
def Xj : ∀ (l:List Tim) (sa:Int) (lt:ByteArray) (a:Int),(∀ t∈l,a<t.1)->Ff sa lt l a=(sa,lt)
 | [],_,_,_,_=>rfl
 | t::l,sa,lt,a,h=>by
  rw[Ff,if_neg (by have:=h t (by simp);omega)];exact Xj l sa lt a λx hx=>h x (by simp[hx])
def fZ : ∀ {l:List Tim}{t:Tim}(sa:Int) (lt:ByteArray),l.Pairwise (λa b=>a.1<b.1)->t∈l->Ff sa lt l t.1=(t.2.1,t.2.2)
 | u::l,t,sa,lt,hp,ht=>by
  rw[List.pairwise_cons] at hp;rw[Ff];rcases List.mem_cons.1 ht with rfl | ht
  .rw[if_pos (Int.le_refl _)];exact Xj l _ _ _ hp.1
  .rw[if_pos (by have:=hp.1 t ht;omega)];exact fZ _ _ hp.2 ht
def eraG (x:Era) (b:Int) (ts:List Tim):List Chg :=
 (b,locV x (Ff (xSv x) ⟨#[]⟩ ts b).1 (Ff (xSv x) ⟨#[]⟩ ts b).2)::(ts.filter λt=>decide (b<t.1)).map λt=>(t.1,locV x t.2.1 t.2.2)
def eraG_low {ts:List Tim}{t:Tim}(h:t.1<=b):eraG x b (ts++[t])=(b,locV x t.2.1 t.2.2)::(eraG x b ts).tail:=by
 unfold eraG;rw[Kl,if_pos h,List.filter_append];simp[show ¬b<t.1 by omega]
def uA {ts:List Tim}{t:Tim}(h:¬t.1<=b):eraG x b (ts++[t])=eraG x b ts++[(t.1,locV x t.2.1 t.2.2)]:=by
 unfold eraG;rw[Kl,if_neg h,List.filter_append];simp[show b<t.1 by omega]
def cutV (l:List Chg) (e:Int):List Chg:=l.takeWhile λc=>decide (c.1<e)
def Dz (prev:Option Int) (f:Int):Int:=match prev with
 | none=>f
 | some e=>max f e
def Cq (rl:List Rul) (f:Int):Option Int->List Era->List Chg
 | _,[]=>[]
 | prev,[x]=>eraG x (Dz prev f) (B6 rl x)
 | prev,x::y::es=>(if endV x<=f then [] else cutV (eraG x (Dz prev f) (B6 rl x)) (endV x))++Cq rl f (some (endV x)) (y::es)
def risL:List Int->Bool
 | a::b::l=>decide (a<b)&&risL (b::l)
 | _=>true
def Xa : ∀ l:List Int,risL l=true↔l.Pairwise (· < ·)
 | []=>by simp[risL]
 | [a]=>by simp[risL]
 | a::b::l=>by
  rw[risL,Bool.and_eq_true,Xa (b::l),List.pairwise_cons (a:=a)];constructor
  .rintro⟨h1,h2⟩;have h1:a<b:=by simpa using h1
   refine⟨λx hx=>?_,h2⟩;rcases List.mem_cons.1 hx with rfl | hx
   .exact h1
   .have:=(List.pairwise_cons.1 h2).1 x hx;omega
  .rintro⟨h1,h2⟩;exact⟨by simpa using h1 b (by simp),h2⟩
def Z1 : ∀ {l:List Int},(∀ i (h:i+1<l.length),l[i]<l[i+1])->risL l=true
 | [],_=>rfl
 | [_],_=>rfl
 | a::b::l,h=>by
  rw[risL,Bool.and_eq_true];exact⟨by simpa using h 0 (by simp),Z1 λi hi=>h (i+1) (by simpa using hi)⟩
def lJ {l:List Int}{i:Nat}(h:i+1<l.length) (hb:¬l[i]<l[i+1]):risL l=false:=by
 cases e:risL l with
 | false=>rfl
 | true=>exact absurd (List.pairwise_iff_getElem.1 ((Xa l).1 e) i (i+1) om h om) hb
def risT (rl:List Rul) (x:Era):Prop:=(B6 rl x).Pairwise λa b=>a.1<b.1
def eG {l:List Chg}{e:Int}{c:Chg}(hs:l.Pairwise λa b=>a.1<b.1):c∈cutV l e↔c∈l/\c.1<e:=by
 unfold cutV;induction l with
 | nil=>simp
 | cons d l ih =>
  rw[List.pairwise_cons] at hs
  rw[List.takeWhile_cons]
  split
  .rename_i h
   rw[List.mem_cons,ih hs.2,List.mem_cons]
   simp only[decide_eq_true_eq] at h
   constructor
   .rintro (rfl | ⟨h1,h2⟩)
    .exact⟨.inl rfl,h⟩
    .exact⟨.inr h1,h2⟩
   .rintro⟨rfl | h1,h2⟩
    .exact .inl rfl
    .exact .inr ⟨h1,h2⟩
  .rename_i h
   simp only[decide_eq_true_eq] at h
   constructor
   .intro h;cases h
   .rintro⟨h1,h2⟩
    rcases List.mem_cons.1 h1 with rfl | h1
    .exact absurd h2 h
    .have:=hs.1 c h1;omega
def jD {ts:List Tim}(h:ts.Pairwise λa b=>a.1<b.1):(eraG x b ts).Pairwise λa b=>a.1<b.1:=by
 unfold eraG;rw[List.pairwise_cons];refine⟨λc hc=>?_,?_⟩
 .obtain⟨t,ht,rfl⟩:=List.mem_map.1 hc;simpa using (List.mem_filter.1 ht).2
 .rw[List.pairwise_map];exact h.filter _
def jF (h:risT rl x) {c:Chg}(hc:c∈eraG x b (B6 rl x)):b<=c.1/\c.2=Ka rl x c.1:=by
 rcases List.mem_cons.1 hc with rfl | hc
 .exact⟨Int.le_refl _,rfl⟩
 .obtain⟨t,ht,rfl⟩:=List.mem_map.1 hc;obtain⟨h1,h2⟩:=List.mem_filter.1 ht;simp only[decide_eq_true_eq] at h2;refine⟨by show b<=t.1;omega,?_⟩;show locV x t.2.1 t.2.2=Ka rl x t.1;unfold Ka;rw[fZ _ _ h h1]
def Ly {u v:Int}(h:u<=v) (ht : ∀ t∈B6 rl x,¬(u<t.1/\t.1<=v)):Ka rl x u=Ka rl x v:=by
 unfold Ka;rw[Uq _ _ _ u v h ht]
def mR {u v:Int}(h0:b<=u) (h:u<=v) (hc : ∀ c∈eraG x b (B6 rl x),¬(u<c.1/\c.1<=v)):Ka rl x u=Ka rl x v:=by
 refine Ly h λt ht hh=>?_;refine hc (t.1,locV x t.2.1 t.2.2) (List.mem_cons_of_mem _ (List.mem_map.2 ⟨t,List.mem_filter.2 ⟨ht,?_⟩,rfl⟩)) hh;simp;omega
def prevOk (prev:Option Int) (es:List Era):Prop:=match prev with
 | none=>True
 | some e => ∀ x∈By es,e<x
def aA {rl:List Rul}{f:Int} : ∀ {es:List Era}{prev:Option Int},es≠[]->(∀ x∈es,risT rl x)->(By es).Pairwise (· < ·)->prevOk prev es ->
  (∃ l,Cq rl f prev es=(Dz prev f,Co rl es (Dz prev f))::l)/\(Cq rl f prev es).Pairwise (λa b=>a.1<b.1)/\(∀ c∈Cq rl f prev es,Dz prev f<=c.1/\c.2=Co rl es c.1) /\
  ∀ u v,Dz prev f<=u->u<=v->(∀ c∈Cq rl f prev es,¬(u<c.1/\c.1<=v))->Co rl es u=Co rl es v
 | [x],prev,_,ht,_,_=>by
  have hx:=ht x (by simp);refine⟨⟨_,rfl⟩,jD hx,λc hc=>jF hx hc,λu v h1 h2 h3=>mR h1 h2 h3⟩
 | x::y::es,prev,_,ht,hr,hp=>by
  have hx:=ht x (by simp);rw[My,List.pairwise_cons] at hr;have hp2:prevOk (some (endV x)) (y::es):=hr.1;obtain⟨i1,i2,i3,i4⟩:=aA (f:=f) (es:=y::es) (prev:=some (endV x)) (by simp) (λz hz=>ht z (by simp[hz])) hr.2 hp2;have hbe:prev=none \/ ∃ e,prev=some e/\e<endV x:=by
   cases prev with
   | none=>exact .inl rfl
   | some e=>exact .inr ⟨e,rfl,hp _ (by rw[My];simp)⟩
  by_cases hf:endV x<=f
  .have hb:Dz prev f=f:=by
    rcases hbe with rfl | ⟨e,rfl,he⟩
    .rfl
    .show max f e=f;omega
   have hb2:Dz (some (endV x)) f=f:=by show max f (endV x)=f;omega
   have hP:Cq rl f prev (x::y::es)=Cq rl f (some (endV x)) (y::es):=by rw[Cq,if_pos hf,List.nil_append]
   have hT : ∀ a,f<=a->Co rl (x::y::es) a=Co rl (y::es) a:=λa ha=>by rw[Co,if_pos om]
   rw[hP,hb];rw[hb2] at i1 i3 i4;refine⟨by rw[hT f (Int.le_refl _)];exact i1,i2,λc hc=>?_,λu v h1 h2 h3=>?_⟩
   .obtain⟨j1,j2⟩:=i3 c hc;exact⟨j1,by rw[hT _ j1];exact j2⟩
   .rw[hT u h1,hT v om];exact i4 u v h1 h2 h3
  .have hb:Dz prev f<endV x:=by
    rcases hbe with rfl | ⟨e,rfl,he⟩
    .show f<endV x;omega
    .show max f e<endV x;omega
   have hb2:Dz (some (endV x)) f=endV x:=by show max f (endV x)=endV x;omega
   have hP:Cq rl f prev (x::y::es)=cutV (eraG x (Dz prev f) (B6 rl x)) (endV x)++Cq rl f (some (endV x)) (y::es):=by rw[Cq,if_neg hf]
   have hT1 : ∀ a,a<endV x->Co rl (x::y::es) a=Ka rl x a:=λa ha=>by rw[Co,if_neg om]
   have hT2 : ∀ a,endV x<=a->Co rl (x::y::es) a=Co rl (y::es) a:=λa ha=>by rw[Co,if_pos ha]
   rw[hb2] at i1 i3 i4;have hg:=jD (x:=x) (b:=Dz prev f) hx;generalize hB:Dz prev f=b at *;rw[hP];refine⟨?_,?_,?_,?_⟩
   .have:cutV (eraG x b (B6 rl x)) (endV x)=(b,Ka rl x b)::cutV (eraG x b (B6 rl x)).tail (endV x):=by
     unfold cutV eraG Ka;rw[List.takeWhile_cons,if_pos (by simpa using hb)];rfl
    rw[this,hT1 b hb];exact⟨_,rfl⟩
   .rw[List.pairwise_append];refine⟨hg.sublist (List.takeWhile_sublist _),i2,λc hc d hd=>?_⟩;have h1:=((eG hg).1 hc).2;have h2:=(i3 d hd).1;omega
   .intro c hc;rcases List.mem_append.1 hc with hc | hc
    .obtain⟨h1,h2⟩:=(eG hg).1 hc;obtain⟨h3,h4⟩:=jF hx h1;exact⟨h3,by rw[hT1 _ h2];exact h4⟩
    .obtain⟨h1,h2⟩:=i3 c hc;exact⟨by omega,by rw[hT2 _ h1];exact h2⟩
   .intro u v h1 h2 h3;by_cases hv:v<endV x
    .rw[hT1 u om,hT1 v hv];refine Ly h2 λt ht hh=>?_;refine h3 (t.1,locV x t.2.1 t.2.2) (List.mem_append_left _ ((eG hg).2 ⟨List.mem_cons_of_mem _ (List.mem_map.2 ⟨t,List.mem_filter.2 ⟨ht,?_⟩,rfl⟩),?_⟩)) hh
     .simp;omega
     .show t.1<endV x;omega
    .by_cases hu:endV x<=u
     .rw[hT2 u hu,hT2 v om];exact i4 u v hu h2 λc hc=>h3 c (List.mem_append_right _ hc)
     .obtain⟨l,hl⟩:=i1;exact absurd ⟨by show u<endV x;omega,by show endV x<=v;omega⟩ (h3 (endV x,_) (List.mem_append_right _ (by rw[hl];exact List.mem_cons_self)))
def Iz (rl:List Rul) (es:List Era):List Int:=(es.flatMap λx=>(B6 rl x).map (·.1))++By es
def Oc {rl:List Rul} : ∀ {es:List Era}{u v:Int},u<=v->(∀ p∈Iz rl es,¬(u<p/\p<=v))->Co rl es u=Co rl es v
 | [],u,v,_,_=>rfl
 | [x],u,v,h,hp=>Ly h λt ht=>hp t.1 (by unfold Iz;simp;exact .inl ⟨_,_,ht⟩)
 | x::y::es,u,v,h,hp=>by
  have hx:¬(u<endV x/\endV x<=v):=hp _ (by unfold Iz;rw[My];simp);have ht : ∀ t∈B6 rl x,¬(u<t.1/\t.1<=v):=λt ht=>hp t.1 (by unfold Iz;rw[List.flatMap_cons];simp only[List.append_assoc,List.mem_append,List.mem_map];exact .inl ⟨t,ht,rfl⟩);have ih:Co rl (y::es) u=Co rl (y::es) v:=Oc h λp hp'=>hp p (by
   unfold Iz at hp' ⊢;rw[My,List.flatMap_cons];rcases List.mem_append.1 hp' with h1 | h1
   .exact List.mem_append_left _ (List.mem_append_right _ h1)
   .exact List.mem_append_right _ (List.mem_cons_of_mem _ h1))
  rw[Co,Co];split
  .rw[if_pos om];exact ih
  .rw[if_neg om];exact Ly h ht
def H9 (rl:List Rul) (es:List Era):Tab:=Jb (Co rl es) ((Iz rl es).mergeSort λa b=>decide (a<=b))
def fJ (hs:L.Pairwise (· <= ·)) (hc : ∀ u v,tMin<=u->u<=v->(∀ p∈L,¬(u<p/\p<=v))->Co rl es u=Co rl es v):Jb (Co rl es) L=H9 rl es:=by
 refine lA hs (λu v h1 h2 _ h4=>hc u v h1 h2 h4) ?_ λu v h1 h2 _ h4=>Oc h2 λp hp=>h4 p ?_
 .have h:=List.pairwise_mergeSort (le:=λa b:Int=>decide (a<=b)) (λa b c h1 h2=>by simp at *;omega) (λa b=>by simp;omega) (Iz rl es);exact h.imp λh=>by simpa using h
 .exact (List.mergeSort_perm _ _).mem_iff.2 hp
def sS {f:Int}(hc : ∀ c∈Cq rl f none es,c.2=Co rl es c.1):Cq rl f none es=pts (Co rl es) ((Cq rl f none es).map (·.1)):=by
 unfold pts;rw[List.map_map];exact (List.map_id' _).symm.trans (List.map_congr_left λc h=>by show c=(c.1,_);rw[<-hc c h])
end
section
open Go.Ab Civ
def stV:List Chg->Tab
 | []=>(locZ,[])
 | c::cs=>(c.2,dd c.2 cs)
def I5 (F:Loc) (l:List Chg):Loc:=l.getLast?.elim F (·.2)
def stV_snoc {l:List Chg}{c:Chg}(h:l≠[]):stV (l++[c])=((stV l).1,(stV l).2++if c.2=I5 (stV l).1 (stV l).2 then [] else [c]):=by
 cases l with
 | nil=>exact absurd rfl h
 | cons d l =>
  show ((d.2,dd d.2 (l++[c])):Tab)=(d.2,dd d.2 l++_)
  rw[eF]
  rfl
def oG : ∀ l:List Chg,(stV l).2.length<=l.length
 | []=>Nat.le_refl _
 | c::l=>by have:=eE l c.2;show (dd c.2 l).length<=_;simp only[List.length_cons];omega
def inP (ps:List Chg):List Chg:=ps.takeWhile λc=>decide (c.1<=tMax)
def iM {ps:List Chg}{i:Nat}(h1 : ∀ c∈ps.take i,c.1<=tMax) (h2 : ∀ h:i<ps.length,¬ps[i].1<=tMax):inP ps=ps.take i:=by
 unfold inP;induction ps generalizing i with
 | nil=>simp
 | cons c ps ih =>
  cases i with
  | zero=>rw[List.takeWhile_cons,if_neg (by have:=h2 (by simp);simpa using this)];rfl
  | succ i =>
   rw[List.takeWhile_cons,if_pos (by have:=h1 c (by simp);simpa using this),List.take_succ_cons]
   exact congrArg _ (ih (λd hd=>h1 d (by simp[hd])) λh=>by have:=h2 (by simpa using h);simpa using this)
def inP_pts {g:Int->Loc}{L:List Int}(hs:L.Pairwise (· < ·)):inP (pts g L)=pts g (L.filter λx=>decide (x<=tMax)):=by
 unfold inP;induction L with
 | nil=>rfl
 | cons a L ih =>
  rw[List.pairwise_cons] at hs
  show List.takeWhile _ ((a,g a)::pts g L)=_
  rw[List.takeWhile_cons]
  by_cases h:a<=tMax
  .rw[if_pos (by simpa using h),List.filter_cons,if_pos (by simpa using h),ih hs.2];rfl
  .rw[if_neg (by simpa using h),List.filter_cons,if_neg (by simpa using h)]
   have:L.filter (λx=>decide (x<=tMax))=[]:=List.filter_eq_nil_iff.2 λx hx=>by have:=hs.1 x hx;simp only[decide_eq_true_eq];omega
   rw[this];rfl
def stV_tab (hs:(tMin::L).Pairwise (· < ·)):stV (inP (pts g (tMin::L)))=Jb g (tMin::L):=by
 rw[inP_pts hs];rw[List.pairwise_cons] at hs;unfold Jb;rw[List.filter_cons,if_pos (by decide)];have e:(tMin::L).filter inT=L.filter λx=>decide (x<=tMax):=by
  rw[List.filter_cons,if_neg (by decide)];refine List.filter_congr λx hx=>?_;have:=hs.1 x hx;unfold inT;rw[Bool.eq_iff_iff];simp only[decide_eq_true_eq];exact⟨λh=>h.2,λh=>⟨this,h⟩⟩
 rw[e];rfl
def tabR_st : ∀ {l:List Chg},locE locZ=0\/l≠[]->tabR (stV l)=if D4 l≠0 then ((((0,0,⟨#[]⟩):Loc),[]),D4 l) else if 1000<(stV l).2.length then (((0,0,⟨#[]⟩),[]),2) else (stV l,0)
 | [],h=>by
  have h:=h.resolve_right (λh=>h rfl);unfold tabR stV;simp[D4,h]
 | c::l,_=>by
  unfold tabR;show (if locE c.2≠0 then _ else if D4 (dd c.2 l)≠0 then _ else _)=_;rw[D4];by_cases h:locE c.2=0
  .have e:(if locE c.2≠0 then locE c.2 else D4 l)=D4 l:=if_neg (by simp[h]);rw[e,if_neg (show ¬locE c.2≠0 from λhh=>hh h),Sk h,show D4 (stV (c::l)).2=D4 l from Sk h]
  .have e:(if locE c.2≠0 then locE c.2 else D4 l)=locE c.2:=if_pos h;rw[e,if_pos h,if_pos h];rfl
def Pz : ∀ {l:List Chg}{c:Chg},D4 l=0->D4 (l++[c])=locE c.2
 | [],c,_=>by show (if locE c.2≠0 then locE c.2 else 0)=_;split <;> simp_all
 | d::l,c,h=>by
  rw[D4] at h;split at h
  .rename_i h2;exact absurd h h2
  .rename_i h2;rw[List.cons_append,D4,if_neg h2];exact Pz h
def Tt : ∀ {l m:List Chg},D4 l≠0->D4 (l++m)=D4 l
 | [],_,h=>absurd rfl h
 | d::l,m,h=>by
  rw[List.cons_append,D4,D4];rw[D4] at h;split
  .rfl
  .rename_i h2;rw[if_neg h2] at h;exact Tt h
end
section
def qH : ∀ {a:Int}{l:Loc}{cs:List Chg},chk a l cs=0 -> ∀ c∈cs,Gj c.1=true/\locE c.2=0
 | a,l,[],_,c,hc=>by simp at hc
 | a,l,d::cs,h,c,hc=>by
  rw[chk] at h;split at h
  .cases h
  .split at h
   .cases h
   .split at h
    .rename_i h1 _ h3;exact absurd h h3
    .split at h
     .cases h
     .rename_i h1 _ h3 _;rcases List.mem_cons.1 hc with rfl | hc
      .exact⟨by simpa using h1,Decidable.of_not_not h3⟩
      .exact qH h c hc
def Nr {t:Tab}(h:Bw t=0):t.2.length<=1000/\locE t.1=0 /\ ∀ c∈t.2,Gj c.1=true/\locE c.2=0:=by
 unfold Bw at h;split at h
 .cases h
 .split at h
  .rename_i h1 h2;exact absurd h h2
  .rename_i h1 h2;exact⟨by omega,Decidable.of_not_not h2,qH h⟩
end
section
open Go.Ab Civ
attribute [local simp] Cp
section
def Cn {a0 a1 a2:AV}{l:List AV}:(a0::a1::a2::l).take 3=[a0,a1,a2]:=rfl
def N2 {τ:Operand->AV}{y0:Operand}{a b c d:AV}(h0:Lf τ y0 [a,b,c,d]):Cm τ [(0,4,y0)] [(iv 0),(iv 0),(.v (.string ⟨#[]⟩)),(.sl 0 0 true [])]=some [a,b,c,d]:=fl h0 rfl
def Js {τ:Operand->AV}:Cm τ [] [(iv 0),(iv 0),(.v (.string ⟨#[]⟩))]=some [(iv 0),(iv 0),(.v (.string ⟨#[]⟩))]:=rfl
end
def k117:=Kx 117 []
def k140:=Kx 140 []
def k74:=Kx 74 [.e [] 10 []]
def k34:=Kx 34 []
abbrev locC (l:Loc):List AV:=[iv l.1,iv l.2.1,sv l.2.2]
def there1_a {c:Chg}:Ac 140 [.agg [iv c.1,iv c.2.1,iv c.2.2.1,sv c.2.2.2],.rp [iv n]] h (bv (decide (n<c.1))):=by
 refine tI' k140 λN hn _ _ hbd=>?_;simp only[tb'] at hbd ⊢;refine wr'<|E' (Bq cv rfl hl0 ha0) pt<|ms<|wr'<|fq<|Vw (Aa lk gx gt0)<|Vw (Ba lk gt)<|Vw (C7 lk lk)<|mw<|Am<|?_;refine An<|C4<|Ad rz<|rT'<|?_;refine bvx ?_;first | rfl | (rw[Bool.eq_iff_iff];simp)
def indexF_a {p:Chg->Bool}{f:FuncId}{caps:List AV}(hp : ∀ (c:Chg) (h:AH),ACalls Tryz.prog f ([.agg [iv c.1,iv c.2.1,iv c.2.2.1,sv c.2.2.2]]++caps) h λx h'=>h'=h/\x=.ret (bv (p c))) {l:List Chg}{full:Bool}(hl:l.length<=9223372036854775807) :
  Ac 139 [.sl l.length 4 full (rows chgC l),.clo (.func f) caps] h (iv (if l.findIdx p<l.length then (l.findIdx p:Int) else -1)):=ixChgC_a (λc _ E=>hp c _) hl
def Ux (a:Loc):List Chg->Loc
 | []=>a
 | c::l=>Ux c.2 l
def P3 : ∀ {a:Loc}{l:List Chg}(h:0<l.length),Ux a l=(l[l.length-1]'(by omega)).2
 | a,[c],_=>rfl
 | a,c::d::l,_=>by
  rw[Ux,P3 (l:=d::l) (by simp)];rfl
def Uh (t:Tab) (n:Int):Nat:=t.2.findIdx (λc=>decide (n<c.1))
def uP (t:Tab) (n:Int):Uh t n<=t.2.length:=List.findIdx_le_length
def Md (t:Tab) (n:Int):Loc:=Ux t.1 (t.2.take (Uh t n))
def pD {a:Int}{c:ByteArray}{l:List Chg}{full:Bool}{id v0 ty:Nat}(h1:h[id]?=some (.mk v0 ty 4 [iv a,iv b,sv c,.sl l.length 4 full (rows chgC l)])) (hl:l.length<=9223372036854775807) :
  Ac 117 [.ptr id v0 0] h (.agg [iv (Ux (a,b,c) l).1,iv (Ux (a,b,c) l).2.1,sv (Ux (a,b,c) l).2.2]):=by
 have hid:id<h.length:=(List.getElem?_eq_some_iff.1 h1).1;refine tI' k117 λN hn _ _ hbd=>?_;simp only[tb'] at hbd ⊢;refine wr'<|E' (Bz hl0 ha0) pt<|sn'<|Ab<|wm<|Vw (Cr lk)<|fq<|fq<|Vw (Aa lk (Ez h1) gt3)<|Vw (Bf lk)<|?_;refine ms<|wm<|Vw (C7 lk lki)<|sn'<|?_;refine cd' lk (λhc1=>?_) (λhc1=>?_)
 .have hl0:0<l.length:=by omega
  refine wm<|Vw (Cr lk)<|fq<|fq<|Vw (Aa lk (Ez h1) gt3)<|mw<|?_;refine V' (Ch lk lki om om) pt ?_;refine V' (Bh (k:=l.length-1) lk lk Cg nb ro om ro rfl) pt ?_;refine Vw (Cj lk dp1)<|Vw (Ax lk Cn rfl)<|E' (Ai lk cv gx rfl nb rfl Bo hs0) ptn<|sr<|Ag<|Ad (rs1 (rr_c gt gx (ld1 Ap rfl)))<|rT'<|?_;rw[P3 hl0]
 have hl0:l=[]:=List.eq_nil_of_length_eq_zero om;refine za<|wm<|Vw (Cr lk)<|fq<|fq<|Vw (Ak lk (Ez h1) Ap rfl)<|E' (Ai lk cv gx rfl nb rfl Bo hs0) ptn<|sr<|Ad (rs1 (rr_c gt gx (ld1 Ap rfl)))<|?_;refine rT' ?_;subst hl0;rfl
def oB {t:Tab}{full:Bool}(hl:t.2.length<=9223372036854775807) :
  Ac 74 [.agg [iv t.1.1,iv t.1.2.1,sv t.1.2.2,.sl t.2.length 4 full (rows chgC t.2)],iv n] h (.agg [iv (Md t n).1,iv (Md t n).2.1,sv (Md t n).2.2]):=by
 have haf:=uP t n;refine tI' k74 λN hn _ _ hbd=>?_;simp only[tb'] at hbd ⊢;refine wr'<|E' (Bq cv rfl hl0 ha0) pt<|E' (Bq cv rfl hl1 ha1) pt<|E' (Bz hl2 ha2) pt<|Am<|?_;refine B0 (ALe.icePtr gx gt3 (by simp) pt3 hs1) ?_;refine wr'<|fq<|Vw (Aa lk gx gt3)<|Vw (J5 mp)<|?_;refine Af mp (indexF_a (p:=λc=>decide (n<c.1)) (l:=t.2) (λc h=>there1_a) hl) pt ?_;refine ms<|Ab<|wm<|Vw (Bm lk lki)<|sn'<|?_;refine cd' lk (λhc1=>?_) (λhc1=>?_)
 .have he:Uh t n=t.2.length:=by have haf2:=haf;unfold Uh at haf2 ⊢;rcases Nat.lt_or_ge (t.2.findIdx λc=>decide (n<c.1)) t.2.length with e | e;rw[if_pos e] at hc1;omega;omega
  refine Aq<|fq<|Vw (Aa lk gx gt3)<|Vw (Bf lk)<|ms<|Ab<|Bl<|dg<|Dw (Ak lk gx Ap rfl)<|dg<|Dw (Aa lk gx gt3)<|Dw vm<|?_;refine D' (v_hi (k:=t.2.length) lk lk Cg ro om ro) pt ?_;refine Dw (Bb (Ef cw cw))<|Dw (Bb (N2 cw))<|D5 rfl rfl (hlk hn rfl) (l_box cv rfl) pt B2<|Dw vm<|Bi<|?_;refine Eg L8 ?_;refine sn'<|wm<|?_;refine Af mp (pD (l:=t.2.take t.2.length) (hga hn rfl) (by rw[List.length_take];omega)) pt ?_;refine E' (Ai lk cv gx rfl nb rfl Bo hs2) ptn<|sr<|Ad (rs1 (rr_c gt gx (ld1 Ap rfl)))<|rT'<|?_;rw[Md,he]
 have he:t.2.findIdx (λc=>decide (n<c.1))<t.2.length:=by rcases Nat.lt_or_ge (t.2.findIdx λc=>decide (n<c.1)) t.2.length with e | e;exact e;rw[if_neg om] at hc1;omega
 rw[if_pos he] at *;refine za<|Ab<|Bl<|dg<|Dw (Ak lk gx Ap rfl)<|dg<|Dw (Aa lk gx gt3)<|Dw vm<|?_;refine D' (v_hi (k:=Uh t n) lk lk Cg ro om ro) pt ?_;refine Dw (Bb (Ef cw cw))<|Dw (Bb (N2 cw))<|D5 rfl rfl (hlk hn rfl) (l_box cv rfl) pt B2<|Dw vm<|Bi<|?_;refine Eg L8 ?_;refine sn'<|wm<|?_;refine Af mp (pD (l:=t.2.take (Uh t n)) (hga hn rfl) (by rw[List.length_take];omega)) pt ?_;exact E' (Ai lk cv gx rfl nb rfl Bo hs2) ptn<|sr<|Ad (rs1 (rr_c gt gx (ld1 Ap rfl)))<|rT' rfl
def tlook_a {t:Tab}{full:Bool}(ht:okT t) :
  Ac 34 [.agg [iv t.1.1,iv t.1.2.1,sv t.1.2.2,.sl t.2.length 4 full (rows chgC t.2)],iv n] h (.tup [.agg (locC (if Bw t=0/\Gj n=true then Md t n else (0,0,⟨#[]⟩))),iv (if Bw t≠0 then Bw t else if Gj n=true then 0 else 3)]):=by
 refine tI' k34 λN hn _ _ hbd=>?_;simp only[tb'] at hbd ⊢;refine wr'<|E' (Bq cv rfl hl0 ha0) pt<|E' (Bz hl1 ha1) pt<|ms<|Ab<|wr'<|Vw (Ak lk gx Av rfl)<|Af mp (Kg (l:=t.2) ht.1 ht.2) pt<|mw<|Am<|?_;refine An<|wm<|Vw (Ca lk lki)<|sn'<|?_;refine cd' lk (λhc1=>?_) (λhc1=>?_)
 .have hv:Bw t≠0:=hc1;refine wr'<|Vw (Bb Js)<|mw<|E' (Ai lk cv gx rfl nb rfl Bo hs1) ptn<|mr<|Ag<|Ad (rsn (rm1 (rr_c gt gx (ld1 Ap rfl)) (rm1 (rr_t gt) rm0)))<|rT'<|?_;rw[if_neg (λe=>hv e.1),if_pos hv]
 have hv:Bw t=0:=Decidable.of_not_not hc1;refine za<|Ab<|wm<|Af mp (kX) pt<|Vw (Bj lk)<|sn'<|?_;refine Bg lk (λhc2=>?_) (λhc2=>?_)
 .have hb:Gj n=false:=by simpa using hc2
  refine wr'<|Vw (Bb Js)<|E' (Ai lk cv gx rfl nb rfl Bo hs1) ptn<|mr<|Ag<|Ad (rsn (rm1 (rr_c gt gx (ld1 Ap rfl)) (rm1 (rr_t gt) rm0)))<|rT'<|?_;rw[if_neg (by rw[hb];simp),if_neg (by simpa using hv),if_neg (by rw[hb];simp)]
 have hb:Gj n=true:=by simpa using hc2
 refine za<|wr'<|Vw (Ak lk gx Av rfl)<|mw<|?_;refine Af mp (oB (t:=t) (by have:=D7 hv;omega)) pt ?_;refine E' (Ai lk cv gx rfl nb rfl Bo hs1) ptn<|mr<|Ad (rsn (rm1 (rr_c gt gx (ld1 Ap rfl)) (rm1 (rr_t gt) rm0)))<|rT'<|?_;rw[if_pos ⟨hv,hb⟩,if_neg (by simpa using hv),if_pos hb]
end
section
open Go.Ab Civ
attribute [local simp] Eb Wq Ix
section
def Ph {τ:Operand->AV}{y0 y1:Operand}{a b c d e f g i j m n o:AV}(h0:Lf τ y0 [a])(h1:Lf τ y1 [b,c,d,e,f,g,i,j,m,n,o]):Cm τ [(0,1,y0),(1,11,y1)] [(iv 0),(.v (.string ⟨#[]⟩)),(iv 0),(iv 0),(iv 0),(iv 0),(iv 0),(iv 0),(iv 0),(iv 0),(iv 0),(.v (.string ⟨#[]⟩))]=some [a,b,c,d,e,f,g,i,j,m,n,o]:=fl h0<|fl h1 rfl
end
def k242:=Kx 242 []
def k173:=Kx 173 []
def k178:=Kx 178 []
def k174:=Kx 174 []
def k243:=Kx 243 [.e [] 9 [false,false]]
def okRs (l:List Rul):Prop := ∀ r∈l,r.1.size<=maxLen/\r.2.2.2.2.2.2.2.2.size<=maxLen
def ready1_a {nm:ByteArray}:Ac 242 [.agg (rulC r),.rp [sv nm]] h (bv (decide (r.1=nm))):=by
 obtain⟨n,f,t,m,⟨k,w,d⟩,a,c,s,lt⟩:=r;refine tI' k242 λN hn _ _ hbd=>?_;simp only[tb'] at hbd ⊢;refine wr'<|E' (Bq cv rfl hl0 ha0) pt<|ms<|wr'<|fq<|Vw (Aa lk gx gt0)<|Vw (Ba lk gt)<|Vw (J6 lk lk)<|mw<|Am<|?_;exact An<|C4<|Ad rz<|rT' rfl
def ready_a {nm:ByteArray}(hok:okRs l) (hl:l.length<=9223372036854775807):Ac 173 [.sl l.length 11 false (rows rulC l),sv nm,iv sh] h (iv (Hn l nm sh)):=by
 have hll:=hl;refine tI' k173 λN hn hlt _ hbd=>?_;simp only[tb'] at hbd ⊢;refine wr'<|E' (Bq cv rfl hl0 ha0) pt<|mw<|Am<|?_;refine B0 (ALe.icePtr gx gt4 (by simp) pt4 hs0) ?_;refine Ab<|wm<|Vw (Bf lk)<|Vw (C7 lk lki)<|sn'<|?_;refine cd' lk (λhc1=>?_) (λhc1=>?_)
 .have hR:Hn l nm sh=2:=if_pos om;refine wo<|Ag<|Ad rz<|rT'<|?_;rw[hR]
 have hR:Hn l nm sh=if Dc Dd l≠0 then Dc Dd l else if sh < -64800\/sh>64800 then 3 else if l.any (λr=>decide (r.1=nm))=false then 5 else 0:=if_neg om
 refine za<|Ab<|wm<|Vw (Bf lk)<|ms<|Ah<|?_;refine w_lp (ι:=Nat) (λ(k:Nat)=>[(15,iv (k:Int)),(6,.any),(8,.any),(9,.any)]++rn' 16 9) (λ(k:Nat)=>[]) (λ(k:Nat)=>k<=l.length/\Dc Dd l=Dc Dd (l.drop k)) (λ(k:Nat)=>l.length-k) (0) (by exact⟨Nat.zero_le _,rfl⟩) ?_;rintro k hi1;try simp only[sm',Nat.reduceAdd]
 obtain⟨hk1,hk2⟩:=hi1;refine wr'<|Vw (Bm lk lk)<|sn'<|Ab<|?_;refine cd' lk (λhc2=>?_) (λhc2=>?_)
 .have hk:k<l.length:=by omega
  have ho:=hok _ (List.getElem_mem hk);rw[Kn hk] at hk2;refine za<|Ab<|Ah<|wr'<|?_;refine V' (Bh lk lk Gk nb ro om ro rfl) pt ?_;refine Vw (Ax lk Jj rfl)<|E' (Bz hl1 ha1) pt<|E' (Ai lk cv gx rfl nb rfl Pf hs1) ptn<|sn'<|wr'<|Vw (Ak lk gx Pe rfl)<|Af mp (rule_b ho.1 ho.2) pt<|ms<|wr'<|?_;refine mw<|Vw (Ca lk lki)<|sn'<|?_;refine cd' lk (λhc3=>?_) (λhc3=>?_)
  .have hc3':Dd l[k]≠0:=hc3;rw[if_pos hc3'] at hk2;rw[if_pos (by rw[hk2];exact hc3'),hk2] at hR;refine wm<|mr<|Au<|Ag<|Ag<|Au<|Ag<|Ad rz<|rT'<|?_;rw[hR]
  have hc3':¬Dd l[k]≠0:=hc3;rw[if_neg hc3'] at hk2;refine Be<|Aw<|An<|Aq<|?_;refine ad<|mw<|Am<|Az<|?_;refine lU' (k+1) (by (try dsimp only);exact⟨by omega,hk2⟩) (by refine zz ?_;exact bk' 1 hn hlt)
 rw[List.drop_of_length_le om] at hk2;rw[if_neg (by rw[hk2];simp[Dc])] at hR;refine Bd<|As<|As<|Bp<|An<|Ab<|Ah<|wm<|Vw (Bm lk lki)<|mw<|?_;refine sp' (t:=28) gt pt pt (λhg28=>?_) (λhg28=>?_)
 .rw[if_pos (.inl om)] at hR;refine so<|so<|Vw (Ar lk lkb)<|ms<|Cx lk<|wo<|Au<|?_;refine Ag<|Ad rz<|rT'<|?_;rw[hR]
 refine sd<|mw<|sd<|Vw (C7 lk lki)<|Vw (Ao lk lk)<|ms<|?_;refine cd' lk (λhc4=>?_) (λhc4=>?_)
 .rw[if_pos (.inr om)] at hR;refine wo<|Au<|Ag<|Ad rz<|rT'<|?_;rw[hR]
 rw[if_neg om] at hR;refine wm<|Vw (J5 mp)<|?_;refine Af mp (aS (p:=λr=>decide (r.1=nm)) (λc _ _=>ready1_a) hll) pt ?_;refine Vw (Bj lk)<|ms<|?_;refine Bg lk (λhc5=>?_) (λhc5=>?_)
 .rw[if_pos (by simpa using hc5)] at hR;refine wo<|Au<|Ag<|Ad rz<|rT'<|?_;rw[hR]
 rw[if_neg (by simpa using hc5)] at hR;refine Be<|Aw<|An<|wo<|Ad rz<|rT'<|?_;rw[hR]
def off_a {sa:Int}(h1 : -64800<=sh/\sh<=64800) (h2:0<=sa/\sa<=10800):Ac 178 [.agg (rulC r),iv sh,iv sa] h (iv (offV r sh sa)):=by
 obtain⟨n,f,t,m,⟨k,w,d⟩,a,c,s,lt⟩:=r;refine tI' k178 λN hn _ _ hbd=>?_;simp only[tb'] at hbd ⊢;refine wr'<|E' (Bq cv rfl hl0 ha0) pt<|ms<|Ab<|wr'<|fq<|Vw (Aa lk gx gt8)<|sn'<|Ah<|?_;refine wr'<|Vw (Cy lk lki)<|ms<|?_;refine cd' lk (λhc1=>?_) (λhc1=>?_)
 .refine wm<|mw<|?_;refine V' (Du lk lk om om) pt ?_;refine mr<|Au<|Ag<|Ad rz<|rT'<|?_;refine ivx ?_;unfold offV;rw[if_pos (by assumption)]
 refine wr'<|Vw (Cy lk lki)<|ms<|?_;refine cd' lk (λhc2=>?_) (λhc2=>?_)
 .refine wm<|mr<|Au<|Ag<|Ad rz<|rT'<|?_;refine ivx ?_;unfold offV;rw[if_neg (by assumption),if_pos (by assumption)]
 refine Be<|Aw<|An<|wo<|Ad rz<|rT'<|?_;refine ivx ?_;unfold offV;rw[if_neg (by assumption),if_neg (by assumption)]
def turns_a {nm:ByteArray}:Ac 174 [.sl l.length 11 false (rows rulC l),sv nm] h (.clo (.func 243) [.rp [.sl l.length 11 false (rows rulC l)],.rp [sv nm]]):=by
 refine tI' k174 λN hn _ _ hbd=>?_;simp only[tb'] at hbd ⊢;refine wr'<|E' (Bq cv rfl hl0 ha0) pt<|E' (Bq cv rfl hl1 ha1) pt<|mv' rfl pt<|Am<|?_;refine B0 (ALe.trans (ALe.icePtr gx gt2 (by simp) pt2 hs0) (ALe.icePtr gx gt3 (by simp) pt3 hs1)) ?_;exact wr'<|Vw (J5 mp)<|mr<|Ad rz<|rT' rfl
def on_r (hr:Dd r=0) (hy:1900<=y/\y<=2100):Ac 236 [iv y,iv r.2.2.2.1,.agg [iv r.2.2.2.2.1.1,iv r.2.2.2.2.1.2.1,iv r.2.2.2.2.1.2.2]] h (.tup [.agg [iv (De (rDy r y)).1,iv (De (rDy r y)).2.1,iv (De (rDy r y)).2.2],iv 0]):=by
 have:=on_a (y:=y) (m:=r.2.2.2.1) (k:=r.2.2.2.2.1.1) (wk:=r.2.2.2.2.1.2.1) (n:=r.2.2.2.2.1.2.2) (h:=h);rw[(R9 hr hy).1] at this;exact this
def num_r {k:Int}(hk : -30000<=k/\k<=50000):Ac 99 [.agg [iv (De k).1,iv (De k).2.1,iv (De k).2.2]] h (iv k):=by
 obtain⟨h1,h2⟩:=O0 (days:=k) om om;have hd:=E8.1 h1;have hm:=H5 (De k).1 (De k).2.1;have:=Se (y:=(De k).1) (m:=(De k).2.1) (d:=(De k).2.2) (h:=h) om om om om om om;rwa [h2] at this
def fB {j:Nat}(hj:(j:Int)<r.2.2.1+1-r.2.1):(Gu r).take (j+1)=(Gu r).take j++[(Hm r (r.2.1+(j:Int)),r)]:=by
 have hl:j<(Gu r).length:=by unfold Gu;rw[List.length_map,Hd];show j<(r.2.2.1+1-r.2.1).toNat;omega
 rw[List.take_succ_eq_append_getElem hl];congr 2;simp[Gu,D2]
def fA {nm:ByteArray}{k:Nat}(hk:k<l.length) (hn:l[k].1=nm) : ∃ m,C5 l nm=C5 (l.take k) nm++(Gu l[k]++m):=by
 refine⟨C5 (l.drop (k+1)) nm,?_⟩;have e:l=l.take k++l[k]::l.drop (k+1):=by rw[<-List.drop_eq_getElem_cons hk,List.take_append_drop]
 have:C5 l nm=C5 (l.take k++l[k]::l.drop (k+1)) nm:=by rw[<-e]
 rw[this];unfold C5;rw[List.flatMap_append,List.flatMap_cons,if_pos hn]
def turns1_a {nm:ByteArray}{lp M0:Nat}{H:List Trn->AH}(hok : ∀ r∈l,Dd r=0) (hz:l.length<=40) (hH : ∀ d,(H d).length=M0) (hHlt : ∀ d,∀ e∈H d,e.lt M0=true)
  (hY : ∀ (d:List Trn) (t:Trn) (e f:Ent),d.length<(C5 l nm).length->AYield Tryz.prog lp [.agg (trnC t)] (H d++[e,f]) λr h''=>r=.ret (.v (.bool true))/\h''=H (d++[t])++[e,f]) :
  ACalls Tryz.prog 243 [.v (.func (.yield lp) #[] #[]),.rp [.sl l.length 11 false (rows rulC l)],.rp [sv nm]] (H []) λx h'=>x=.ret (.tup [])/\h'=H (C5 l nm):=by
 refine tJ' k243 λN hn _ _ hbd=>?_;simp only[tb'] at hbd ⊢;have hMN:M0=N:=(hH []).symm.trans hn;simp only[hMN] at hH hHlt;refine wr'<|Vw (Ba lk gt)<|Vw (Bf lk)<|ms<|Ah<|?_;refine Ll (ι:=Nat) (λ(k:Nat)=>[(11,iv (k:Int))]++rn' 5 4++rn' 12 36) (λ(k:Nat)=>H (C5 (l.take k) nm)++[]) (λ(k:Nat)=>k<=l.length) (λ(k:Nat)=>l.length-k) (0) (by exact Nat.zero_le _) (by try simp only[sm',Nat.reduceAdd];exact ALe.same wA' rfl) ?_;rintro k hi1;try simp only[sm',Nat.reduceAdd]
 replace hi1:k<=l.length:=hi1;refine wr'<|Vw (Bm lk lk)<|sn'<|Ab<|?_;refine cd' lk (λhc1=>?_) (λhc1=>?_)
 .have hk:k<l.length:=by omega
  have hr:=hok _ (List.getElem_mem hk);obtain⟨hr1,hr2,hr3⟩:1900<=l[k].2.1/\l[k].2.1<=l[k].2.2.1/\l[k].2.2.1<=2100:=⟨(Ea hr).1,(Ea hr).2.1,(Ea hr).2.2.1⟩;obtain⟨hr4,hr5⟩:(Gu l[k]).length<=201/\((Gu l[k]).length:Int)=l[k].2.2.1-l[k].2.1+1:=Qs hr;refine za<|Ab<|Ah<|wr'<|?_;refine V' (Bh lk lk Gk nb ro om ro rfl) pt ?_;refine Vw (Ax lk Jj rfl)<|E' (Bz (hl0 (hH _)) ha0) pt<|E' (Ai lk cv (hga (hH _) rfl) rfl nb rfl Pf (hs0 (hH _))) ptn<|sn'<|Ab<|wr'<|fq<|Vw (Aa lk (hga (hH _) rfl) gt0)<|Vw (Ba lk gt)<|Vw (H7 lk lk)<|sn'<|?_;refine cd' lk (λhc2=>?_) (λhc2=>?_)
  .refine Bd<|As<|Bp<|An<|Aq<|?_;refine ad<|mw<|Am<|Az<|?_;refine lU' (k+1) (by (try dsimp only);omega) (by refine zz ?_;exact ALe.trans (ALe.back wA' rfl (E1:=[]) (k:=N+0) (by simp only[List.length_cons,List.length_nil,(hH _)]) om (by exact lt') (ltw om (hHlt _)) (by rfl)) (ALe.same (WkL.refl _) (by rw[Wp hk,if_neg hc2,List.append_nil (C5 _ _)])))
  have hnm:l[k].1=nm:=Decidable.of_not_not hc2;obtain⟨mm,hmm⟩:=fA hk hnm;refine za<|wr'<|fq<|Vw (Aa lk (hga (hH _) rfl) gt1)<|ms<|Ah<|?_;refine Ll (ι:=Nat) (λ(j:Nat)=>[(6,iv (l[k].2.1+(j:Int))),(7,.any),(8,.any)]++rn' 21 26) (λ(j:Nat)=>H (C5 (l.take k) nm++(Gu l[k]).take j)++[Ent.mk 0 196 11 (rulC l[k])]) (λ(j:Nat)=>(j:Int)<=l[k].2.2.1-l[k].2.1+1) (λ(j:Nat)=>(Gu l[k]).length-j) (0) (by show (0:Int)<=_;omega) (by try simp only[sm',Nat.reduceAdd];exact ALe.same wA' (by rw[List.take_zero,List.append_nil])) ?_;rintro j hi2;try simp only[sm',Nat.reduceAdd]
  replace hi2:(j:Int)<=l[k].2.2.1-l[k].2.1+1:=hi2;refine Ab<|wm<|fq<|Vw (Aa lk (hga (hH _) rfl) gt2)<|Vw (Gy lk lk)<|sn'<|?_;refine cd' lk (λhc3=>?_) (λhc3=>?_)
  .have hy:1900<=l[k].2.1+(j:Int)/\l[k].2.1+(j:Int)<=2100:=by omega
   obtain⟨hd1,hd2⟩:=R9 hr hy;have ha6:0<=l[k].2.2.2.2.2.1/\l[k].2.2.2.2.2.1<=172800:=(Ea hr).2.2.2.2.2.1;have hd3 : -30000<=rDy l[k] (l[k].2.1+(j:Int))/\rDy l[k] (l[k].2.1+(j:Int))<=50000:=hd2;refine za<|Ab<|Ah<|wm<|fq<|Vw (Aa lk (hga (hH _) rfl) gt3)<|fq<|Vw (Ak lk (hga (hH _) rfl) Y3 rfl)<|Af mp (on_r hr hy) pt<|mw<|Vw (B7 lk gt)<|?_;refine Vw (B7 lk gt)<|E' (Bz (hl1 (hH _)) ha1) pt<|E' (Ai lk cv (hga (hH _) rfl) rfl nb rfl Bo (hs1 (hH _))) ptn<|ms<|Ab<|Qr []<|Dw vm<|Dw (Ak lk (hga (hH _) rfl) Ap rfl)<|?_;refine Br mp (λhE hX=>num_r hd2) pt ?_;refine D' (J8 lk lki om om) pt ?_;refine dg<|Dw (Aa lk (hga (hH _) rfl) gt7)<|?_;refine D' (Du lk lk om om) pt ?_;refine Dw (Ak lk (hga (hH _) rfl) Pe rfl)<|Dw (Bb (Ph cw cw))<|Bi<|P4<|?_;refine k_callY lk mp (hY _ (Hm l[k] (l[k].2.1+(j:Int)),l[k]) _ _ (by rw[hmm,List.length_append,List.length_append,List.length_append,List.length_take];omega)) (by intro i hi;simp at hi) pt ?_;refine Uz rfl (Bj lk) pt<|U4<|An<|Cf lk<|Be<|Aw<|An<|Aq<|mw<|?_;refine ad<|mw<|Am<|Az<|?_;refine lU' (j+1) (by (try dsimp only);omega) (by refine zz ?_;exact ALe.trans (ALe.back wA' rfl (E1:=[Ent.mk 0 196 11 (rulC l[k])]) (k:=N+1) (by simp only[List.length_cons,List.length_nil,(hH _)]) om (by exact lt') (ltw om (hHlt _)) (by exact lt')) (ALe.same (WkL.refl _) (by rw[fB om,List.append_assoc])))
  refine Bd<|As<|As<|Bp<|Aw<|An<|Aq<|?_;refine ad<|mw<|Am<|Az<|?_;refine lU' (k+1) (by (try dsimp only);omega) (by refine zz ?_;exact ALe.trans (ALe.back wA' rfl (E1:=[]) (k:=N+0) (by simp only[List.length_cons,List.length_nil,(hH _)]) om (by exact lt') (ltw om (hHlt _)) (by rfl)) (ALe.same (WkL.refl _) (by rw[Wp hk,if_pos hnm,List.take_of_length_le (l:=Gu l[k]) om])))
 refine Bd<|As<|As<|Bp<|Ul (rs0)<|?_;exact⟨_,_,rfl,hH _,hHlt _,rfl,rfl,by rw[List.take_of_length_le om]⟩
end
end Go.Proofs.YtfcecekilahfiaaGreatDoor
namespace Go.Ab
section
open Go.RowKit Go.Sort
section
variable {P : Program}
def cS (w:World) (g:Gh) : ∀ {vs us:List Value},RepL w g (vs.map .v) us↔us=vs
 | [],us=>by simp only[List.map_nil,RepL]
 | v::vs,us=>by
  simp only[List.map_cons,RepL,Rep,cS w g (vs:=vs)];constructor
  .rintro⟨u,us',rfl,rfl,rfl⟩;rfl
  .rintro rfl;exact⟨_,_,rfl,rfl,rfl⟩
def ACalls.of_turn {f:FuncId}{args:List AV}{h:AH}{id ver ty st:Nat}{cells:List AV}{R':List AV->Prop}(he:enters P f=true) (hi:h[id]?=some (.mk ver ty st cells)) (hne:cells≠[])
  (hc : ∀ w g (vs:Array Value) b cap arr,SimH w g h->RepL w g args vs.toList->g.loc id ver=some (some ⟨b,0,none⟩,cap)->w.heap[b]?=some (.cells arr ty (0,0))->arr.size=cap*st->cells.length<=arr.size->RepL w g cells (arr.toList.take cells.length) ->
   Calls P f vs w λe w'=>e=.returned (.tuple #[]) /\ ∃ (vs':List Value) (arr':Array Value),R' (vs'.map .v)/\w'.heap[b]?=some (.cells arr' ty (0,0))/\arr'.size=arr.size/\vs'.length=cells.length/\arr'.toList.take cells.length=vs' /\
    w'.os=w.os/\w'.tape=w.tape/\w'.output=w.output/\w.heap.size<=w'.heap.size /\ ∀ k,k<w.heap.size->k≠b->w'.heap[k]?=w.heap[k]?) :
  ACalls P f args h λx h'=>x=.ret (.tup []) /\ ∃ cells',R' cells'/\h'=h.set id (.mk ver ty st cells'):=by
 refine⟨he,λw g vs hs ha=>?_⟩;obtain⟨A,cap,f1,fm,f3⟩:=hs.ent _ _ _ _ _ hi;rcases f3 with ⟨e,_⟩ | ⟨b,arr,rfl,hc0,hd,hb,hsz,hle,hrl⟩
 .exact absurd e hne
 have hid:id<h.length:=(List.getElem?_eq_some_iff.1 hi).1;have how:OwAt g h id b:=⟨ver,ty,st,cells,_,cap,hi,f1,hc0,rfl⟩;refine (hc w g vs b cap arr hs ha f1 hb hsz hle hrl).mono ?_;rintro e w' ⟨rfl,vs',arr',hR,h1,h2,h3,h4,h5,h6,h7,h8,h9⟩;have hother : ∀ j,g.D j\/(∃ i,i≠id/\OwAt g h i j)\/(∃ i,RwAt h i j)->w'.heap[j]?=w.heap[j]?:=by
  rintro j (hj | ⟨i,hne',hj⟩ | ⟨i,hj⟩);rotate_left 2
  .exact h9 j (hs.own_not_D (.inr ⟨i,hj⟩)).2 (λe=>by subst e;exact hs.own_ne_raw how hj)
  .exact h9 j (hs.lt j hj) (λe=>hd (e ▸ hj))
  .exact h9 j (hs.own_not_D (.inl ⟨i,hj⟩)).2 (λe=>hne' (hs.inj i id j hj (e ▸ how)))
 obtain⟨k1,k2,k3⟩:=hs.put (w':=w') (g':=g) (h':=h.set id (.mk ver ty st (vs'.map .v))) id ver ty st (vs'.map .v) (some ⟨b,0,none⟩) cap
  (λi hne'=>by rw[List.getElem?_set_ne (Ne.symm hne')]) (by rw[List.getElem?_set_self hid]) (by simp) rfl (λ_ _ _ h=>h) (λ_ _ _ h=>.inl h) f1 (λv l hv=>(hs.fresh _ _ _ hv).2 _ _ _ _ hi) hother h8 fm
  (.inr ⟨b,arr',rfl,hc0,hd,h1,by rw[h2,hsz],by rw[List.length_map,h3,h2];exact hle,by rw[List.length_map,h3,h4];exact (cS w' g).2 rfl⟩)
  (λj hj _ i hne' ho=>by
   simp at hj;subst hj;exact hne' (hs.inj i id _ ho how)) (λk hk _ _=>by simp at hk;subst hk;exact .inl ⟨id,how⟩)
 refine⟨.ret (.tup []),_,g,?_,k1,k2,⟨h5,h6,h7,h8,λk hk hn=>h9 k hk (λe=>hn (.inl ⟨id,e ▸ how⟩))⟩,λk hk=>?_,rfl,_,hR,rfl⟩
 .simp only[EndR,Rep];exact⟨#[],rfl,by simp only[RepL]⟩
 .rcases k3 k hk with ho | ⟨ho,_⟩
  .exact .inl ho
  .simp at ho;subst ho;exact .inl (.inl ⟨id,how⟩)
end
section
variable {P : Program} {α : Type}
def pL {enc:α->List Value}{k:Nat}(hk : ∀ x,(enc x).length=k) : ∀ (l:List α) (i j:Nat) (h:i<l.length),j<k->(l.flatMap enc)[i*k+j]?=(enc l[i])[j]?
 | [],i,j,h,_=>by simp at h
 | x::l,0,j,h,hj=>by
  rw[List.flatMap_cons,Nat.zero_mul,Nat.zero_add,List.getElem?_append_left (by rw[hk];exact hj)];rfl
 | x::l,i+1,j,h,hj=>by
  have ih:=pL hk l i j (by simpa using h) hj;rw[List.flatMap_cons,List.getElem?_append_right (by rw[hk,Nat.succ_mul];omega),hk,show (i+1)*k+j-k=i*k+j by rw[Nat.succ_mul];omega,ih];rfl
def Lx {enc:α->List Value}{k:Nat}(hk : ∀ x,(enc x).length=k) : ∀ (l:List α),(l.flatMap enc).length=l.length*k
 | []=>by simp
 | x::l=>by rw[List.flatMap_cons,List.length_append,hk,Lx hk l,List.length_cons,Nat.succ_mul];omega
def X9 [Inhabited α] {enc:α->List Value}{k:Nat}(hk0:0<k) (hk : ∀ x,(enc x).length=k) (d:Array α):(Go.Sort.flatK enc k d).toList=d.toList.flatMap enc:=by
 apply List.ext_getElem?;intro t;by_cases ht:t<d.size*k
 .have h1:t/k<d.size:=Nat.div_lt_of_lt_mul (by rw[Nat.mul_comm];exact ht);have h2:t%k<k:=Nat.mod_lt _ hk0;have h3:=pL hk d.toList (t/k) (t%k) (by simpa using h1) h2;rw[Nat.mul_comm (t/k) k,Nat.div_add_mod] at h3;rw[h3];have hs:t<(Go.Sort.flatK enc k d).size:=by simpa using ht
  have h4:=Go.Sort.get_flatK enc k d t ht;rw[getElem!_pos _ t hs,getElem!_pos _ (t/k) h1,getElem!_pos _ (t%k) (by rw[hk];exact h2)] at h4;rw[Array.getElem?_toList,Array.getElem?_eq_getElem hs,h4,Array.getElem_toList,List.getElem?_eq_getElem (by rw[hk];exact h2)];rfl
 .rw[List.getElem?_eq_none (by simpa using ht),List.getElem?_eq_none (by rw[Lx hk];simpa using ht)]
def rows_v {enc:α->List Value}(l:List α):rows (λx=>(enc x).map .v) l=(l.flatMap enc).map .v:=by
 unfold rows;rw[List.map_flatMap]
def sort_a [Inhabited α] {ρ:Go.Shelf.Ren}(L:Go.Proofs.SlLaysF0.n6 P ρ) {k:Nat}(hk0:0<k) (aE : ∀ w,(isAgg (ρ.t 24)).run P w=.ok true w) (zE : ∀ w,(Go.sizeOf (ρ.t 24)).run P w=.ok k w) {enc:α->List Value}(hk : ∀ x,(enc x).length=k) (h1 : ∀ x,∀ v∈enc x,v.oneCell'=true) {cf:α->α->Int}(hO:SWO (Go.Proofs.ltOf cf)) {g0:Nat}
  (eg : ∀ args w,(callFunc g0 args).run P w=.ok (.enter g0 args) w) (hcmp : ∀ blk off size w,Go.Proofs.CmpLays P g0 #[] enc k cf blk off size w) {h:AH} {id ver ty:Nat} {l:List α} (hi:h[id]?=some (.mk ver ty k (rows (λx=>(enc x).map .v) l))) (hl:l≠[]) (hz:l.length<4611686018427387904) (he:enters P (ρ.f 6)=true) :
  ACalls P (ρ.f 6) [.own id ver l.length,.v (.func (.func g0) #[] #[])] h λx h'=>x=.ret (.tup []) /\ ∃ l':List α,l'.Perm l/\(∀ i j (hi:i<l'.length) (hj:j<l'.length),i<j->Go.Proofs.ltOf cf l'[j] l'[i]=false)/\h'=h.set id (.mk ver ty k (rows (λx=>(enc x).map .v) l')):=by
 have hlen:=C9 (f:=λx=>(enc x).map .v) (st:=k) (λx=>by rw[List.length_map,hk]) l;have hpos:0<l.length:=List.length_pos_iff.2 hl;refine (ACalls.of_turn (R':=λcs => ∃ l':List α,l'.Perm l/\(∀ i j (hi:i<l'.length) (hj:j<l'.length),i<j->Go.Proofs.ltOf cf l'[j] l'[i]=false)/\cs=rows (λx=>(enc x).map .v) l') he hi ?_ ?_).mono ?_
 .intro e;have:=congrArg List.length e;rw[hlen] at this;have h0:0<l.length*k:=Nat.mul_pos hpos hk0;simp at this;omega
 .intro w g vs b cap arr hs ha hloc hb hsz hle hr;simp only[RepL,Rep,hloc] at ha;obtain⟨u1,us1,e1,⟨A,c,e2,hn1,hn2,rfl⟩,u2,us2,rfl,rfl,rfl⟩:=ha;simp only[Option.some.injEq,Prod.mk.injEq] at e2;obtain⟨rfl,rfl⟩:=e2;obtain rfl:vs = #[.slice (some ⟨b,0,none⟩) l.length cap,.func (.func g0) #[] #[]]:=by cases vs;simp_all
  have hr':arr.toList.take (l.length*k)=l.flatMap enc:=by
   rw[hlen,rows_v] at hr;exact (cS w g).1 hr
  have hblk:b<w.heap.size:=(Array.getElem?_eq_some_iff.1 hb).1;have hflat:=X9 hk0 hk l.toArray;have hgetF : ∀ (d:Array α) (t:Nat),t<d.size*k->(Go.Sort.flatK enc k d).toList[t]?=some (Go.Sort.flatK enc k d)[t]!:=by
   intro d t ht;have hs:t<(Go.Sort.flatK enc k d).size:=by simpa using ht
   rw[getElem!_pos _ t hs,Array.getElem?_toList,Array.getElem?_eq_getElem hs]
  have hH:Go.Sort.HoldsK enc k w b 0 l.toArray:=by
   intro j hj;have hj':j<l.length*k:=by simpa using hj
   rw[Nat.zero_add];refine⟨?_,frozen_of_row w b j arr ty hb⟩;rw[cell_of_row w b j arr ty (0,0) hb,<-Array.getElem?_toList];have h5:arr.toList[j]?=(l.flatMap enc)[j]?:=by rw[<-hr',List.getElem?_take_of_lt hj']
   rw[h5,show l.flatMap enc=(Go.Sort.flatK enc k l.toArray).toList from hflat.symm,hgetF _ _ (by simpa using hj')];rfl
  refine (Go.Proofs.AnyQ.slices_SortFunc L k aE zE enc hk h1 cf hO g0 #[] b 0 cap l.toArray w eg (hcmp b 0 l.toArray.size w) hH hblk (by simpa using hz)).mono ?_;rintro e w' ⟨rfl,d',n,os,⟨p1,_,p3⟩,hso,rfl⟩;have hds:d'.size=l.length:=by simpa using p1
  have hw' : ∀ j,j<w.heap.size->(Go.Proofs.sortWorldK enc k w b 0 n d' os).heap[j]?=(w.heap.modify b (onCells (putCells _root_.id 0 (Go.Sort.flatK enc k d'))))[j]?:=by
   intro j hj;show ((w.heap.modify b (onCells (putCells _root_.id 0 (Go.Sort.flatK enc k d'))))++os)[j]?=_;rw[Array.getElem?_append_left (by simpa using hj)]
  have hsz2:arr.size=(putCells _root_.id 0 (Go.Sort.flatK enc k d') arr).size:=by simp[putCells]
  refine⟨rfl,d'.toList.flatMap enc,putCells _root_.id 0 (Go.Sort.flatK enc k d') arr,⟨d'.toList,?_,?_,(rows_v _).symm⟩,?_,hsz2.symm,?_,?_,rfl,rfl,rfl,?_,?_⟩
  .have e1:d'.extract 0 l.toArray.size=d':=by rw[<-p1];simp
   have e2:l.toArray.extract 0 l.toArray.size=l.toArray:=by simp
   rw[e1,e2] at p3;simpa using p3
  .intro i j hi hj hij;have:=hso i j (Nat.zero_le _) hij (by simpa [hds] using hj);rw[getElem!_pos d' j (by simpa using hj),getElem!_pos d' i (by simpa using hi)] at this;simpa using this
  .rw[hw' b hblk,Array.getElem?_modify,if_pos rfl,hb];rfl
  .rw[Lx hk,hlen,Array.length_toList,hds]
  .rw[hlen];apply List.ext_getElem?;intro t;by_cases ht:t<l.length*k
   .have ht2:t<d'.size*k:=by rw[hds];exact ht
    have hta:t<arr.size:=by rw[hlen] at hle;omega
    rw[List.getElem?_take_of_lt ht,<-X9 hk0 hk d',hgetF d' t ht2];unfold putCells;rw[Array.getElem?_toList,Array.getElem?_mapIdx,Array.getElem?_eq_getElem hta,Option.map_some,if_pos ⟨Nat.zero_le _,by simpa using ht2⟩];rfl
   .rw[List.getElem?_eq_none (by simp;omega),List.getElem?_eq_none (by rw[Lx hk,Array.length_toList,hds];omega)]
  .show w.heap.size<=((w.heap.modify b (onCells (putCells _root_.id 0 (Go.Sort.flatK enc k d'))))++os).size;simp
  .intro j hj hjb;rw[hw' j hj,Array.getElem?_modify,if_neg (Ne.symm hjb)]
 .rintro x h' ⟨rfl,cs,⟨l',hp,hs,rfl⟩,rfl⟩;exact⟨rfl,l',hp,hs,rfl⟩
end
end
end Go.Ab
namespace Go.Proofs
section
open Go.Shelf
def Tryz.sl9z_ren:Go.Shelf.Ren:=⟨fun | 6=>61 | 15=>112 | 14=>111 | 28=>188 | 29=>189 | 20=>180 | 21=>181 | 22=>182 | 23=>183 | 24=>184 | 25=>185 | 26=>186 | 27=>187 | 46=>246 | 47=>247 | 48=>248 | 49=>249 | 50=>250 | 57=>292 | n=>n,fun | 22=>70 | 24=>115 | 25=>118 | 3=>3 | 39=>155 | 0=>0 | 53=>252 | 55=>254 | 4=>4 | 46=>246 | 45=>245 | 50=>124 | 5=>5 | 9=>9 | 66=>291 | 70=>295 | 76=>323 | 77=>267 | n=>n,fun | n=>n⟩
def Tryz.sl9_ren:Go.Shelf.Ren:=⟨fun | 6=>175 | 15=>112 | 14=>244 | 28=>188 | 29=>189 | 20=>284 | 21=>285 | 22=>286 | 23=>287 | 24=>288 | 25=>289 | 26=>290 | 27=>291 | 46=>305 | 47=>247 | 48=>248 | 49=>306 | 50=>307 | 57=>312 | n=>n,fun | 22=>233 | 24=>237 | 25=>239 | 3=>3 | 39=>155 | 0=>0 | 53=>252 | 55=>254 | 4=>4 | 46=>246 | 45=>245 | 50=>124 | 5=>5 | 9=>9 | 66=>291 | 70=>295 | 76=>323 | 77=>267 | n=>n,fun | n=>n⟩
def Tryz.sl9:Go.Proofs.SlLaysF0.n6 Tryz.prog Tryz.sl9_ren:={
 mixed:=by kernel_rfl
 f6:=⟨Tryz.f175.name,by decide,Tryz.func175.trans (congrArg some (by kernel_rfl))⟩
 f14:=⟨Tryz.f244.name,by decide,Tryz.func244.trans (congrArg some (by kernel_rfl))⟩
 f15:=Tryz.func112.trans (congrArg some (by kernel_rfl))
 f20:=⟨Tryz.f284.name,by decide,Tryz.func284.trans (congrArg some (by kernel_rfl))⟩
 f21:=⟨Tryz.f285.name,by decide,Tryz.func285.trans (congrArg some (by kernel_rfl))⟩
 f22:=⟨Tryz.f286.name,by decide,Tryz.func286.trans (congrArg some (by kernel_rfl))⟩
 f23:=⟨Tryz.f287.name,by decide,Tryz.func287.trans (congrArg some (by kernel_rfl))⟩
 f24:=⟨Tryz.f288.name,by decide,Tryz.func288.trans (congrArg some (by kernel_rfl))⟩
 f25:=⟨Tryz.f289.name,by decide,Tryz.func289.trans (congrArg some (by kernel_rfl))⟩
 f26:=⟨Tryz.f290.name,by decide,Tryz.func290.trans (congrArg some (by kernel_rfl))⟩
 f27:=⟨Tryz.f291.name,by decide,Tryz.func291.trans (congrArg some (by kernel_rfl))⟩
 f28:=Tryz.func188.trans (congrArg some (by kernel_rfl))
 f29:=Tryz.func189.trans (congrArg some (by kernel_rfl))
 f46:=⟨Tryz.f305.name,by decide,Tryz.func305.trans (congrArg some (by kernel_rfl))⟩
 f47:=Tryz.func247.trans (congrArg some (by kernel_rfl))
 f48:=Tryz.func248.trans (congrArg some (by kernel_rfl))
 f49:=⟨Tryz.f306.name,by decide,Tryz.func306.trans (congrArg some (by kernel_rfl))⟩
 f50:=⟨Tryz.f307.name,by decide,Tryz.func307.trans (congrArg some (by kernel_rfl))⟩
 f57:=⟨Tryz.f312.name,by decide,Tryz.func312.trans (congrArg some (by kernel_rfl))⟩
 t0:=Tryz.underlying0
 a0:=Tryz.isAgg0
 z0:=Tryz.sizeOf0
 v0:=Tryz.zeroValue0
 t3:=Tryz.underlying3
 a3:=Tryz.isAgg3
 z3:=Tryz.sizeOf3
 v3:=Tryz.zeroValue3
 t4:=Tryz.underlying4
 a4:=Tryz.isAgg4
 z4:=Tryz.sizeOf4
 v4:=Tryz.zeroValue4
 t5:=Tryz.underlying5
 a5:=Tryz.isAgg5
 z5:=Tryz.sizeOf5
 v5:=Tryz.zeroValue5
 t9:=Tryz.underlying9
 a9:=Tryz.isAgg9
 z9:=Tryz.sizeOf9
 v9:=Tryz.zeroValue9
 t22:=Tryz.underlying233
 a22:=Tryz.isAgg233
 z22:=Tryz.sizeOf233
 v22:=Tryz.zeroValue233
 t25:=Tryz.underlying239
 a25:=Tryz.isAgg239
 z25:=Tryz.sizeOf239
 v25:=Tryz.zeroValue239
 t39:=Tryz.underlying155
 a39:=Tryz.isAgg155
 z39:=Tryz.sizeOf155
 v39:=Tryz.zeroValue155
 t45:=Tryz.underlying245
 a45:=Tryz.isAgg245
 z45:=Tryz.sizeOf245
 v45:=Tryz.zeroValue245
 t46:=Tryz.underlying246
 a46:=Tryz.isAgg246
 z46:=Tryz.sizeOf246
 v46:=Tryz.zeroValue246
 t50:=Tryz.underlying124
 a50:=Tryz.isAgg124
 z50:=Tryz.sizeOf124
 v50:=Tryz.zeroValue124
 t53:=Tryz.underlying252
 a53:=Tryz.isAgg252
 z53:=Tryz.sizeOf252
 v53:=Tryz.zeroValue252
 t55:=Tryz.underlying254
 a55:=Tryz.isAgg254
 z55:=Tryz.sizeOf254
 v55:=Tryz.zeroValue254
 t66:=Tryz.underlying291
 a66:=Tryz.isAgg291
 z66:=Tryz.sizeOf291
 v66:=Tryz.zeroValue291
 t70:=Tryz.underlying295
 a70:=Tryz.isAgg295
 z70:=Tryz.sizeOf295
 v70:=Tryz.zeroValue295
 t76:=Tryz.underlying323
 a76:=Tryz.isAgg323
 z76:=Tryz.sizeOf323
 v76:=Tryz.zeroValue323
 t77:=Tryz.underlying267
 a77:=Tryz.isAgg267
 z77:=Tryz.sizeOf267
 v77:=Tryz.zeroValue267 }
end
section
open Go.Shelf
def Tryz.lays122_ren:Go.Shelf.Ren:=⟨fun | 122=>177 | 215=>245 | n=>n,fun | 3=>3 | 4=>4 | n=>n,fun | n=>n⟩
def Tryz.lays122:Go.Proofs.Lays.n122 Tryz.prog Tryz.lays122_ren:={
 mixed:=by kernel_rfl
 f122:=Tryz.func177.trans (congrArg some (by kernel_rfl))
 f215:=Tryz.func245.trans (congrArg some (by kernel_rfl))
 t3:=Tryz.underlying3
 a3:=Tryz.isAgg3
 z3:=Tryz.sizeOf3
 v3:=Tryz.zeroValue3
 t4:=Tryz.underlying4
 a4:=Tryz.isAgg4
 z4:=Tryz.sizeOf4
 v4:=Tryz.zeroValue4 }
open Go.RowKit in
def Tryz.cmp_Compare_int (x y:Int) (w:World) :
  Calls Tryz.prog 177 #[.int .i64 x,.int .i64 y] w λe w'=>e=.returned (.int .i64 (Lib.compareInt x y))/\w'=w:=Any.cmp_Compare_int Tryz.lays122 x y w
end
end Go.Proofs
namespace Go.Proofs.YtfcecekilahfiaaGreatDoor
open Go.Ab
variable {h:AH}{a0 a1 a10 a11 a2 a3 a4 a5 a6 a7 a8 a9:AV}{fm:ByteArray}{f:Ent}{x:Era}{b sa sh:Int}{g:Int->Loc}{es:List Era}{k:List Lnk}{l rl:List Rul}{vs:List Value}{z:List Zon}{D N Y i ty v:Nat}{bsy fin o rdy:Obj}{s:Src}
section
open Go.Ab Go.RowKit Civ Go.Sort
def trnV (t:Trn):List Value:=[.int .i64 t.1,.string t.2.1,.int .i64 t.2.2.1,.int .i64 t.2.2.2.1,.int .i64 t.2.2.2.2.1,.int .i64 t.2.2.2.2.2.1.1,.int .i64 t.2.2.2.2.2.1.2.1,.int .i64 t.2.2.2.2.2.1.2.2,.int .i64 t.2.2.2.2.2.2.1,.int .i64 t.2.2.2.2.2.2.2.1,.int .i64 t.2.2.2.2.2.2.2.2.1,.string t.2.2.2.2.2.2.2.2.2]
def cmpT (a b:Trn):Int:=Lib.compareInt a.1 b.1
def qC (a b:Trn):Go.Proofs.ltOf cmpT a b=decide (a.1<b.1):=by
 unfold Go.Proofs.ltOf cmpT Lib.compareInt;rw[Bool.eq_iff_iff];simp only[decide_eq_true_eq];repeat' split
 all_goals omega
def cmpT_swo:SWO (Go.Proofs.ltOf cmpT):=by
 refine⟨λx=>?_,λx y z=>?_,λx y z=>?_⟩ <;> simp only[qC,decide_eq_true_eq,decide_eq_false_iff_not] <;> omega
def cmp_walk (x y:Trn) (w:World):Calls Tryz.prog 176 #[.agg (trnV x).toArray,.agg (trnV y).toArray] w λe w'=>e=.returned (.int .i64 (cmpT x y)) /\ ∃ q os,w'=grow (w.drewN q) os:=by
 obtain⟨a,n,f,t,m,⟨k,v,d⟩,c,e,s,l⟩:=x;obtain⟨a2,n2,f2,t2,m2,⟨k2,v2,d2⟩,c2,e2,s2,l2⟩:=y;simp only[trnV];go_enter Tryz.func176,Tryz.ntmps176;go_wp2_with (go_at_call 177;refine (Tryz.cmp_Compare_int _ _ _).mono ?_;rintro e w' ⟨rfl,rfl⟩);go_ret;refine⟨rfl,?_⟩;rw[alloc_eq_grow,alloc_eq_grow,grow_grow];exact⟨0,_,rfl⟩
def ordT (l l':List Trn):Prop:=l'.Perm l/\l'.Pairwise λa b=>a.1<=b.1
def sortT_a {id ver:Nat}{l:List Trn}(hi:h[id]?=some (.mk ver ty 12 (rows trnC l))) (hl:l≠[]) (hz:l.length<4611686018427387904) :
  ACalls Tryz.prog 175 [.own id ver l.length,.v (.func (.func 176) #[] #[])] h λx h'=>x=.ret (.tup []) /\ ∃ l',ordT l l'/\h'=h.set id (.mk ver ty 12 (rows trnC l')):=by
 refine (sort_a (P:=Tryz.prog) Tryz.sl9 (k:=12) om (λw=>by kernel_rfl) (λw=>by kernel_rfl) (enc:=trnV) (λ_=>rfl) (λt v hv=>?_) cmpT_swo (g0:=176) (λargs w=>?_) (λblk off size w m os dk hd x y=>cmp_walk x y _) hi hl hz (by kernel_rfl)).mono ?_
 .unfold trnV at hv;simp only[List.mem_cons,List.not_mem_nil,or_false] at hv;rcases hv with rfl | rfl | rfl | rfl | rfl | rfl | rfl | rfl | rfl | rfl | rfl | rfl <;> rfl
 .exact U9 (by kernel_rfl) args w
 .rintro x h' ⟨rfl,l',hp,hs,rfl⟩;refine⟨rfl,l',⟨hp,List.pairwise_iff_getElem.2 λi j hi hj hij=>?_⟩,rfl⟩;have:=hs i j hi hj hij;rw[qC] at this;simp only[decide_eq_false_iff_not] at this;omega
end
section
open Go.Ab Go.RowKit Civ
attribute [local simp] Eb Wq Ix
section
def Pg {c0 c1 c2 c3 c4 c5 c6 c7 c8 c9 c10 c11:AV}{l:List AV}:setCells (a0::a1::a2::a3::a4::a5::a6::a7::a8::a9::a10::a11::l) 0 [c0,c1,c2,c3,c4,c5,c6,c7,c8,c9,c10,c11]=c0::c1::c2::c3::c4::c5::c6::c7::c8::c9::c10::c11::l:=rfl
def Vh {l:List AV}:((a0::a1::a2::a3::a4::a5::a6::a7::a8::a9::a10::a11::l).drop 0).take 12=[a0,a1,a2,a3,a4,a5,a6,a7,a8,a9,a10,a11]:=rfl
def Td {τ:Operand->AV}{y0:Operand}{a b c d e f g i j m n o:AV}(h0:Lf τ y0 [a,b,c,d,e,f,g,i,j,m,n,o]):Cm τ [(0,12,y0)] [(iv 0),(.v (.string ⟨#[]⟩)),(iv 0),(iv 0),(iv 0),(iv 0),(iv 0),(iv 0),(iv 0),(iv 0),(iv 0),(.v (.string ⟨#[]⟩))]=some [a,b,c,d,e,f,g,i,j,m,n,o]:=fl h0 rfl
def Y4 {l:List AV}:(a0::a1::a2::a3::a4::a5::a6::a7::a8::a9::a10::a11::l).take 12=[a0,a1,a2,a3,a4,a5,a6,a7,a8,a9,a10,a11]:=rfl
def Vg {l:List AV}:((a0::a1::a2::a3::a4::a5::a6::a7::a8::a9::a10::a11::l).drop 1).take 11=[a1,a2,a3,a4,a5,a6,a7,a8,a9,a10,a11]:=rfl
def Dq {τ:Operand->AV}{y0 y1 y2:Operand}{a b c:AV}(h0:Lf τ y0 [a])(h1:Lf τ y1 [b])(h2:Lf τ y2 [c]):Cm τ [(0,1,y0),(1,1,y1),(2,1,y2)] [(iv 0),(iv 0),(.v (.string ⟨#[]⟩))]=some [a,b,c]:=fl h0<|fl h1<|fl h2 rfl
def D1 {τ:Operand->AV}{y0:Operand}{a b c:AV}(h0:Lf τ y0 [a,b,c]):Cm τ [(0,3,y0)] [(iv 0),(iv 0),(.v (.string ⟨#[]⟩))]=some [a,b,c]:=fl h0 rfl
def Nw {e0 e1 e2 e3 e4 e5 d0:Ent}:([e0,e1,e2,e3,e4,e5]:AH)++[d0]=[e0,e1,e2,e3,e4,e5,d0]:=rfl
end
def c106p:AC:=(.seq (.reg [⟨(some 6),none,(.mv (.const (.slice none 0 0)))⟩,⟨(some 7),none,(.mv (.const (.int .i64 0)))⟩]) (.seq (.reg [⟨(some 15),none,(.mv (.tmp 0))⟩,⟨(some 16),none,(.mv (.tmp 1))⟩,⟨(some 17),none,(.mv (.tmp 2))⟩,⟨(some 18),none,(.call (.func 173) [(.tmp 15),(.tmp 16),(.tmp 17)])⟩,⟨(some 8),none,(.mv (.tmp 18))⟩]) (.seq (.reg [⟨(some 19),none,(.mv (.tmp 8))⟩,⟨(some 20),none,(.bin .neq (.tmp 19) (.const (.int .i64 0)))⟩]) (.seq (.cond (.tmp 20) (.seq (.reg [⟨(some 21),none,(.mv (.tmp 8))⟩,⟨(some 6),none,(.mv (.const (.slice none 0 0)))⟩,⟨(some 7),none,(.mv (.tmp 21))⟩]) .ret) .skip) (.seq (.reg [⟨(some 9),none,(.new 233 1 [(.sl 0 0 true [])])⟩]) (.seq (.reg [⟨(some 22),none,(.mv (.tmp 0))⟩,⟨(some 23),none,(.mv (.tmp 1))⟩,⟨(some 24),none,(.call (.func 174) [(.tmp 22),(.tmp 23)])⟩]) .skip))))))
def c106a:AC:=(.reg [⟨(some 10),none,(.new 237 12 [(iv 0),(.v (.string ⟨#[]⟩)),(iv 0),(iv 0),(iv 0),(iv 0),(iv 0),(iv 0),(iv 0),(iv 0),(iv 0),(.v (.string ⟨#[]⟩))])⟩,⟨none,none,(.store 12 (.tmp 10) (.tmp 25))⟩])
def c106b:AC:=(.block 1 (.reg [⟨(some 26),none,(.load false 1 (.tmp 9))⟩,⟨(some 27),none,(.load true 12 (.tmp 10))⟩,⟨(some 28),none,(.lit 237 12 1 [(iv 0),(.v (.string ⟨#[]⟩)),(iv 0),(iv 0),(iv 0),(iv 0),(iv 0),(iv 0),(iv 0),(iv 0),(iv 0),(.v (.string ⟨#[]⟩))] [(0,(12,(.tmp 27)))])⟩,⟨(some 29),none,(.app 237 12 112 (.tmp 26) (.tmp 28))⟩,⟨none,none,(.store 1 (.tmp 9) (.tmp 29))⟩]))
def c106q:AC:=(.seq (.reg [⟨(some 30),none,(.load false 1 (.tmp 9))⟩,⟨(some 31),none,(.call (.func 175) [(.tmp 30),(.func 176)])⟩]) (.seq (.reg [⟨(some 11),none,(.mv (.const (.slice none 0 0)))⟩]) (.seq (.reg [⟨(some 12),none,(.mv (.const (.int .i64 0)))⟩]) (.seq (.reg [⟨(some 32),none,(.load false 1 (.tmp 9))⟩,⟨(some 33),none,(.len false (.tmp 32))⟩,⟨(some 34),none,(.mv (.const (.int .i64 0)))⟩]) (.seq (.block 2 (.loop (.seq (.reg [⟨(some 35),none,(.bin .lss (.tmp 34) (.tmp 33))⟩]) (.seq (.cond (.tmp 35) .skip (.exit 2)) (.seq (.block 3 (.seq (.reg [⟨(some 36),none,(.mv (.tmp 34))⟩,⟨(some 37),none,(.ia 12 (.tmp 32) (.tmp 34))⟩,⟨(some 38),none,(.load true 12 (.tmp 37))⟩,⟨(some 14),none,(.new 237 12 [(iv 0),(.v (.string ⟨#[]⟩)),(iv 0),(iv 0),(iv 0),(iv 0),(iv 0),(iv 0),(iv 0),(iv 0),(iv 0),(.v (.string ⟨#[]⟩))])⟩,⟨(some 13),none,(.mv (.tmp 36))⟩,⟨none,none,(.store 12 (.tmp 14) (.tmp 38))⟩]) (.seq (.seq (.drw [⟨(some 39),none,(.mv (.tmp 13))⟩,⟨(some 40),none,(.bin .gtr (.tmp 39) (.const (.int .i64 0)))⟩,⟨(some 41),none,(.mv (.tmp 40))⟩,⟨(some 42),(some (41,true)),(.fa 0 (.tmp 14))⟩,⟨(some 43),(some (41,true)),(.load false 1 (.tmp 42))⟩,⟨(some 44),(some (41,true)),(.load false 1 (.tmp 9))⟩,⟨(some 45),(some (41,true)),(.mv (.tmp 13))⟩,⟨(some 46),(some (41,true)),(.bin .sub (.tmp 45) (.const (.int .i64 1)))⟩,⟨(some 47),(some (41,true)),(.ia 12 (.tmp 44) (.tmp 46))⟩,⟨(some 48),(some (41,true)),(.fa 0 (.tmp 47))⟩,⟨(some 49),(some (41,true)),(.load false 1 (.tmp 48))⟩,⟨(some 50),(some (41,true)),(.bin .sub (.tmp 43) (.tmp 49))⟩,⟨(some 51),(some (41,true)),(.bin .lss (.tmp 50) (.const (.int .i64 172800)))⟩,⟨(some 52),none,(.pick (.tmp 41) (.tmp 51) (.const (.bool false)))⟩] [] []) (.cond (.tmp 52) (.seq (.reg [⟨(some 6),none,(.mv (.const (.slice none 0 0)))⟩,⟨(some 7),none,(.mv (.const (.int .i64 4)))⟩]) .ret) .skip)) (.seq (.drw [⟨(some 53),none,(.mv (.tmp 11))⟩,⟨(some 54),none,(.fa 0 (.tmp 14))⟩,⟨(some 55),none,(.load false 1 (.tmp 54))⟩,⟨(some 56),none,(.fa 1 (.tmp 14))⟩,⟨(some 57),none,(.load true 11 (.tmp 56))⟩,⟨(some 58),none,(.mv (.tmp 2))⟩,⟨(some 59),none,(.mv (.tmp 12))⟩,⟨(some 60),none,(.call (.func 178) [(.tmp 57),(.tmp 58),(.tmp 59)])⟩,⟨(some 61),none,(.bin .sub (.tmp 55) (.tmp 60))⟩,⟨(some 62),none,(.fa 1 (.tmp 14))⟩,⟨(some 63),none,(.fa 9 (.tmp 62))⟩,⟨(some 64),none,(.load false 1 (.tmp 63))⟩,⟨(some 65),none,(.fa 1 (.tmp 14))⟩,⟨(some 66),none,(.fa 10 (.tmp 65))⟩,⟨(some 67),none,(.load false 1 (.tmp 66))⟩,⟨(some 68),none,(.build [(iv 0),(iv 0),(.v (.string ⟨#[]⟩))] [(0,(1,(.tmp 61))),(1,(1,(.tmp 64))),(2,(1,(.tmp 67)))])⟩,⟨(some 69),none,(.lit 242 3 1 [(iv 0),(iv 0),(.v (.string ⟨#[]⟩))] [(0,(3,(.tmp 68)))])⟩] [false,false] [⟨(some 70),none,(.app 242 3 32 (.tmp 53) (.tmp 69))⟩,⟨(some 11),none,(.mv (.tmp 70))⟩]) (.reg [⟨(some 71),none,(.fa 1 (.tmp 14))⟩,⟨(some 72),none,(.fa 9 (.tmp 71))⟩,⟨(some 73),none,(.load false 1 (.tmp 72))⟩,⟨(some 12),none,(.mv (.tmp 73))⟩]))))) (.reg [⟨(some 74),none,(.bin .add (.tmp 34) (.const (.int .i64 1)))⟩,⟨(some 34),none,(.mv (.tmp 74))⟩])))))) (.seq (.reg [⟨(some 75),none,(.mv (.tmp 11))⟩,⟨(some 76),none,(.len false (.tmp 75))⟩,⟨(some 77),none,(.bin .gtr (.tmp 76) (.const (.int .i64 1000)))⟩]) (.seq (.cond (.tmp 77) (.seq (.reg [⟨(some 6),none,(.mv (.const (.slice none 0 0)))⟩,⟨(some 7),none,(.mv (.const (.int .i64 2)))⟩]) .ret) .skip) (.seq (.reg [⟨(some 78),none,(.mv (.tmp 11))⟩,⟨(some 6),none,(.mv (.tmp 78))⟩,⟨(some 7),none,(.mv (.const (.int .i64 0)))⟩]) (.seq .ret .skip)))))))))
abbrev fr106:AFR:=⟨[(.reg [⟨(some 6),none,(.mv (.const (.slice none 0 0)))⟩,⟨(some 7),none,(.mv (.const (.int .i64 0)))⟩]),(.reg [⟨(some 15),none,(.mv (.tmp 0))⟩,⟨(some 16),none,(.mv (.tmp 1))⟩,⟨(some 17),none,(.mv (.tmp 2))⟩,⟨(some 18),none,(.call (.func 173) [(.tmp 15),(.tmp 16),(.tmp 17)])⟩,⟨(some 8),none,(.mv (.tmp 18))⟩]),(.reg [⟨(some 19),none,(.mv (.tmp 8))⟩,⟨(some 20),none,(.bin .neq (.tmp 19) (.const (.int .i64 0)))⟩]),(.cond (.tmp 20) (.seq (.reg [⟨(some 21),none,(.mv (.tmp 8))⟩,⟨(some 6),none,(.mv (.const (.slice none 0 0)))⟩,⟨(some 7),none,(.mv (.tmp 21))⟩]) .ret) .skip),(.reg [⟨(some 9),none,(.new 233 1 [(.sl 0 0 true [])])⟩]),(.reg [⟨(some 22),none,(.mv (.tmp 0))⟩,⟨(some 23),none,(.mv (.tmp 1))⟩,⟨(some 24),none,(.call (.func 174) [(.tmp 22),(.tmp 23)])⟩])],(.tmp 24),#[25],c106a,c106b,c106q,[(.tmp 6),(.tmp 7)],79⟩
def k106:O5 Tryz.prog 106=some fr106:=by kernel_rfl
def turns_ne {nm:ByteArray}(h : ∀ r∈l,Dd r=0) (hn : ∃ r∈l,r.1=nm):C5 l nm≠[]:=by
 obtain⟨r,hr,e⟩:=hn;have h1:=Qs (h r hr);obtain⟨_,q2,_⟩:=Ea (h r hr);intro hE;have:Gu r=[]:=by
  unfold C5 at hE;rw[List.flatMap_eq_nil_iff] at hE;have:=hE r hr;rwa [if_pos e] at this
 rw[this] at h1;simp at h1;have q2:r.2.1<=r.2.2.1:=q2;have h2:(0:Int)=r.2.2.1-r.2.1+1:=h1;omega
abbrev timT (N:Nat) (l:List Rul) (nm:ByteArray) (sh:Int) (x:AV):List AV:=[.sl l.length 11 false (rows rulC l),sv nm,iv sh,.any,.any,.any,.any,.any,.any,.ptr (N+0) 0 0,.any,.any,.any,.any,.any,.any,.any,.any,.any,.any,.any,.any,.any,.any,.clo (.func 243) [.rp [.sl l.length 11 false (rows rulC l)],.rp [sv nm]],x,.any,.any,.any,.any,.any,.any,.any,.any,.any,.any,.any,.any,.any,.any,.any,.any,.any,.any,.any,.any,.any,.any,.any,.any,.any,.any,.any,.any,.any,.any,.any,.any,.any,.any,.any,.any,.any,.any,.any,.any,.any,.any,.any,.any,.any,.any,.any,.any,.any,.any,.any,.any,.any]
abbrev timH (h:AH) (D l N:Nat) (o:Obj) (T:List AV) (vs:List Value) (d:List Trn):AH:=h++[.mk 0 233 1 [.own (N+1) d.length d.length],.mk d.length 237 12 (rows trnC d),mkD D,.raw l o T vs]
abbrev timJ (h:AH) (D l N:Nat) (o:Obj) (T:List AV) (vs:List Value) (d:List Trn) (e f:Ent):AH:=h++[.mk 0 233 1 [.own (N+1) d.length d.length],.mk d.length 237 12 (rows trnC d),mkD D,.raw l o T vs,e,f]
def gS {n:Nat} : ∀ {a b:List AV},AV.ltL n (a++b)=(AV.ltL n a&&AV.ltL n b)
 | [],b=>by simp[AV.ltL]
 | c::a,b=>by simp[AV.ltL,gS (a:=a) (b:=b),Bool.and_assoc]
def oA {l:Nat}{T:List AV}{d:List Trn}{e:Ent}:timH h D l N o T vs d++[e,f]=timJ h D l N o T vs d e f:=by simp
abbrev timK (P:Program) (lp N D:Nat) (rdy bsy fin:Obj) (l:List Rul) (nm:ByteArray) (sh:Int) (vs:List Value):Prop:=Tc P fr106 (N+2+1) lp rdy bsy fin (timT N l nm sh .any) vs
def timT_lt {nm:ByteArray}:AV.ltL (N+4) (timT N l nm sh .any)=true:=by simp[AV.ltL,AV.lt,Eb]
def timH_lt {lp:Nat}{nm:ByteArray}(hlt : ∀ e∈h,e.lt N=true) (d:List Trn) : ∀ e∈timH h D lp N o (timT N l nm sh .any) vs d,e.lt (N+4)=true:=by
 intro e he;rcases List.mem_append.1 he with he | he
 .exact ltw om hlt e he
 simp only[List.mem_cons,List.not_mem_nil,or_false] at he;rcases he with rfl | rfl | rfl | rfl
 .simp[Ent.lt,AV.ltL,AV.lt]
 .simp[Ent.lt,Wq]
 .simp[Ent.lt,AV.ltL]
 simpa [Ent.lt] using timT_lt
def app62 {a b c d e p q:Ent}:h++[a,b,c,d,e,f,p,q]=(h++[a,b,c,d,e,f])++[p,q]:=by simp
def fI {lp:Nat}{nm:ByteArray}(hn:h.length=N) (hlt : ∀ e∈h,e.lt N=true) (hY:timK Tryz.prog lp N D rdy bsy fin l nm sh vs) {d:List Trn}{t:Trn}{e:Ent}(hd:d.length<10000) :
  AYield Tryz.prog lp [.agg (trnC t)] (timJ h D lp N rdy (timT N l nm sh .any) vs d e f) λr h''=>r=.ret (.v (.bool true))/\h''=timJ h D lp N rdy (timT N l nm sh .any) vs (d++[t]) e f:=by
 refine y_go hY (hga (k:=3) hn rfl) rfl λn0 hn0 hlt0 q1 q2 q3=>?_;obtain⟨a,n,fr,tt,m,⟨kd,wk,dn⟩,at_,ck,sv_,lt⟩:=t;show aw _ _ c106a _ _ _;show aw _ _ _ _ (timT N l nm sh (.agg (trnC (a,n,fr,tt,m,(kd,wk,dn),at_,ck,sv_,lt)))) (h++[.mk 0 233 1 [.own (N+1) d.length d.length],.mk d.length 237 12 (rows trnC d),mkD D,.raw lp rdy (timT N l nm sh .any) vs,e,f]);refine Aq<|E' (Bz hl6 ha6) pt<|E' (Ai lk cv gx rfl nb rfl Pg hs6) ptn<|Am<|?_;refine nD (i:=N+3) gx hs3 λn1 hn1 hlt1=>?_;show aw _ _ c106b _ _ _;refine Ah<|Aq<|Vw (Aa lk gx gt0)<|Vw (Ak lk gx Vh rfl)<|E' (Ep (Td cw) hl7 ha7) pt<|?_;refine E' (C6 (C0 lk gx rfl Y4 nb) lk gx (nT _) om rfl hs1) pt ?_;refine E' (Ai lk cv gx rfl nb rfl Ct hs0) ptn<|Am<|Aw<|?_;refine Ta (i:=N+3) gx hs3 ?_;refine⟨_,_,app62,?_,λx hx=>?_,rfl,rfl,?_⟩
 .rw[<-hn0];simp
 .have hm:n0=N+6:=by rw[<-hn0];simp[hn]
  subst hm;rcases List.mem_append.1 hx with hx | hx
  .exact ltw om hlt x hx
  simp only[List.mem_cons,List.not_mem_nil,or_false] at hx;rcases hx with rfl | rfl | rfl | rfl | rfl | rfl
  .simp[Ent.lt,AV.ltL,AV.lt]
  .simp[Ent.lt,Wq,gS,AV.ltL,AV.lt]
  .simp[Ent.lt,AV.ltL]
  .exact hlt0 _ (by simp)
  .exact hlt0 _ (by simp)
  exact hlt0 _ (by simp)
 unfold timJ;rw[Bt,C3,List.length_append];rfl
def sortT_b {a:Ent}{l:AH}{S:List Trn}(hn:h.length=N) (hl:S≠[]) (hz:S.length<4611686018427387904) :
  ACalls Tryz.prog 175 [.own (N+1) v S.length,.v (.func (.func 176) #[] #[])] (h++(a::.mk v ty 12 (rows trnC S)::l)) λx h'=>x=.ret (.tup []) /\ ∃ S',ordT S S'/\h'=h++(a::.mk v ty 12 (rows trnC S')::l):=by
 refine (sortT_a (hga (k:=1) hn rfl) hl hz).mono ?_;rintro x h' ⟨rfl,S',h1,rfl⟩;exact⟨rfl,S',h1,hs1 hn⟩
def iT {l:List Trn}(h:i<l.length) (h0:0<i) (hg:l[i].1-(l[i-1]'(by omega)).1<172800):gapB l=true:=by
 obtain⟨i,rfl⟩ : ∃ i0,i=i0+1:=⟨i-1,by omega⟩;exact tW h hg
def gap_ok {S:List Trn}(hi : ∀ j (h:j+1<S.length),j+1<i->172800<=S[j+1].1-S[j].1) (hl:S.length<=i):gapB S=false:=(Sq S).2 λj h=>hi j h om
def kV {lp n0:Nat}{o:Obj}{nm:ByteArray}{vs:List Value}(hn:h.length=N) (hlt : ∀ e∈h,e.lt N=true) (hr0:Hn l nm sh=0) (hn0:N+4=n0) :
  aw Tryz.prog n0 c106q (Jz fr106.res (N+2) D λx h' => ∃ z,h'=h++z/\x.lt N=true /\ ∃ c,x=.ret c/\Wk c (.tup [.sl (Cv l nm sh).1.length 3 false (rows timC (Cv l nm sh).1),iv (Cv l nm sh).2])) (timT N l nm sh .any)
   (h++[.mk 0 233 1 [.own (N+1) (C5 l nm).length (C5 l nm).length],.mk (C5 l nm).length 237 12 (rows trnC (C5 l nm)),mkD D,.gone]):=by
 obtain⟨g1,g2,g3,g4⟩:=Pv hr0;have hne:=turns_ne g2 g4;have htl:=Pj (nm:=nm) g2;have htO : ∀ t∈C5 l nm,Dd t.2=0 /\ -2592000000<=t.1/\t.1<=4320172800:=λt ht=>Rp g2 ht;subst hn0;show aw _ _ c106q _ _ _;refine wr'<|Vw (Aa lk gx gt0)<|?_;refine s_callE mp (sortT_b hn hne om) pt ?_;rintro S hS;have hSl:=hS.1.length_eq;have hSO : ∀ t∈S,Dd t.2=0 /\ -2592000000<=t.1/\t.1<=4320172800:=λt ht=>htO t (hS.1.mem_iff.1 ht);have hTV:=Ws (sh:=sh) hr0 hS.1 hS.2;rw[<-hSl];refine sn'<|wr'<|mv' lkn pt11<|Am<|B0 (ALe.own0' (st':=3) (ty:=242) gt11 hl4 pt11 ha4)<|wr'<|mv' lki pt12<|sn'<|wr'<|?_;refine Vw (Aa lk gx gt0)<|Vw (Ej lk)<|ms<|Ab<|Ah<|?_;refine w_lp (ι:=Nat) (λ(i:Nat)=>[(11,.own (N+4) i (outV sh 0 (S.take i)).length),(12,iv (svAt S i)),(34,iv (i:Int)),(6,.any),(7,.any),(13,.any),(14,.any)]++rn' 35 40) (λ(i:Nat)=>[(4,.mk i 242 3 (rows timC (outV sh 0 (S.take i))))]) (λ(i:Nat)=>i<=S.length /\ ∀ j (h:j+1<S.length),j+1<i->172800<=S[j+1].1-S[j].1) (λ(i:Nat)=>S.length-i) (0) (by exact⟨Nat.zero_le _,λj _ h=>by omega⟩) ?_;rintro i hi1;try simp only[sm',Nat.reduceAdd]
 obtain⟨hi1,hi2⟩:=hi1;refine wr'<|Vw (Bm lk lk)<|sn'<|Ab<|?_;refine cd' lk (λhc1=>?_) (λhc1=>?_)
 .have hi:i<S.length:=by omega
  obtain⟨hb0,hb1⟩:=hSO _ (List.getElem_mem hi);have hsv:=oF (i:=i) λt ht=>(hSO t ht).1;have hoff:=pA (r:=S[i].2) g3 hsv;have hol2:(outV sh 0 (S.take (i+1))).length=i+1:=by rw[J0,List.length_take];omega
  have hol:(outV sh 0 (S.take i)).length=i:=by rw[J0,List.length_take];omega
  refine za<|Ab<|Ah<|wm<|?_;refine V' (Ck lk lk gx B3 nb ro om (by first | rfl | (simp;done) | omega)) pt ?_;refine V' (Iv lk gx B3 om rfl) pt ?_;refine E' (Bz hl5 ha5) pt<|mw<|E' (Ai lk cv gx rfl nb rfl Pg hs5) ptn<|sn'<|Ab<|Ab<|Bl<|Dw vm<|Dw (C7 lk lki)<|Dw vm<|?_;refine dq' (t:=41) gt pt pt (λhg41=>?_) (λhg41=>?_)
  .obtain⟨hb3,hb4⟩:=hSO _ (List.getElem_mem (show i-1<S.length by omega));refine dO<|dg<|dO<|Dw (Aa lk gx gt0)<|dO<|Dw (Aa lk gx gt0)<|dO<|Dw vm<|dO<|?_;refine D' (Ch lk lki om om) pt ?_;refine d_do gt ?_;refine D' (Ck (k:=i-1) lk lk gx B3 nb ro om (by first | rfl | (simp;done) | omega)) pt ?_;refine dO<|Dw (Df lk)<|dO<|?_;refine D' (E7 lk gx B3 om nb gt0) pt ?_;refine d_do gt ?_;refine D' (Ch lk lk om om) pt ?_;refine dO<|Dw (Bm lk lki)<|Dw (Ar lk lk)<|Bi<|?_;refine B9 ?_;refine sn' ?_;refine cd' lk (λhc2=>?_) (λhc2=>?_)
   .have hG:gapB S=true:=iT hi om hc2;refine wm<|mr<|Ag<|Au<|Ag<|Ag<|Au<|Ag<|?_;refine Jy gx hs2 ry ?_;refine rtW' ?_;rw[hTV,if_pos hG];exact Wk.tup (wkw Wk.nilF (wk1 rfl wk0))
   refine za<|Ab<|Bl<|Dw vm<|dg<|Dw (Aa lk gx gt0)<|dg<|Dw (Ak lk gx Vg rfl)<|Dw vm<|Dw vm<|?_;refine Br mp (λhE hX=>off_a g3 hsv) pt ?_;refine D' (Ch lk lk om om) pt ?_;refine dg<|Dw (Df lk)<|Dw (Aa lk gx gt10)<|dg<|Dw (Df lk)<|Dw (Aa lk gx gt11)<|Dw (Bb (Dq cw cw cw))<|D5 rfl rfl (hlk hn rfl) (G8 (D1 cw)) pt B2<|Bi<|?_;refine Eg Nw ?_;refine E' (C6 (C0 lk gx rfl Cn nb) lk gx (H0 _) om rfl hs4) pt ?_;refine ms<|Aq<|fq<|Vw (Df lk)<|Vw (Aa lk gx gt10)<|mw<|Am<|Aw<|An<|Aq<|?_;refine ad<|mw<|Am<|Az<|?_;refine lU' (i+1) (by (try dsimp only);exact⟨by omega,λj hj h=>by by_cases e:j+1=i;(subst e;(try simp only[Nat.add_sub_cancel] at hc2);omega);exact hi2 j hj om⟩) (by refine zz ?_;exact bkE' 5 hn hlt (by repeat (first | exact wk0 | refine wka ?_ | refine wk1 rfl ?_ | refine wk1 (by first | rfl | exact ivx om | (rw[hol2,hol];done) | (rw[hol2,hol]) | (rw[Pn hi])) ?_)) (by rw[Il hi,Bt,C3];rfl))
  refine dn<|dn<|dn<|dn<|dn<|dn<|dn<|dn<|dn<|dn<|Dw (Ao lk lkb)<|Bi<|?_;refine B9 ?_;refine sn'<|Cf lk<|za<|Ab<|Bl<|Dw vm<|dg<|Dw (Aa lk gx gt0)<|dg<|Dw (Ak lk gx Vg rfl)<|Dw vm<|Dw vm<|?_;refine Br mp (λhE hX=>off_a g3 hsv) pt ?_;refine D' (Ch lk lk om om) pt ?_;refine dg<|Dw (Df lk)<|Dw (Aa lk gx gt10)<|dg<|Dw (Df lk)<|Dw (Aa lk gx gt11)<|Dw (Bb (Dq cw cw cw))<|D5 rfl rfl (hlk hn rfl) (G8 (D1 cw)) pt B2<|Bi<|?_;refine Eg Nw ?_;refine E' (C6 (C0 lk gx rfl Cn nb) lk gx (H0 _) om rfl hs4) pt ?_;refine ms<|Aq<|fq<|Vw (Df lk)<|Vw (Aa lk gx gt10)<|mw<|Am<|Aw<|An<|Aq<|?_;refine ad<|mw<|Am<|Az<|?_;refine lU' (i+1) (by (try dsimp only);exact⟨by omega,λj hj h=>by by_cases e:j+1=i;(subst e;(try simp only[Nat.add_sub_cancel] at hc2);omega);exact hi2 j hj om⟩) (by refine zz ?_;exact bkE' 5 hn hlt (by repeat (first | exact wk0 | refine wka ?_ | refine wk1 rfl ?_ | refine wk1 (by first | rfl | exact ivx om | (rw[hol2,hol];done) | (rw[hol2,hol]) | (rw[Pn hi])) ?_)) (by rw[Il hi,Bt,C3];rfl))
 have hie:i=S.length:=by omega
 subst hie;rw[List.take_length];have hG:gapB S=false:=gap_ok hi2 (Nat.le_refl _);rw[if_neg (by rw[hG];simp)] at hTV;have hol:=J0 S sh 0;refine Bd<|As<|As<|Bp<|An<|wm<|Vw (Ej lk)<|Vw (C7 lk lki)<|sn'<|Ab<|?_;refine cd' lk (λhc3=>?_) (λhc3=>?_)
 .refine wm<|mr<|Ag<|?_;refine Jy gx hs2 ry ?_;refine rtW' ?_;rw[hTV,if_pos om];exact Wk.tup (wkw Wk.nilF (wk1 rfl wk0))
 refine Be ?_;refine B0 (ALe.iceR (hga hn rfl) gt11 (List.take_of_length_le (by rw[H0];exact Nat.le_refl _)) (by rw[H0];exact Nat.le_refl _) pt11 hs4) ?_;refine wm<|mw<|ms<|Ab<|C4<|Ag<|?_;refine Jy gx hs2 ry ?_;refine rtW' ?_;rw[hTV,if_neg om];exact Wk.tup (wkw Wk.full (wk1 rfl wk0))
def kW {lp:Nat}{nm:ByteArray}(hn:h.length=N) (hlt : ∀ e∈h,e.lt N=true) (hr0:Hn l nm sh=0) (hY:timK Tryz.prog lp N D rdy bsy fin l nm sh vs) {R:AE->AH->Prop}
    (hR:R=λx h' => ∃ z,h'=h++z/\x.lt N=true /\ ∃ c,x=.ret c/\Wk c (.tup [.sl (Cv l nm sh).1.length 3 false (rows timC (Cv l nm sh).1),iv (Cv l nm sh).2])) :
    ACalls Tryz.prog 243 (.v (.func (.yield lp) #[] #[])::[.rp [.sl l.length 11 false (rows rulC l)],.rp [sv nm]]) (timH h D lp N rdy (timT N l nm sh .any) vs []) λr h3=>(∃ c,r=.ret c) /\
      ((h3[N+2+1]?=some (.raw lp rdy (timT N l nm sh .any) vs) /\ ∀ n0,(h3.set (N+2+1) .gone).length=n0->(∀ e∈h3.set (N+2+1) .gone,e.lt n0=true)->aw Tryz.prog n0 fr106.post (Jz fr106.res (N+2) D R) (timT N l nm sh .any) (h3.set (N+2+1) .gone)) \/
       (h3[N+2+1]?=some (.raw lp fin (timT N l nm sh .any) vs)/\Jz fr106.res (N+2) D R .ret (timT N l nm sh .any) (h3.set (N+2+1) .gone))):=by
  obtain⟨g1,g2,g3,g4⟩:=Pv hr0;have htl:=Pj (nm:=nm) g2;refine (turns1_a (H:=timH h D lp N rdy (timT N l nm sh .any) vs) g2 g1 (λd=>hl4 hn) (timH_lt hlt) (λd t e f hd=>?_)).mono ?_
  . rw[oA,oA];exact fI hn hlt hY om
  rintro x h3 ⟨rfl,rfl⟩;refine⟨⟨_,rfl⟩,.inl ⟨hga (k:=3) hn rfl,λn0 hn0 _=>?_⟩⟩;have hs:(timH h D lp N rdy (timT N l nm sh .any) vs (C5 l nm)).set (N+2+1) .gone=h++[.mk 0 233 1 [.own (N+1) (C5 l nm).length (C5 l nm).length],.mk (C5 l nm).length 237 12 (rows trnC (C5 l nm)),mkD D,.gone]:=hs3 hn;rw[hs] at hn0 ⊢;subst hR;exact kV (o:=rdy) (lp:=lp) (vs:=vs) hn hlt hr0 ((hl4 hn).symm.trans hn0)
def nZ {nm:ByteArray}(hok:okRs l) (hl:l.length<=9223372036854775807) :
  Ac 106 [.sl l.length 11 false (rows rulC l),sv nm,iv sh] h (.tup [.sl (Cv l nm sh).1.length 3 false (rows timC (Cv l nm sh).1),iv (Cv l nm sh).2]):=by
 refine ACalls.weak (tR' k106 λN hn hlt _ hbd=>?_);show aw _ _ c106p _ _ _;show aw _ _ _ _ [.sl l.length 11 false (rows rulC l),sv nm,iv sh,.any,.any,.any,.any,.any,.any,.any,.any,.any,.any,.any,.any,.any,.any,.any,.any,.any,.any,.any,.any,.any,.any,.any,.any,.any,.any,.any,.any,.any,.any,.any,.any,.any,.any,.any,.any,.any,.any,.any,.any,.any,.any,.any,.any,.any,.any,.any,.any,.any,.any,.any,.any,.any,.any,.any,.any,.any,.any,.any,.any,.any,.any,.any,.any,.any,.any,.any,.any,.any,.any,.any,.any,.any,.any,.any,.any] _;refine wm<|ms<|wm<|mw<|mw<|Af mp (ready_a hok hl) pt<|mw<|Am<|?_;refine An<|wm<|Vw (Ca lk lki)<|sn'<|Ab<|?_;refine cd' lk (λhc1=>?_) (λhc1=>?_)
 .refine wm<|mw<|mr<|Ag<|?_;refine R5 ry ?_;refine rtW' ?_;rw[Kh hc1];exact Wk.tup (wkw Wk.nilF (wk1 rfl wk0))
 refine za<|wr'<|E' (Bz hl0 ha0) pt<|Am<|?_;refine B0 (ALe.own0Cell (st':=12) (ty:=237) gx gt0 hl1 pt0 (Eq.trans (congrArg (λz=>List.set z _ _) ha1) hs0)) ?_;refine wm<|mw<|Af mp (turns_a) pt<|sn'<|Be<|?_;refine lO (T1:=timT N l nm sh .any) (ALe.same wA' rfl) rfl hl2 λlp D rdy bsy fin vs hle hlT hY=>?_;have hgo:=kW (D:=D) hn hlt (Decidable.of_not_not hc1) hY rfl;rw[show (h++[Ent.mk 0 233 1 [.own (N+1) 0 0],Ent.mk 0 237 12 []]++[mkD D,Ent.raw lp rdy (timT N l nm sh .any) vs]:AH)=timH h D lp N rdy (timT N l nm sh .any) vs [] by simp[rows]];exact hgo
end
section
open Go.Ab
abbrev intC (n:Int):List AV:=[iv n]
def Gw {n:Nat}(l:List Int):AV.ltL n (rows intC l)=true:=Eh (λ_ _=>rfl) l
def int_leaf (l:List Int):(rows intC l).all leaf=true:=Jg (λ_=>rfl) l
def Cw : ∀ x,(intC x).length=1:=λ_=>rfl
def Ey (l:List Int):(rows intC l).length=l.length*1:=C9 Cw l
end
section
open Go.Ab Go.RowKit Civ
attribute [local simp] Eb Fi E5 Dn Cp Gw
section
def Hk {τ:Operand->AV}{y0:Operand}{a:AV}(h0:Lf τ y0 [a]):Cm τ [(0,1,y0)] [(iv 0)]=some [a]:=fl h0 rfl
end
def k240:=Kx 240 []
def k169:=Kx 169 []
def c267:AC:=(Sr [Oo 2 (.box 90 2 (t 0)),Mb 3 false] (Sr [Fa 4 1 2,Ld 5 4,Ld 6 1,Bn 7 .eql 5 6,Mv 3 7] .ret))
def k267:Em Tryz.prog 267=some ⟨c267,[(.tmp 3)],8⟩:=by kernel_rfl
def c218:AC:=(Sr [Oo 2 (.box 72 3 (t 0)),Oo 3 (.box 9 1 (t 1)),Mc 4 0] (Sr [Fa 6 2 2,Ld 7 6,Oo 8 (.mkfn 267 [(t 3)]),Cl 9 90 [(t 7),(t 8)],Mv 5 9] (.seq (Sr [Mv 10 5,Bc 11 .geq 10 0] (Cd 11 (.reg [Fa 12 2 2,Ld 13 12,Mv 14 5,Oo 15 (.ia 2 (t 13) (t 14)),Fa 16 0 15,Ld 17 16,Sc 3 17]) .skip)) (Sr [Oo 18 (.load true 3 (t 2)),Ld 19 3,Cl 20 169 [(t 18),(t 19)],Mv 4 20] .ret))))
def k218:Em Tryz.prog 218=some ⟨c218,[(.tmp 4)],21⟩:=by kernel_rfl
def k168:=Kx 168 []
def k171:=Kx 171 []
def k110:=Kx 110 [.e [] 10 []]
def k109:=Kx 109 [.e [] 10 []]
def k108:=Kx 108 []
def k105:=Kx 105 []
def k294:=Kx 294 []
def k254:=Kx 254 [.e [] 15 [false]]
def k256:=Kx 256 []
def k199:=Kx 199 []
def place1_a {nm:ByteArray}{z:Zon}:Ac 240 [.agg (zonC z),.rp [sv nm]] h (bv (decide (z.1=nm))):=by
 refine tI' k240 λN hn _ _ hbd=>?_;simp only[tb'] at hbd ⊢;refine wr'<|E' (Bq cv rfl hl0 ha0) pt<|ms<|wr'<|fq<|Vw (Aa lk gx gt0)<|Vw (Ba lk gt)<|Vw (J6 lk lk)<|mw<|Am<|?_;exact An<|C4<|Ad rz<|rT' rfl
def I2 (zs:List Zon) (nm:ByteArray):Int:=idxV (λz:Zon=>decide (z.1=nm)) zs
def cX {a:List Rul}{nm:ByteArray}(hz:z.length<=9223372036854775807):Ac 169 [.agg [.sl a.length 11 false (rows rulC a),.sl z.length 2 false (rows zonC z),.sl k.length 2 false (rows lnkC k)],sv nm] h (iv (I2 z nm)):=by
 refine tI' k169 λN hn _ _ hbd=>?_;simp only[tb'] at hbd ⊢;refine wr'<|E' (Bq cv rfl hl0 ha0) pt<|E' (Bq cv rfl hl1 ha1) pt<|mw<|Am<|?_;refine B0 (ALe.icePtr gx gt3 (by simp) pt3 hs1) ?_;refine wr'<|fq<|Vw (Aa lk gx gt1)<|Vw (J5 mp)<|?_;refine Af mp (ixZonC_a (p:=λz=>decide (z.1=nm)) (λc _ _=>place1_a) hz) pt ?_;exact mr<|Ad rz<|rT' rfl
def miss1_a {a:List Rul}{l:Lnk}(hz:z.length<=9223372036854775807):Ac 168 [.agg (lnkC l),.rp [.sl a.length 11 false (rows rulC a),.sl z.length 2 false (rows zonC z),.sl k.length 2 false (rows lnkC k)]] h (bv (decide (I2 z l.1<0))):=by
 refine tI' k168 λN hn _ _ hbd=>?_;simp only[tb'] at hbd ⊢;refine wr'<|E' (Bq cv rfl hl0 ha0) pt<|ms<|wr'<|Vw (Ax lk Cn rfl)<|fq<|Vw (Aa lk gx gt0)<|Af mp (cX hz) pt<|Vw (Bm lk lki)<|mw<|?_;exact sr<|Ad rz<|rT' rfl
def dY {last:Bool}(h:eraX x last=0):(xRl x≠⟨#[]⟩->D3 (xRl x)=true)/\E0 (xFm x)=true/\(-64800<=xSh x/\xSh x<=64800)/\(0<=xSv x/\xSv x<=10800)/\(xRl x≠⟨#[]⟩->xSv x=0)/\xOp x=last /\
  (xOp x=false->Db x.2.2.2.2.2.1.1 x.2.2.2.2.2.1.2.1 x.2.2.2.2.2.1.2.2=true/\0<=x.2.2.2.2.2.2.1/\x.2.2.2.2.2.2.1<=172800):=by
 unfold eraX eraE at h;split at h
 .cases h
 rename_i h1;split at h
 .cases h
 rename_i h2;split at h
 .cases h
 rename_i h3;split at h
 .cases h
 rename_i h4;have p1:xRl x≠⟨#[]⟩->D3 (xRl x)=true:=λhn=>Decidable.of_not_not λe=>h1 (.inl ⟨hn,e⟩);have p2:E0 (xFm x)=true:=Decidable.of_not_not λe=>h1 (.inr e);have p3:=Dl.1 (Decidable.of_not_not λe=>h2 (.inl e));have p4:=Dl.1 (Decidable.of_not_not λe=>h2 (.inr e));have p5:xRl x≠⟨#[]⟩->xSv x=0:=λhn=>Decidable.of_not_not λe=>h3 ⟨hn,e⟩;refine⟨p1,p2,p3,p4,p5,Decidable.of_not_not h4,λho=>?_⟩;rw[if_neg (by rw[show x.2.2.2.2.1=false from ho];simp)] at h;split at h
 .cases h
 rename_i h5;split at h
 .cases h
 rename_i h6;exact⟨Decidable.of_not_not h5,Dl.1 (Decidable.of_not_not h6)⟩
def bC : ∀ {l:List Era},Ql l=0 -> ∀ k (h:k<l.length),eraX l[k] (decide (k+1=l.length))=0
 | [],_,k,h=>by simp at h
 | x::l,he,k,h=>by
  rw[Ql] at he;split at he
  .rename_i h1;exact absurd he h1
  rename_i h1;cases k with
  | zero =>
   have h2:=Decidable.of_not_not h1
   have e:l.isEmpty=decide (0+1=(x::l).length):=by rw[Bool.eq_iff_iff,List.isEmpty_iff,decide_eq_true_iff,List.length_cons];cases l <;> simp
   rw[<-e];exact h2
  | succ k =>
   have:=bC he k (by simpa using h)
   simpa using this
structure okZ (es:List Era):Prop where
 ne:es≠[]
 fm : ∀ x∈es,E0 (xFm x)=true/\(-64800<=xSh x/\xSh x<=64800)/\(0<=xSv x/\xSv x<=10800)/\(xRl x≠⟨#[]⟩->xSv x=0)
 op : ∀ k (h:k<es.length),xOp es[k]=decide (k+1=es.length)
 un : ∀ k (h:k<es.length),k+1<es.length->Db es[k].2.2.2.2.2.1.1 es[k].2.2.2.2.2.1.2.1 es[k].2.2.2.2.2.1.2.2=true/\0<=es[k].2.2.2.2.2.2.1/\es[k].2.2.2.2.2.2.1<=172800
 len:es.length<=8
def okZ_of {z:Zon}(h:N3 z=0) (hl:z.2.length<=8):okZ z.2:=by
 unfold N3 at h;split at h
 .cases h
 rename_i h1;have hne:z.2≠[]:=λe=>h1 (.inr (by rw[e];rfl));have hg:=bC h;refine⟨hne,λx hx=>?_,λk hk=>(dY (hg k hk)).2.2.2.2.2.1,λk hk hk2=>?_,hl⟩
 .obtain⟨k,hk,rfl⟩:=List.getElem_of_mem hx;obtain⟨_,q2,q3,q4,q5,_⟩:=dY (hg k hk);exact⟨q2,q3,q4,q5⟩
 obtain⟨_,_,_,_,_,q6,q7⟩:=dY (hg k hk);exact q7 (by rw[q6];simp;omega)
def endV_bd (h1:Db x.2.2.2.2.2.1.1 x.2.2.2.2.2.1.2.1 x.2.2.2.2.2.1.2.2=true) (h2:0<=x.2.2.2.2.2.2.1/\x.2.2.2.2.2.2.1<=172800) (h3 : -64800<=xSh x/\xSh x<=64800) : -100000000000<=endV x/\endV x<=300000000000:=by
 have:=Tp h1;unfold endV;split <;> omega
def Ze {α:Type}{l:List α}{k:Nat}(h:k+1<l.length):l.dropLast.take (k+1)=l.dropLast.take k++[l[k]]:=by
 have hk:k<l.dropLast.length:=by simp;omega
 rw[List.take_succ_eq_append_getElem hk];congr 2;simp
def Uc {k:Nat}(h:k+1<es.length):(By es).take (k+1)=(By es).take k++[endV es[k]]:=by
 unfold By;rw[<-List.map_take,<-List.map_take,Ze h,List.map_append,List.map_cons,List.map_nil]
def ends_a {nm:ByteArray}(hz:okZ es):Ac 110 [.agg [sv nm,.sl es.length 10 false (rows eraC es)]] h (.sl (By es).length 1 false (rows intC (By es))):=by
 have hlen:=hz.len;have hne:=List.length_pos_iff.2 hz.ne;have hel:=Hv es;refine tW' k110 λN hn hlt _ hbd=>?_;simp only[tb'] at hbd ⊢;refine wr'<|E' (Bq (cvl lk0 rfl) rfl hl0 ha0) pt1<|mv' lkn pt2<|sn'<|wr'<|mv' lkn pt3<|Am<|B0 (ALe.own0' (st':=1) (ty:=3) gt3 hl1 pt3 ha1)<|Ab<|wr'<|?_;refine fq<|Vw (Aa lk gx gt1)<|Vw (Bf lk)<|ms<|Ah<|?_;refine w_lp (ι:=Nat) (λ(k:Nat)=>[(3,.own (N+1) k k),(10,iv (k:Int)),(5,.any),(6,.any)]++rn' 11 27) (λ(k:Nat)=>[(1,.mk k 3 1 (rows intC ((By es).take k)))]) (λ(k:Nat)=>k<es.length) (λ(k:Nat)=>es.length-k) (0) (by exact hne) ?_;rintro k hi1;try simp only[sm',Nat.reduceAdd]
 replace hi1:k<es.length:=hi1;refine wr'<|Vw (Bm lk lk)<|sn'<|Ab<|?_;refine Iu lk (by exact decide_eq_true om) ?_;refine za<|Ab<|Ah<|wr'<|?_;refine V' (Bh lk lk F5 nb ro om ro rfl) pt ?_;refine Vw (Ax lk Fx rfl)<|E' (Bz hl2 ha2) pt<|E' (Ai lk cv gx rfl nb rfl Gc hs2) ptn<|sn'<|Ab<|wr'<|fq<|Vw (Aa lk gx gt4)<|sn'<|?_;have hop:=hz.op k hi1;have htl:((By es).take k).length=k:=by rw[List.length_take,hel];omega
 refine cd' lk (λhc2=>?_) (λhc2=>?_)
 .rw[show es[k].2.2.2.2.1=decide (k+1=es.length) from hop] at hc2;have hke:k+1=es.length:=of_decide_eq_true hc2;refine Bd<|As<|x_pas (Nat.ne_of_beq_eq_false rfl)<|As<|As<|Bp<|?_;refine B0 (ALe.iceR (hga hn rfl) gt3 (List.take_of_length_le (by rw[Ey,htl];omega)) (by rw[Ey,htl];omega) pt3 hs1) ?_;refine wm<|mr<|Ad rz<|rtW'<|?_;rw[show k=(By es).length by omega,List.take_length];exact Wk.full
 rw[show es[k].2.2.2.2.1=decide (k+1=es.length) from hop] at hc2;have hke:k+1<es.length:=by have:=of_decide_eq_false hc2;omega
 obtain⟨hd,ha1,ha2⟩:=hz.un k hi1 hke;have hsh : -64800<=es[k].1/\es[k].1<=64800:=(hz.fm _ (List.getElem_mem hi1)).2.1;have hnb:=Tp hd;have hdi:=E8.1 hd;have hml:=H5 es[k].2.2.2.2.2.1.1 es[k].2.2.2.2.2.1.2.1;refine za<|Ab<|Bl<|dg<|Dw (Df lk)<|Dw (Ak lk gx Jk rfl)<|?_;refine Br mp (λhE hX=>Se om om om om om om) pt ?_;refine D' (J8 lk lki om om) pt ?_;refine dg<|Dw (Df lk)<|Dw (Aa lk gx gt8)<|?_;refine D' (Du lk lk om om) pt ?_;refine Dw vm<|Bi<|?_;refine B9 ?_;refine sn'<|Ab<|wr'<|fq<|Vw (Df lk)<|Vw (Aa lk gx gt9)<|Vw (Cy lk lki)<|sn'<|?_;refine cd' lk (λhc3=>?_) (λhc3=>?_)
 .have hev:endV es[k]=num es[k].2.2.2.2.2.1.1 es[k].2.2.2.2.2.1.2.1 es[k].2.2.2.2.2.1.2.2*86400+es[k].2.2.2.2.2.2.1-es[k].1:=by unfold endV;rw[if_pos hc3]
  refine Aq<|mw<|fq<|Vw (Aa lk gx gt0)<|?_;refine V' (Ch lk lk om om) pt ?_;refine ms<|Aq<|mw<|mw<|E' (Ep (Hk cw) hl3 ha3) pt<|?_;refine E' (C6 (C0 lk (hga hn rfl) rfl Ee nb) lk (hga hn rfl) ((Ey _).trans (by rw[htl])) om rfl hs1) pt ?_;refine mw<|Am<|Aw<|An<|Aq<|?_;refine ad<|mw<|Am<|Az<|?_;refine lU' (k+1) (by (try dsimp only);omega) (by refine zz ?_;exact bk' 2 hn hlt (by rw[Uc hke,hev,Bt,C3];rfl))
 have hev:endV es[k]=num es[k].2.2.2.2.2.1.1 es[k].2.2.2.2.2.1.2.1 es[k].2.2.2.2.2.1.2.2*86400+es[k].2.2.2.2.2.2.1:=by unfold endV;rw[if_neg hc3,Int.sub_zero]
 refine za<|Aq<|mw<|mw<|E' (Ep (Hk cw) hl3 ha3) pt<|?_;refine E' (C6 (C0 lk (hga hn rfl) rfl Ee nb) lk (hga hn rfl) ((Ey _).trans (by rw[htl])) om rfl hs1) pt ?_;refine mw<|Am<|Aw<|An<|Aq<|?_;refine ad<|mw<|Am<|Az<|?_;refine lU' (k+1) (by (try dsimp only);omega) (by refine zz ?_;exact bk' 2 hn hlt (by rw[Uc hke,hev,Bt,C3];rfl))
def rising_a {l:List Int}{full:Bool}(hl:l.length<=9223372036854775807):Ac 109 [.sl l.length 1 full (rows intC l)] h (bv (risL l)):=by
 refine tI' k109 λN hn _ _ hbd=>?_;simp only[tb'] at hbd ⊢;refine wk'<|Ab<|wk'<|Ah<|?_;refine w_lp (ι:=Nat) (λ(k:Nat)=>[(3,iv ((k:Int)+1)),(2,.any)]++rn' 4 16) (λ(k:Nat)=>[]) (λ(k:Nat)=>(k+1<=l.length\/k=0) /\ ∀ i (h:i+1<l.length),i<k->l[i]<l[i+1]) (λ(k:Nat)=>l.length-k) (0) (by exact⟨.inr rfl,λi _ h=>by omega⟩) ?_;rintro k hi1;try simp only[sm',Nat.reduceAdd]
 obtain⟨hk1,hk2⟩:=hi1;refine Ab<|wm<|mw<|Vw (Bf lk)<|Vw (Bm lk lk)<|sn'<|?_;refine cd' lk (λhc1=>?_) (λhc1=>?_)
 .have hk:k+1<l.length:=by omega
  refine za<|Ab<|Ah<|Ab<|Bl<|Dw vm<|Dw vm<|?_;refine D' (Bh (k:=k+1) lk lk Cw nb ro om ro rfl) pt ?_;refine Dw (Ba lk gt)<|Dw vm<|Dw vm<|?_;refine D' (Ch lk lki om om) pt ?_;refine D' (Bh (k:=k) lk lk Cw nb ro om ro rfl) pt ?_;refine Dw (Ba lk gt)<|Dw (Gy lk lk)<|Bi<|?_;refine B9 ?_;refine sn' ?_;refine cd' lk (λhc2=>?_) (λhc2=>?_)
  .have hR:risL l=false:=lJ hk om;refine wo<|Au<|Ag<|Ag<|Au<|Ag<|Ad rz<|rT'<|?_;rw[hR]
  refine Be<|Aw<|An<|Aq<|mw<|?_;refine ad<|mw<|Am<|Az<|?_;refine lU' (k+1) (by (try dsimp only);exact⟨by omega,λi hi h=>by by_cases e:i=k;(subst e;omega);exact hk2 i hi om⟩) (by refine zz ?_;exact ALe.same (by repeat (first | exact wk0 | refine wka ?_ | refine wk1 rfl ?_ | refine wk1 (by first | rfl | exact ivx om) ?_)) rfl)
 refine Bd<|As<|As<|Bp<|An<|wo<|Ad rz<|rT'<|?_;exact bvx (Z1 λi hi=>hk2 i hi om).symm
def check1_a {z:Zon}(hz:okZ z.2):Ac 108 [.agg (zonC z)] h (bv (!risL (By z.2))):=by
 obtain⟨nm,es⟩:=z;have hel:(By es).length=es.length-1:=Hv es;have hlen:es.length<=8:=hz.len;refine tI' k108 λN hn _ _ hbd=>?_;simp only[tb'] at hbd ⊢;refine wr'<|E' (Bq cv rfl hl0 ha0) pt<|ms<|wr'<|Vw (Ak lk gx B1 rfl)<|Af mp (ends_a hz) pt<|?_;refine Af mp (rising_a (show (By es).length<=9223372036854775807 by omega)) pt ?_;exact Vw (Bj lk)<|mr<|Ad rz<|rT' rfl
def eras_a {a:List Rul}:Ac 105 [.agg [.sl a.length 11 false (rows rulC a),.sl z.length 2 false (rows zonC z),.sl k.length 2 false (rows lnkC k)]] h (.clo (.func 172) [.rp [.sl a.length 11 false (rows rulC a),.sl z.length 2 false (rows zonC z),.sl k.length 2 false (rows lnkC k)]]):=by
 refine tI' k105 λN hn _ _ hbd=>?_;simp only[tb'] at hbd ⊢;refine wr'<|E' (Bq cv rfl hl0 ha0) pt<|mv' rfl pt<|Am<|?_;refine B0 (ALe.icePtr gx gt1 (by simp) pt1 hs0) ?_;exact wr'<|Vw (J5 mp)<|mr<|Ad rz<|rT' rfl
def look1p_a {nm:ByteArray}{l:Lnk}{id:Nat}(he:h[id]?=some (.mk 0 9 1 [sv nm])):Ac 267 [.agg (lnkC l),.ptr id 0 0] h (bv (decide (l.2=nm))):=by
 refine tI' k267 λN hn _ _ hbd=>?_;simp only[tb'] at hbd ⊢;refine wr'<|E' (Bq cv rfl hl0 ha0) pt<|ms<|wr'<|fq<|Vw (Aa lk gx gt1)<|Vw (Aa lk (Ez he) gt0)<|Vw (J6 lk lk)<|mw<|Am<|?_;exact An<|C4<|Ad rz<|rT' rfl
def aK (s:Src) (nm:ByteArray):Int:=I2 s.2.1 (match s.2.2[s.2.2.findIdx λl=>decide (l.2=nm)]? with
 | some l=>l.1
 | none=>nm)
def look_a {a:List Rul}{nm:ByteArray}(hz:z.length<=9223372036854775807) (hk:k.length<=9223372036854775807):Ac 218 [.agg [.sl a.length 11 false (rows rulC a),.sl z.length 2 false (rows zonC z),.sl k.length 2 false (rows lnkC k)],sv nm] h (iv (aK (a,z,k) nm)):=by
 have hkk:=hk;refine tI' k218 λN hn _ _ hbd=>?_;simp only[tb'] at hbd ⊢;refine wr'<|E' (Bq cv rfl hl0 ha0) pt<|E' (Bq cv rfl hl1 ha1) pt<|ms<|wr'<|fq<|Vw (Aa lk gx gt2)<|Vw (J5 mp)<|?_;refine Af mp (X1 (p:=λl:Lnk=>decide (l.2=nm)) (λc _ E=>look1p_a (Ez gx)) hkk) pt ?_;refine ms<|Ab<|wm<|Vw (Gz lk lki)<|sn'<|?_;refine cd' lk (λhc1=>?_) (λhc1=>?_)
 .have hlt':k.findIdx (λl:Lnk=>decide (l.2=nm))<k.length:=by unfold idxV at hc1;split at hc1;assumption;omega
  have hix:idxV (λl:Lnk=>decide (l.2=nm)) k=((k.findIdx λl:Lnk=>decide (l.2=nm):Nat):Int):=if_pos hlt';refine Aq<|fq<|Vw (Aa lk gx gt2)<|mw<|?_;refine V' (Bh (k:=k.findIdx λl:Lnk=>decide (l.2=nm)) lk lk Da nb ro om ro rfl) pt ?_;refine Vw (Cj lk dp0)<|Vw (Ba lk gt)<|E' (Ai lk cv gx rfl nb rfl Ct hs1) ptn<|sn'<|wr'<|Vw (Ak lk gx Ap rfl)<|Vw (Aa lk gx gt0)<|Af mp (cX hz) pt<|mr<|?_;refine Ad rz<|rT'<|?_;refine ivx ?_;unfold aK;rw[show (a,z,k).2.2[(a,z,k).2.2.findIdx λl=>decide (l.2=nm)]?=some k[k.findIdx λl:Lnk=>decide (l.2=nm)] from List.getElem?_eq_getElem hlt']
 have hlt':¬k.findIdx (λl:Lnk=>decide (l.2=nm))<k.length:=λh=>hc1 (by unfold idxV;rw[if_pos h];omega);refine za<|wr'<|Vw (Ak lk gx Ap rfl)<|Vw (Aa lk gx gt0)<|Af mp (cX hz) pt<|mr<|Ad rz<|rT'<|?_;refine ivx ?_;unfold aK;rw[show (a,z,k).2.2[(a,z,k).2.2.findIdx λl=>decide (l.2=nm)]?=none from List.getElem?_eq_none (Nat.le_of_not_lt hlt')]
def repl_one {s lt:Bs}:Lib.replace s [37,115] lt 1=if (Lib.cut s [37,115]).2.2=true then (Lib.cut s [37,115]).1++lt++(Lib.cut s [37,115]).2.1 else s:=by
 have hge:=Lib.index_ge s [37,115];unfold Lib.cut;by_cases h0:0<=Lib.index s [37,115]
 .rw[if_pos h0];obtain⟨i,hi⟩ : ∃ i:Nat,Lib.index s [37,115]=i:=⟨(Lib.index s [37,115]).toNat,by omega⟩;simp only[if_true,hi,Int.toNat_natCast,List.length_cons,List.length_nil];unfold Lib.replace;split
  .rename_i e;have e:[37,115]=lt:=by simpa using e
   subst e;rcases Lib.index_spec s [37,115] with ⟨h1,_⟩ | ⟨j,h1,h2,h3,_⟩
   .omega
   obtain rfl:i=j:=by omega
   have h4:[37,115] <+: s.drop i:=by simpa [Lib.occAt] using h3
   obtain⟨t,ht⟩:=h4;have e2:s.drop (i+2)=t:=by rw[<-List.drop_drop,<-ht];rfl
   rw[e2,List.append_assoc,ht,List.take_append_drop]
  have hc:0<Lib.count s [37,115]:=by rw[Lib.count_hit (by simp) hi];omega
  unfold Lib.replaceNum;rw[if_neg om];rw[show (1:Int).toNat=0+1 from rfl,Lib.replaceK_hit _ _ _ _ _ hi];rfl
 rw[if_neg h0];simp only[Bool.false_eq_true,if_false];unfold Lib.replace;split
 .rfl
 have hm:Lib.index s [37,115] = -1:=by omega
 unfold Lib.replaceNum;rw[if_pos (.inr (by rw[Lib.count_miss hm];simp)),Lib.count_miss hm];rfl
def sC {s lt:ByteArray}(h1:s.size<=24) (h2:lt.size<=24):Ac 308 [sv s,sv (bA [37,115]),sv lt,iv 1] h (sv (if (cutL s [37,115]).2.2=true then bA ((cutL s [37,115]).1++aB lt++(cutL s [37,115]).2.1) else s)):=by
 refine ACalls.of_below (by kernel_rfl) λw g vs hs ha=>?_;simp only[RepL,Rep] at ha;obtain⟨u1,us1,e1,rfl,u2,us2,rfl,rfl,u3,us3,rfl,rfl,u4,us4,rfl,rfl,rfl⟩:=ha;obtain rfl:vs = #[.string s,.string (bA [37,115]),.string lt,.int .i64 1]:=by cases vs;simp_all
 obtain⟨m,hm⟩:=hs.glob.w.maxLen;have hc:=Lib.countB_le (bA [37,115]) (by decide) s.size s (Nat.le_refl _);have hc2:Lib.countB s (bA [37,115])*lt.size<=24*24:=Nat.mul_le_mul om h2;refine (Tryz.strings_Replace s (bA [37,115]) lt 1 m w om hm (by decide) om).mono ?_;rintro e w' ⟨rfl,hb⟩;refine⟨_,rfl,hb,?_⟩;simp only[Rep];have:=repl_one (s:=aB s) (lt:=aB lt);show Value.string (bA (Lib.replace (aB s) [37,115] (aB lt) 1))=_;rw[this];unfold cutL;split <;> rfl
def named_a {lt:ByteArray}(h1:fm.size<=24) (h2:lt.size<=24):Ac 294 [sv fm,sv lt,iv sa] h (sv (J9 fm lt sa)):=by
 refine tI' k294 λN hn _ _ hbd=>?_;simp only[tb'] at hbd ⊢;refine wk'<|wm<|Af mp (cut1_a h1) pt<|mw<|Vw (B7 lk gt)<|Vw (B7 lk gt)<|Vw (B7 lk gt)<|mw<|?_;refine mw<|ms<|Ab<|Ah<|wm<|Vw (Bj lk)<|ms<|?_;refine Bg lk (λhc1=>?_) (λhc1=>?_)
 .refine wm<|mw<|Af mp (sC h1 h2) pt<|mr<|Au<|Ag<|Ad rz<|rT'<|?_;unfold J9;exact congrArg (λz=>sv z) (if_neg (by have:=hc1;rw[Bool.not_eq_true'] at this;rw[this];simp)).symm
 refine wm<|Vw (C7 lk lki)<|ms<|?_;refine cd' lk (λhc2=>?_) (λhc2=>?_)
 .refine wm<|mr<|Au<|Ag<|Ad rz<|rT'<|?_;unfold J9;rw[if_pos (by have:=hc1;rwa [Bool.not_eq_false'] at this),if_pos hc2]
 refine Be<|Aw<|An<|wm<|mr<|Ad rz<|rT'<|?_;unfold J9;rw[if_pos (by have:=hc1;rwa [Bool.not_eq_false'] at this),if_neg hc2]
def dG {t:Tim}(h1:(xFm x).size<=24) (h2:t.2.2.size<=24) (h3 : -64800<=xSh x/\xSh x<=64800) (h4:0<=t.2.1/\t.2.1<=10800):ACalls Tryz.prog 254 [.agg (eraC x),.agg (timC t)] h λy h'=>h'=h/\y=.ret (.agg [iv (locV x t.2.1 t.2.2).1,iv (locV x t.2.1 t.2.2).2.1,sv (locV x t.2.1 t.2.2).2.2]):=by
 obtain⟨sh,rl,sa,fm,op,⟨⟨y,m,d⟩,a,c⟩⟩:=x;obtain⟨at_,sv_,lt⟩:=t;simp only[xFm,xSh] at h1 h3;simp only at h2 h4;show ACalls _ _ [.agg [iv sh,sv rl,iv sa,sv fm,bv op,iv y,iv m,iv d,iv a,iv c],.agg [iv at_,iv sv_,sv lt]] h _;refine tI' k254 λN hn _ _ hbd=>?_;simp only[tb'] at hbd ⊢;refine wr'<|E' (Bq cv rfl hl0 ha0) pt<|E' (Bq cv rfl hl1 ha1) pt<|E' (Bz hl2 ha2) pt<|sn'<|Ab<|Bl<|dg<|Dw (Aa lk gx gt0)<|dg<|Dw (Aa lk gx gt1)<|?_;refine D' (Du lk lk om om) pt ?_;refine dg<|Dw (Aa lk gx gt1)<|dg<|Dw (Aa lk gx gt3)<|dg<|Dw (Aa lk gx gt2)<|dg<|Dw (Aa lk gx gt1)<|?_;refine Br mp (λhE hX=>named_a h1 h2) pt ?_;refine Dw (Bb (Dq cw cw cw))<|Bi<|?_;refine B9 ?_;exact E' (Ai lk cv gx rfl nb rfl Bo hs2) ptn<|sr<|Ad (rs1 (rr_c gt gx (ld1 Ap rfl)))<|rT' rfl
def cut1p_a {c:Chg}{e:Int}:ACalls Tryz.prog 256 [.agg (chgC c),.rp [iv e]] h λy h'=>h'=h/\y=.ret (bv (decide (e<=c.1))):=by
 obtain⟨c1,c2,c3,c4⟩:=c;refine tI' k256 λN hn _ _ hbd=>?_;simp only[tb'] at hbd ⊢;refine wr'<|E' (Bq cv rfl hl0 ha0) pt<|ms<|wr'<|fq<|Vw (Aa lk gx gt0)<|Vw (Ba lk gt)<|Vw (Gz lk lk)<|mw<|Am<|?_;refine An<|C4<|Ad rz<|rT'<|?_;exact bvx (by first | rfl | (rw[Bool.eq_iff_iff];simp))
def qA {l:List Chg}{e:Int}:cutV l e=l.take (l.findIdx λc=>decide (e<=c.1)):=by
 unfold cutV;induction l with
 | nil=>rfl
 | cons c l ih =>
  rw[List.takeWhile_cons,List.findIdx_cons]
  by_cases h:c.1<e
  .rw[if_pos (by simpa using h),ih,show decide (e<=c.1)=false by simp;omega];rfl
  rw[if_neg (by simpa using h),show decide (e<=c.1)=true by simp;omega];rfl
def zcut_a {l:List Chg}{e:Int}{full:Bool}(hl:l.length<=9223372036854775807):ACalls Tryz.prog 199 [.sl l.length 4 full (rows chgC l),iv e] h λy h'=>h'=h/\y=.ret (.sl (cutV l e).length 4 false (rows chgC (cutV l e))):=by
 have hll:=hl;refine tW' k199 λN hn _ _ hbd=>?_;simp only[tb'] at hbd ⊢;refine wr'<|E' (Bq cv rfl hl0 ha0) pt<|mw<|Am<|?_;refine B0 (ALe.icePtr gx gt3 (by simp) pt3 hs0) ?_;refine wm<|Vw (J5 mp)<|?_;refine Af mp (ixPrtC_a (p:=λc:Chg=>decide (e<=c.1)) (λc _ _=>cut1p_a) hll) pt ?_;refine ms<|Ab<|wm<|Vw (Bm lk lki)<|sn'<|?_;refine cd' lk (λhc1=>?_) (λhc1=>?_)
 .have hi:¬l.findIdx (λc:Chg=>decide (e<=c.1))<l.length:=by unfold idxV at hc1;split at hc1;omega;assumption
  refine wm<|mr<|Ag<|Ad rz<|rtW'<|?_;rw[qA,List.take_of_length_le om];exact Wk.full
 have hi:l.findIdx (λc:Chg=>decide (e<=c.1))<l.length:=by unfold idxV at hc1;split at hc1;assumption;omega
 have hix:idxV (λc:Chg=>decide (e<=c.1)) l=((l.findIdx λc:Chg=>decide (e<=c.1):Nat):Int):=if_pos hi;refine za<|wm<|mw<|?_;refine V' (v_hi (k:=l.findIdx λc:Chg=>decide (e<=c.1)) lk lk Cg ro om ro) pt ?_;refine mr<|Ad rz<|rtW'<|?_;rw[qA,List.length_take,Nat.min_eq_left (Nat.le_of_lt hi)];exact Wk.full
end
section
open Go.Ab Go.RowKit Civ
attribute [local simp] Eb Fi E5 Dn Cp Gw
def k172:=Kx 172 []
def c104p:AC:=(.seq (.reg [⟨(some 1),none,(.box 72 3 (.tmp 0))⟩,⟨(some 2),none,(.new 4 1 [(.v (.bool false))])⟩]) (.seq (.reg [⟨(some 4),none,(.fa 2 (.tmp 1))⟩,⟨(some 5),none,(.load false 1 (.tmp 4))⟩,⟨(some 6),none,(.mkfn 168 [(.tmp 1)])⟩,⟨(some 7),none,(.call (.func 167) [(.tmp 5),(.tmp 6)])⟩]) (.seq (.cond (.tmp 7) (.seq (.reg [⟨none,none,(.store 1 (.tmp 2) (.const (.bool true)))⟩]) .ret) .skip) (.seq (.reg [⟨(some 8),none,(.load true 3 (.tmp 1))⟩,⟨(some 9),none,(.call (.func 105) [(.tmp 8)])⟩]) .skip))))
def c104a:AC:=(.reg [⟨(some 3),none,(.new 166 10 [(iv 0),(.v (.string ⟨#[]⟩)),(iv 0),(.v (.string ⟨#[]⟩)),(.v (.bool false)),(iv 0),(iv 0),(iv 0),(iv 0),(iv 0)])⟩,⟨none,none,(.store 10 (.tmp 3) (.tmp 10))⟩])
def c104b:AC:=(.block 1 (.seq (.reg [⟨(some 11),none,(.fa 1 (.tmp 3))⟩,⟨(some 12),none,(.load false 1 (.tmp 11))⟩,⟨(some 13),none,(.bin .neq (.tmp 12) (.const (.string ⟨#[]⟩)))⟩,⟨(some 14),none,(.mv (.tmp 13))⟩,⟨(some 15),(some (14,true)),(.fa 0 (.tmp 1))⟩,⟨(some 16),(some (14,true)),(.load false 1 (.tmp 15))⟩,⟨(some 17),(some (14,true)),(.mkfn 171 [(.tmp 3)])⟩,⟨(some 18),(some (14,true)),(.call (.func 170) [(.tmp 16),(.tmp 17)])⟩,⟨(some 19),(some (14,true)),(.un .not (.tmp 18))⟩,⟨(some 20),none,(.pick (.tmp 14) (.tmp 19) (.const (.bool false)))⟩]) (.cond (.tmp 20) (.seq (.reg [⟨none,none,(.store 1 (.tmp 2) (.const (.bool true)))⟩]) .ret) .skip)))
def c104q:AC:=(.seq (.reg [⟨none,none,(.store 1 (.tmp 2) (.const (.bool false)))⟩]) (.seq .ret .skip))
abbrev fr104:AFR:=⟨[(.reg [⟨(some 1),none,(.box 72 3 (.tmp 0))⟩,⟨(some 2),none,(.new 4 1 [(.v (.bool false))])⟩]),(.reg [⟨(some 4),none,(.fa 2 (.tmp 1))⟩,⟨(some 5),none,(.load false 1 (.tmp 4))⟩,⟨(some 6),none,(.mkfn 168 [(.tmp 1)])⟩,⟨(some 7),none,(.call (.func 167) [(.tmp 5),(.tmp 6)])⟩]),(.cond (.tmp 7) (.seq (.reg [⟨none,none,(.store 1 (.tmp 2) (.const (.bool true)))⟩]) .ret) .skip),(.reg [⟨(some 8),none,(.load true 3 (.tmp 1))⟩,⟨(some 9),none,(.call (.func 105) [(.tmp 8)])⟩])],(.tmp 9),#[10],c104a,c104b,c104q,[(.cell 2 false 1)],21⟩
def k104:O5 Tryz.prog 104=some fr104:=by kernel_rfl
def Gq (z:List Zon):List Era:=z.flatMap (·.2)
def jC {j:Nat}(hi:i<z.length) (hj:j<z[i].2.length) : ∃ r,Gq z=Gq (z.take i)++(z[i].2.take j++z[i].2[j]::r):=by
 refine⟨z[i].2.drop (j+1)++Gq (z.drop (i+1)),?_⟩;have e:z=z.take i++z[i]::z.drop (i+1):=by rw[<-List.drop_eq_getElem_cons hi,List.take_append_drop]
 have e2:z[i].2=z[i].2.take j++z[i].2[j]::z[i].2.drop (j+1):=by rw[<-List.drop_eq_getElem_cons hj,List.take_append_drop]
 have h1:Gq z=Gq (z.take i++z[i]::z.drop (i+1)):=by rw[<-e]
 rw[h1];unfold Gq;rw[List.flatMap_append,List.flatMap_cons];have h2:z[i].2++(z.drop (i+1)).flatMap (·.2)=z[i].2.take j++z[i].2[j]::(z[i].2.drop (j+1)++(z.drop (i+1)).flatMap (·.2)):=by
  conv=>lhs;rw[e2]
  rw[List.append_assoc];rfl
 rw[h2]
def mQ (hi:i<z.length):Gq (z.take (i+1))=Gq (z.take i)++z[i].2:=by
 unfold Gq;rw[List.take_succ_eq_append_getElem hi,List.flatMap_append,List.flatMap_cons,List.flatMap_nil,List.append_nil]
def tY {p:Era->Bool}{l m r:List Era}(hl : ∀ y∈l,p y=false) (hm : ∀ y∈m,p y=false) (hx:p x=true):(l++(m++x::r)).find? p=some x:=by
 rw[List.find?_append,List.find?_eq_none.2 (λy hy=>by rw[hl y hy];simp),Option.none_or,List.find?_append,List.find?_eq_none.2 (λy hy=>by rw[hm y hy];simp),Option.none_or,List.find?_cons,hx]
def stopH (h:AH) (hS:Era->AH):Option Era->AH
 | none=>h
 | some x=>hS x
def pU {a:List Rul}{lp:Nat}{p:Era->Bool}{hS:Era->AH}(hz:z.length<=20) (hz2 : ∀ y∈z,y.2.length<=8) (hSl : ∀ x,(hS x).length=h.length) (hSlt : ∀ x,∀ e∈hS x,e.lt h.length=true)
  (hY : ∀ x∈Gq z,∀ e f:Ent,p x=false->AYield Tryz.prog lp [.agg (eraC x)] (h++[e,f]) λr h''=>r=.ret (.v (.bool true))/\h''=h++[e,f])
  (hN : ∀ x∈Gq z,∀ e f:Ent,p x=true->AYield Tryz.prog lp [.agg (eraC x)] (h++[e,f]) λr h''=>r=.ret (.v (.bool false))/\h''=hS x++[e,f]) :
  ACalls Tryz.prog 172 [.v (.func (.yield lp) #[] #[]),.rp [.sl a.length 11 false (rows rulC a),.sl z.length 2 false (rows zonC z),.sl k.length 2 false (rows lnkC k)]] h λy h'=>y=.ret (.tup [])/\h'=stopH h hS ((Gq z).find? p):=by
 refine tJ' k172 λN hn hlt _ hbd=>?_;simp only[tb'] at hbd ⊢;refine wr'<|Vw (Cj lk dp1)<|Vw (Ba lk gt)<|Vw (Bf lk)<|ms<|Ah<|?_;refine w_lp (ι:=Nat) (λ(i:Nat)=>[(10,iv (i:Int)),(4,.any),(6,.any)]++rn' 11 16) (λ(i:Nat)=>[]) (λ(i:Nat)=>i<=z.length /\ ∀ x∈Gq (z.take i),p x=false) (λ(i:Nat)=>z.length-i) (0) (by exact⟨Nat.zero_le _,λx hx=>by cases hx⟩) ?_;rintro i hi1;try simp only[sm',Nat.reduceAdd]
 obtain⟨hk1,hk2⟩:=hi1;refine wr'<|Vw (Bm lk lk)<|sn'<|Ab<|?_;refine cd' lk (λhc1=>?_) (λhc1=>?_)
 .have hi:i<z.length:=by omega
  have hz3:=hz2 _ (List.getElem_mem hi);refine za<|Ab<|Ah<|wr'<|?_;refine V' (Bh lk lk Ho nb ro om ro rfl) pt ?_;refine Vw (Ax lk Ce rfl)<|E' (Bz hl0 ha0) pt<|E' (Ai lk cv gx rfl nb rfl Cc hs0) ptn<|sn'<|wr'<|fq<|Vw (Aa lk gx gt1)<|?_;refine V' ((by first | exact Bf lk | exact Ej lk)) pt ?_;refine ms<|Ah<|?_;refine w_lp (ι:=Nat) (λ(j:Nat)=>[(17,iv (j:Int)),(6,.any)]++rn' 18 8) (λ(j:Nat)=>[]) (λ(j:Nat)=>j<=z[i].2.length /\ ∀ x∈z[i].2.take j,p x=false) (λ(j:Nat)=>z[i].2.length-j) (0) (by exact⟨Nat.zero_le _,λx hx=>by cases hx⟩) ?_;rintro j hi2;try simp only[sm',Nat.reduceAdd]
  obtain⟨hj1,hj2⟩:=hi2;refine wr'<|Vw (Bm lk lk)<|sn'<|Ab<|?_;refine cd' lk (λhc2=>?_) (λhc2=>?_)
  .have hj:j<z[i].2.length:=by omega
   obtain⟨rr,hrr⟩:=jC hi hj;have hmem:z[i].2[j]∈Gq z:=by rw[hrr];simp
   refine za<|Ab<|Ah<|wr'<|?_;refine V' (Bh lk lk F5 nb ro om ro rfl) pt ?_;refine Vw (Ax lk Fx rfl)<|E' (Bz hl1 ha1) pt<|E' (Ai lk cv gx rfl nb rfl Gc hs1) ptn<|sn'<|wm<|Vw (Ak lk gx L5 rfl)<|?_;by_cases hs21:p z[i].2[j]=true
   .refine oL lk mp (hN _ hmem _ _ hs21) pt<|Vw (Bj lk)<|sn'<|Cx lk<|C4<|Au<|Ag<|Ag<|Au<|Au<|Ag<|Ag<|Au<|?_;refine Ad (rs0) ?_;exact⟨_,_,rfl,(hSl _).trans hn,by rw[<-hn];exact hSlt _,rfl,rfl,by rw[hrr,tY hk2 hj2 hs21];rfl⟩
   refine oL lk mp (hY _ hmem _ _ (by simpa using hs21)) pt ?_;refine Vw (Bj lk)<|sn'<|Cf lk<|Be<|Aw<|An<|Aq<|?_;refine ad<|mw<|Am<|Az<|?_;refine lU' (j+1) (by (try dsimp only);refine⟨by omega,λx hx=>?_⟩;rw[List.take_succ_eq_append_getElem hj] at hx;rcases List.mem_append.1 hx with hx | hx;exact hj2 x hx;simp only[List.mem_singleton] at hx;subst hx;simpa using hs21) (by refine zz ?_;exact bk' 1 hn hlt)
  have hje:z[i].2.length<=j:=by omega
  rw[List.take_of_length_le hje] at hj2;refine Bd<|As<|As<|Bp<|Aw<|An<|Aq<|?_;refine ad<|mw<|Am<|Az<|?_;refine lU' (i+1) (by (try dsimp only);refine⟨by omega,λx hx=>?_⟩;rw[mQ hi] at hx;rcases List.mem_append.1 hx with hx | hx;exact hk2 x hx;exact hj2 x hx) (by refine zz ?_;exact bk' 0 hn hlt)
 rw[List.take_of_length_le om] at hk2;refine Bd<|As<|As<|Bp<|Ul (rs0)<|?_;exact⟨_,_,rfl,hn,hlt,rfl,rfl,by rw[List.find?_eq_none.2 (λy hy=>by rw[hk2 y hy];simp)];rfl⟩
def miss2p_a {r:Rul}{id:Nat}(he:h[id]?=some (.mk 0 166 10 (eraC x))):ACalls Tryz.prog 171 [.agg (rulC r),.ptr id 0 0] h λx' h'=>h'=h/\x'=.ret (bv (decide (r.1=xRl x))):=by
 obtain⟨n,f,t,m,⟨k,w,d⟩,a,c,s,lt⟩:=r;refine tI' k171 λN hn _ _ hbd=>?_;simp only[tb'] at hbd ⊢;refine wr'<|E' (Bq cv rfl hl0 ha0) pt<|ms<|wr'<|fq<|Vw (Aa lk gx gt0)<|fq<|Vw (Aa lk (Ez he) gt1)<|Vw (J6 lk lk)<|mw<|?_;exact sr<|Ad rz<|rT' rfl
abbrev srcB (a:List Rul) (z:List Zon) (k:List Lnk):List AV:=[.sl a.length 11 false (rows rulC a),.sl z.length 2 false (rows zonC z),.sl k.length 2 false (rows lnkC k)]
abbrev ergH (h:AH) (D l ty:Nat) (o:Obj) (T:List AV) (vs:List Value) (c:AV):AH:=h++[.gone,.mk 0 ty 1 [c],mkD D,.raw l o T vs]
abbrev ergJ (h:AH) (D l ty:Nat) (o:Obj) (T:List AV) (vs:List Value) (c:AV) (e f:Ent):AH:=h++[.gone,.mk 0 ty 1 [c],mkD D,.raw l o T vs,e,f]
def P9 {l:Nat}{T:List AV}{c:AV}{e:Ent}:ergH h D l ty o T vs c++[e,f]=ergJ h D l ty o T vs c e f:=by simp
def pS {l:Nat}{T:List AV}{c:AV}(hlt : ∀ e∈h,e.lt N=true) (hT:AV.ltL (N+4) T=true) (hc:c.lt (N+4)=true) : ∀ e∈ergH h D l ty o T vs c,e.lt (N+4)=true:=by
 intro e he;rcases List.mem_append.1 he with he | he
 .exact ltw om hlt e he
 simp only[List.mem_cons,List.not_mem_nil,or_false] at he;rcases he with rfl | rfl | rfl | rfl
 .simp[Ent.lt]
 .simp[Ent.lt,AV.ltL,hc]
 .simp[Ent.lt,AV.ltL]
 simpa [Ent.lt] using hT
def misP (a:List Rul) (x:Era):Bool:=decide (xRl x≠⟨#[]⟩)&&!a.any λr=>decide (r.1=xRl x)
def Om (s:Src):Bool:=(s.2.2.any λl=>decide (I2 s.2.1 l.1<0))||(Gq s.2.1).any (misP s.1)
abbrev misT (N:Nat) (a:List Rul) (z:List Zon) (k:List Lnk) (x:AV):List AV:=[.any,.rp (srcB a z k),.ptr (N+1) 0 0,.any,.any,.any,.any,.any,.any,.clo (.func 172) [.rp (srcB a z k)],x,.any,.any,.any,.any,.any,.any,.any,.any,.any,.any]
def pE {a:List Rul}:AV.ltL (N+4) (misT N a z k .any)=true:=by simp[AV.ltL,AV.lt,Eb,E5,Dn]
def app61 {a b c d e p:Ent}:h++[a,b,c,d,e,f,p]=(h++[a,b,c,d,e,f])++[p]:=by simp
def Xv {lp:Nat}{a:List Rul}(hn:h.length=N) (hlt : ∀ e∈h,e.lt N=true) (ha:a.length<=9223372036854775807)
  (hY:Tc Tryz.prog fr104 (N+2+1) lp rdy bsy fin (misT N a z k .any) vs) {x:Era} {e f:Ent} :
  AYield Tryz.prog lp [.agg (eraC x)] (ergJ h D lp 4 rdy (misT N a z k .any) vs (bv false) e f) λr h''=>r=.ret (.v (.bool (!misP a x)))/\h''=ergJ h D lp 4 (if misP a x=true then fin else rdy) (misT N a z k .any) vs (bv (misP a x)) e f:=by
 refine y_go hY (hga (k:=3) hn rfl) rfl λn0 hn0 hlt0 q1 q2 q3=>?_;have hm:n0=N+6:=by rw[<-hn0];simp[hn]
 have hT0:=pE (N:=N) (a:=a) (z:=z) (k:=k);have hE:=hlt0 e (by simp);have hF:=hlt0 f (by simp);have hR:=hlt0 (.raw lp rdy (misT N a z k .any) vs) (by simp);show aw _ _ c104a _ _ _;show aw _ _ _ _ (misT N a z k (.agg (eraC x))) (h++[.gone,.mk 0 4 1 [bv false],mkD D,.raw lp rdy (misT N a z k .any) vs,e,f]);refine Aq<|E' (Bz hl6 ha6) pt<|E' (Ai lk cv gx rfl nb rfl Gc hs6) ptn<|Am<|?_;refine nD (i:=N+3) gx hs3 λn1 hn1 hlt1=>?_;have fin2 : ∀ (b:Bool) (o:Obj) (E:Ent),b=misP a x->o=(if misP a x=true then fin else rdy)->o.isCells=o.isCells->Ent.lt n0 (.raw lp o (misT N a z k .any) vs)=true -> ∃ y z',h++[.gone,.mk 0 4 1 [bv b],mkD D,.raw lp o (misT N a z k .any) vs,e,f,E]=y++z'/\y.length=n0/\(∀ e∈y,e.lt n0=true)/\(AE.ret (.v (.bool (!b)))).lt n0=true/\AE.ret (.v (.bool (!b)))=.ret (.v (.bool (!misP a x)))/\y=ergJ h D lp 4 (if misP a x=true then fin else rdy) (misT N a z k .any) vs (bv (misP a x)) e f:=by
  rintro b o E rfl rfl _ hro;refine⟨_,_,app61,by rw[<-hn0];simp,λy hy=>?_,rfl,rfl,rfl⟩;rcases List.mem_append.1 hy with hy | hy
  .exact ltw om hlt y hy
  simp only[List.mem_cons,List.not_mem_nil,or_false] at hy;rcases hy with rfl | rfl | rfl | rfl | rfl | rfl
  .simp[Ent.lt]
  .simp[Ent.lt,AV.ltL,AV.lt]
  .simp[Ent.lt,AV.ltL]
  .exact hro
  .exact hE
  exact hF
 have hro : ∀ o:Obj,Ent.lt n0 (.raw lp o (misT N a z k .any) vs)=true:=λo=>by simpa [Ent.lt] using hR
 show aw _ _ c104b _ _ _;refine Ah<|wr'<|fq<|Vw (Aa lk gx gt1)<|Vw (H7 lk lks)<|mw<|?_;refine sp' (t:=14) gt pt pt (λhg14=>?_) (λhg14=>?_)
 .refine sd<|Vw (Cj lk dp0)<|sd<|Vw (Ba lk gt)<|sd<|Vw (J5 mp)<|sd<|?_;refine Af mp (aS (p:=λr:Rul=>decide (r.1=xRl x)) (λc _ E=>miss2p_a (Ez gx)) ha) pt ?_;refine sd<|Vw (Bj lk)<|Vw (Ar lk lk)<|sn'<|?_;refine Bg lk (λhc1=>?_) (λhc1=>?_)
  .have hP:misP a x=true:=by unfold misP;rw[Bool.and_eq_true];exact⟨decide_eq_true hg14,hc1⟩
   refine wr'<|E' (Ai lk (cvl lkb rfl) gx rfl nb rfl Ct hs1) ptn<|sr<|Au<|?_;refine jV (i:=N+3) (hga hn rfl) hs3 (fin2 true fin _ hP.symm (by rw[if_pos hP]) rfl (hro _))
  have hP:misP a x=false:=by unfold misP;rw[Bool.and_eq_false_iff];exact .inr hc1
  refine Be<|Aw<|?_;exact Ta (i:=N+3) (hga hn rfl) hs3 (fin2 false rdy _ hP.symm (by rw[hP];rfl) rfl (hro _))
 have hP:misP a x=false:=by unfold misP;rw[Bool.and_eq_false_iff];exact .inl (decide_eq_false hg14)
 refine so<|so<|so<|so<|so<|Vw (Ao lk lkb)<|sn'<|Cf lk<|Be<|Aw<|?_;exact Ta (i:=N+3) (hga hn rfl) hs3 (fin2 false rdy _ hP.symm (by rw[hP];rfl) rfl (hro _))
def any_find {p:Era->Bool} {l:List Era}:(match l.find? p with | none=>false | some _=>true)=l.any p:=by
 induction l with
 | nil=>rfl
 | cons x l ih=>rw[List.find?_cons,List.any_cons];cases p x <;> simp[ih]
def tD {h:AH}{lp N D:Nat}{rdy bsy fin:Obj}{a:List Rul}{z:List Zon}{k:List Lnk}{vs:List Value}(hn:h.length=N) (hlt : ∀ e∈h,e.lt N=true) (ha:a.length<=9223372036854775807) (hz:z.length<=20) (hz2 : ∀ y∈z,y.2.length<=8)
    (hY:Tc Tryz.prog fr104 (N+2+1) lp rdy bsy fin (misT N a z k .any) vs) (hl0:(k.any λl=>decide (I2 z l.1<0))=false) {R:AE->AH->Prop} (hR:R=λx h' => ∃ z',h'=h++z'/\x.lt N=true/\x=.ret (bv (Om (a,z,k)))) :
    ACalls Tryz.prog 172 (.v (.func (.yield lp) #[] #[])::[.rp (srcB a z k)]) (ergH h D lp 4 rdy (misT N a z k .any) vs (bv false)) λr h3=>(∃ c,r=.ret c) /\
      ((h3[N+2+1]?=some (.raw lp rdy (misT N a z k .any) vs) /\ ∀ n0,(h3.set (N+2+1) .gone).length=n0->(∀ e∈h3.set (N+2+1) .gone,e.lt n0=true)->aw Tryz.prog n0 fr104.post (Jz fr104.res (N+2) D R) (misT N a z k .any) (h3.set (N+2+1) .gone)) \/
       (h3[N+2+1]?=some (.raw lp fin (misT N a z k .any) vs)/\Jz fr104.res (N+2) D R .ret (misT N a z k .any) (h3.set (N+2+1) .gone))):=by
  have hmis:Om (a,z,k)=(Gq z).any (misP a):=by unfold Om;rw[hl0,Bool.false_or]
  refine (pU (h:=ergH h D lp 4 rdy (misT N a z k .any) vs (bv false)) (p:=misP a) (hS:=λ_=>ergH h D lp 4 fin (misT N a z k .any) vs (bv true)) hz hz2 (λ_=>(hl4 hn).trans (hl4 hn).symm) (λ_=>by rw[hl4 hn];exact pS hlt pE rfl) (λx _ e f hp=>?_) (λx _ e f hp=>?_)).mono ?_
  . have:=Xv (e:=e) (f:=f) (D:=D) (x:=x) hn hlt ha hY;rw[hp] at this;rw[P9];exact this
  . have:=Xv (e:=e) (f:=f) (D:=D) (x:=x) hn hlt ha hY;rw[hp] at this;rw[P9,P9];exact this
  rintro x h3 ⟨rfl,rfl⟩;refine⟨⟨_,rfl⟩,?_⟩;rw[<-any_find] at hmis;subst hR;cases hf:(Gq z).find? (misP a) with
  | none =>
    rw[hf] at hmis
    refine .inl ⟨hga (k:=3) hn rfl,λn0 hn0 _=>?_⟩
    have hs:(ergH h D lp 4 rdy (misT N a z k .any) vs (bv false)).set (N+2+1) .gone=h++[.gone,.mk 0 4 1 [bv false],mkD D,.gone]:=hs3 hn
    show aw _ _ _ _ _ ((ergH h D lp 4 rdy (misT N a z k .any) vs (bv false)).set (N+2+1) .gone)
    rw[hs]
    show aw _ _ c104q _ _ _
    refine wr'<|E' (Ai lk (cvl lkb rfl) gx rfl nb rfl Ct hs1) ptn<|sn'<|Ab<|C4<|Ag<|?_
    refine Jy gx hs2 (rs1 (rr_c gt gx (ld0 gt))) ?_
    refine rT' ?_
    rw[hmis]
  | some x =>
    rw[hf] at hmis
    refine .inr ⟨hga (k:=3) hn rfl,?_⟩
    have hs:(ergH h D lp 4 fin (misT N a z k .any) vs (bv true)).set (N+2+1) .gone=h++[.gone,.mk 0 4 1 [bv true],mkD D,.gone]:=hs3 hn
    show Jz _ _ _ _ _ _ ((ergH h D lp 4 fin (misT N a z k .any) vs (bv true)).set (N+2+1) .gone)
    rw[hs]
    exact Jy (hga (k:=2) hn rfl) hs2 (rs1 (rr_c gt (hga (k:=1) hn rfl) (ld0 gt))) (rT' (by rw[hmis]))
def tC {a:List Rul}(ha:a.length<=9223372036854775807) (hz:z.length<=20) (hz2 : ∀ y∈z,y.2.length<=8) (hk:k.length<=9223372036854775807):Ac 104 [.agg (srcB a z k)] h (bv (Om (a,z,k))):=by
 have hkk:=hk;refine tR' k104 λN hn hlt _ hbd=>?_;show aw _ _ c104p _ _ _;show aw _ _ _ _ [.agg (srcB a z k),.any,.any,.any,.any,.any,.any,.any,.any,.any,.any,.any,.any,.any,.any,.any,.any,.any,.any,.any,.any] _;refine wr'<|E' (Bq cv rfl hl0 ha0) pt<|E' (Bz hl1 ha1) pt<|Am<|?_;refine B0 (ALe.icePtr gx gt1 (by simp) pt1 hs0) ?_;refine wr'<|Vw (Cj lk dp2)<|Vw (Ba lk gt)<|Vw (J5 mp)<|?_;refine Af mp (tV (p:=λl:Lnk=>decide (I2 z l.1<0)) (λc _ _=>miss1_a om) hkk) pt ?_;refine sn'<|Ab<|?_;refine Bg lk (λhc1=>?_) (λhc1=>?_)
 .have hm:Om (a,z,k)=true:=by unfold Om;rw[show (k.any λl=>decide (I2 z l.1<0))=true from hc1];rfl
  refine wr'<|E' (Ai lk (cvl lkb rfl) gx rfl nb rfl Ct hs1) ptn<|sr<|Ag<|?_;refine R5 (rs1 (rr_c gt gx (ld0 gt))) ?_;refine rT' ?_;rw[hm]
 refine za<|wr'<|Vw (Ax lk Cn rfl)<|Af mp (eras_a) pt<|sn'<|Be<|?_;refine lO (T1:=misT N a z k .any) (ALe.same wA' rfl) rfl hl2 λlp D rdy bsy fin vs hle hlT hY=>?_;have hgo:=tD (D:=D) hn hlt ha hz hz2 hY hc1 rfl;rw[show (h++[Ent.gone,Ent.mk 0 4 1 [bv false]]++[mkD D,Ent.raw lp rdy (misT N a z k .any) vs]:AH)=ergH h D lp 4 rdy (misT N a z k .any) vs (bv false) by simp];exact hgo
end
section
open Go.Ab Go.Sort
def bsL (l:List ByteArray):List Bs:=l.map aB
def sbL (l:List Bs):List ByteArray:=l.map bA
def sb_bs (l:List ByteArray):sbL (bsL l)=l:=by
 unfold sbL bsL;rw[List.map_map];have:(bA ∘ aB)=id:=by funext z;rfl
 rw[this,List.map_id]
def W6 (l:List Bs):rows strC (sbL l)=(l.map encStr).map .v:=by
 unfold sbL;induction l with
 | nil=>rfl
 | cons x l ih=>rw[List.map_cons,List.map_cons,List.map_cons,<-ih];rfl
def Ki (l:List ByteArray):rows strC l=((bsL l).map encStr).map .v:=by rw[<-W6,sb_bs]
def I0 (l:List ByteArray):List ByteArray:=sbL ((bsL l).mergeSort λx y=>decide (x<=y))
def Kb (l:List ByteArray):List Bs:=Lib.compact (bsL l)
def rR (l:List ByteArray):(I0 l).length=l.length:=by simp[I0,sbL,bsL]
def rQ {l:List ByteArray}{id:Nat}(he:h[id]?=some (.mk v ty 1 (rows strC l))) (h0:l≠[]) (hl:l.length<4611686018427387904) :
  ACalls Tryz.prog 165 [.own id v l.length] h λr h'=>r=.ret (.tup [])/\h'=h.set id (.mk v ty 1 (rows strC (I0 l))):=by
 refine ACalls.of_turnR (by kernel_rfl) he ?_ ?_
 .rw[Ki];simpa [bsL] using h0
 .intro w g vs b cap arr hs ha hloc hb hsz hle hr;simp only[RepL,Rep,hloc] at ha;obtain⟨u1,us1,e1,⟨A,c,e2,hn1,hn2,rfl⟩,rfl⟩:=ha;simp only[Option.some.injEq,Prod.mk.injEq] at e2;obtain⟨rfl,rfl⟩:=e2;obtain rfl:vs = #[.slice (some ⟨b,0,none⟩) l.length cap]:=by cases vs;simp_all
  have hlen:(rows strC l).length=(bsL l).length:=by rw[Ki];simp
  have hbl:(bsL l).length=l.length:=by simp[bsL]
  rw[hlen] at hr hle;rw[Ki] at hr;have hr2:=V0.1 hr;have hb':b<w.heap.size:=(Array.getElem?_eq_some_iff.1 hb).1;have:=Tryz.slices_Sort_string b 0 cap (bsL l) w (holds_of_block hb hr2) hb' (by rw[hbl];exact hl);rw[hbl] at this;refine this.mono ?_;rintro e w' ⟨rfl,n,os,rfl⟩;obtain⟨q1,q2,q3,q4,q5⟩:=grownBy_sorted (w:=w) (g:=b) (n:=n) (os:=os) ((bsL l).mergeSort λx y=>decide (x<=y)).toArray;have hml:((bsL l).mergeSort λx y=>decide (x<=y)).length=(bsL l).length:=List.length_mergeSort _;refine⟨_,((bsL l).mergeSort λx y=>decide (x<=y)).map encStr,_,rfl,by unfold I0;rw[W6],heap_sorted _ hb,by simp[putCells],by rw[hlen];simp,?_,q1,q2,q3,q4,λk hk hne=>q5 k hk (by simpa using hne),?_⟩
  .rw[hlen,<-hml];exact take_putCells arr _ (by rw[hml];exact hle)
  .simp only[Rep];exact⟨#[],rfl,by simp only[RepL]⟩
def uF {l:List ByteArray}{id:Nat}(he:h[id]?=some (.mk v ty 1 (rows strC l))) (h0:l≠[]) (hl:l.length<=9223372036854775807) :
  ACalls Tryz.prog 166 [.own id v l.length] h λr h'=>r=.ret (.own id v (Kb l).length)/\h'=h.set id (.mk v ty 1 (rows strC (sbL (Kb l++List.replicate ((bsL l).length-(Kb l).length) [])))):=by
 refine ACalls.of_turnR (by kernel_rfl) he ?_ ?_
 .rw[Ki];simpa [bsL] using h0
 .intro w g vs b cap arr hs ha hloc hb hsz hle hr;simp only[RepL,Rep,hloc] at ha;obtain⟨u1,us1,e1,⟨A,c,e2,hn1,hn2,rfl⟩,rfl⟩:=ha;simp only[Option.some.injEq,Prod.mk.injEq] at e2;obtain⟨rfl,rfl⟩:=e2;obtain rfl:vs = #[.slice (some ⟨b,0,none⟩) l.length cap]:=by cases vs;simp_all
  have hlen:(rows strC l).length=(bsL l).length:=by rw[Ki];simp
  have hbl:(bsL l).length=l.length:=by simp[bsL]
  rw[hlen] at hr hle;rw[Ki] at hr;have hr2:=V0.1 hr;have hcl:(Kb l).length<=(bsL l).length:=Lib.compact_length_le _;have:=Tryz.slices_Compact_string b 0 cap (bsL l) w (holds_of_block hb hr2) (by rw[hbl];exact hl) (by rw[hbl];omega);rw[hbl] at this;refine this.mono ?_;rintro e w' ⟨rfl,q,rfl⟩;have e0:putRow encStr (Sort.ahead w q) b 0 (Lib.compact (bsL l)++List.replicate (l.length-(Lib.compact (bsL l)).length) []).toArray=grow (putRow encStr (Sort.ahead w q) b 0 (Kb l++List.replicate ((bsL l).length-(Kb l).length) []).toArray) #[]:=by rw[grow_empty,hbl];rfl
  rw[e0];obtain⟨q1,q2,q3,q4,q5⟩:=grownBy_sorted (w:=w) (g:=b) (n:=q) (os := #[]) (Kb l++List.replicate ((bsL l).length-(Kb l).length) []).toArray;have hml:(Kb l++List.replicate ((bsL l).length-(Kb l).length) []).length=(bsL l).length:=by rw[List.length_append,List.length_replicate];omega
  refine⟨_,(Kb l++List.replicate ((bsL l).length-(Kb l).length) []).map encStr,_,rfl,by rw[W6],heap_sorted _ hb,by simp[putCells],by rw[hlen,List.length_map,hml],?_,q1,q2,q3,q4,λk hk hne=>q5 k hk (by simpa using hne),?_⟩
  .rw[hlen];exact (congrArg (λn=>List.take n _) hml.symm).trans (take_putCells arr _ (by rw[hml];exact hle))
  .simp only[Rep];exact⟨_,_,hloc,by omega,hn2,rfl⟩
def fL {l:List ByteArray}{id:Nat}(he:h[id]?=some (.mk v ty 1 (rows strC l))) (hl:l.length<4611686018427387904) :
  ACalls Tryz.prog 165 [.own id v l.length] h λr h'=>r=.ret (.tup [])/\h'=h.set id (.mk v ty 1 (rows strC (I0 l))):=by
 by_cases h0:l=[]
 .subst h0;refine⟨by kernel_rfl,λw g vs hs ha=>?_⟩;simp only[RepL,Rep] at ha;obtain⟨val,us,e,⟨A,cap,e1,e2,e3,rfl⟩,rfl⟩:=ha;obtain rfl:vs = #[.slice A 0 cap]:=by cases vs;simp_all
  refine (Tryz.slices_Sort_string_none A cap w).mono ?_;rintro e w' ⟨rfl,rfl⟩;refine⟨.ret (.tup []),h,g,?_,hs,Gh.le.refl g,Fr.refl _ _,λk hk=>.inl hk,rfl,?_⟩
  .exact (by simp only[EndR,Rep];exact⟨#[],rfl,by simp[RepL]⟩)
  .rw[show I0 []=[] by simp[I0,bsL,sbL]];exact (Hi he).symm
 .exact rQ he h0 hl
def jN {l:List ByteArray}{id:Nat}(he:h[id]?=some (.mk v ty 1 (rows strC l))) (hl:l.length<=9223372036854775807) :
  ACalls Tryz.prog 166 [.own id v l.length] h λr h'=>r=.ret (.own id v (Kb l).length)/\h'=h.set id (.mk v ty 1 (rows strC (sbL (Kb l++List.replicate ((bsL l).length-(Kb l).length) [])))):=by
 by_cases h0:l=[]
 .subst h0;refine⟨by kernel_rfl,λw g vs hs ha=>?_⟩;simp only[RepL,Rep] at ha;obtain⟨val,us,e,⟨A,cap,e1,e2,e3,rfl⟩,rfl⟩:=ha;obtain rfl:vs = #[.slice A 0 cap]:=by cases vs;simp_all
  refine (Tryz.slices_Compact_string_empty A cap w).mono ?_;rintro e w' ⟨rfl,rfl⟩;refine⟨.ret (.own id v 0),h,g,?_,hs,Gh.le.refl g,Fr.refl _ _,λk hk=>.inl hk,rfl,?_⟩
  .exact (by simp only[EndR,Rep];exact⟨A,cap,e1,Nat.zero_le _,e3,rfl⟩)
  .exact (Hi he).symm
 .exact uF he h0 hl
def le_tr (a b c:Bs):a<=b->b<=c->a<=c:=λh1 h2=>List.le_trans h1 h2
def rG {l:List ByteArray}:decide ((Kb (I0 l)).length<l.length)=decide (¬l.Nodup):=by
 have hperm:(bsL (I0 l)).Perm (bsL l):=by
  have:bsL (I0 l)=(bsL l).mergeSort λx y=>decide (x<=y):=by
   unfold I0 sbL bsL;rw[List.map_map];have:(aB ∘ bA)=id:=by funext z;simp[aB,bA]
   rw[this,List.map_id]
  rw[this];exact List.mergeSort_perm _ _
 have hsort:(bsL (I0 l)).Pairwise (· <= ·):=by
  have e:bsL (I0 l)=(bsL l).mergeSort λx y=>decide (x<=y):=by
   unfold I0 sbL bsL;rw[List.map_map];have:(aB ∘ bA)=id:=by funext z;simp[aB,bA]
   rw[this,List.map_id]
  rw[e];have h:=List.pairwise_mergeSort (le:=λa b:Bs=>decide (a<=b)) (λa b c h1 h2=>by simp only[decide_eq_true_eq] at *;exact le_tr _ _ _ h1 h2) (λa b=>by simp only[Bool.or_eq_true,decide_eq_true_eq];exact List.le_total a b) (bsL l);exact h.imp λh=>by simpa using h
 have hnd:l.Nodup↔(bsL (I0 l)).Nodup:=by
  rw[hperm.nodup_iff];unfold bsL;constructor
  .intro h;exact List.pairwise_map.2 (h.imp λhne e=>hne (by have:=congrArg bA e;exact this))
  .intro h;exact (List.pairwise_map.1 h).imp λhne e=>hne (by rw[e])
 have hlen:(bsL (I0 l)).length=l.length:=by rw[hperm.length_eq];simp[bsL]
 rw[Bool.eq_iff_iff,decide_eq_true_iff,decide_eq_true_iff,hnd,<-hlen];show (Lib.compact (bsL (I0 l))).length<_↔_;generalize bsL (I0 l)=L at hsort;have e:(Lib.compact L).length=((List.range L.length).filter (Lib.keeps L.toArray)).length:=by unfold Lib.compact Lib.compactUpTo;rw[List.length_map]
 rw[e];have hr:L.length=(List.range L.length).length:=by simp
 conv=>lhs;rhs;rw[hr]
 rw[List.length_filter_lt_length_iff_exists];have hget : ∀ j (h:j<L.length),L.toArray[j]! = L[j]:=λj h=>by simp[h]
 constructor
 .rintro⟨j,hj,hk⟩ hnd;have hj:=List.mem_range.1 hj;unfold Lib.keeps at hk;simp only[decide_eq_true_eq,not_or,Decidable.not_not] at hk;obtain⟨h0,h1⟩:=hk;rw[hget j hj,hget (j-1) om] at h1;exact List.pairwise_iff_getElem.1 hnd (j-1) j om hj om h1.symm
 .intro hnd;refine Decidable.byContradiction λhne=>hnd (List.pairwise_iff_getElem.2 λi j hi hj hij e=>hne ⟨j,List.mem_range.2 hj,?_⟩);unfold Lib.keeps;simp only[decide_eq_true_eq,not_or,Decidable.not_not];refine⟨by omega,?_⟩;rw[hget j hj,hget (j-1) om];have h1:L[j-1]<=L[j]:=List.pairwise_iff_getElem.1 hsort (j-1) j om hj om;have h2:L[i]<=L[j-1]:=by
   by_cases hh:i=j-1
   .subst hh;exact List.le_refl _
   .exact List.pairwise_iff_getElem.1 hsort i (j-1) hi om om
  rw[<-e] at h1;rw[<-e];exact List.le_antisymm h2 h1
end
section
open Go.Ab Go.RowKit Civ
attribute [local simp] Eb Fi E5 Dn Cp Gw Gv
def k164:=Kx 164 []
def k103:=Ku (none) 103 [.u [[],[],[],[0,1,2],[2],[2],[],[]]]
def G7 (z:List Zon) (k:List Lnk):List ByteArray:=z.map (·.1)++k.map (·.2)
def Qx (z:List Zon) (k:List Lnk):(G7 z k).length=z.length+k.length:=by simp[G7]
def Vt (x:ByteArray):rows strC [x]=[sv x]:=rfl
def names_o {a:List Rul}{q:Nat}(hq:h.length+1=q) (hz:z.length<=20) (hk:k.length<=20):ACalls Tryz.prog 164 [.agg (srcB a z k)] h λx h'=>x=.ret (.own q (G7 z k).length (G7 z k).length)/\h'=h++[.mk 0 72 3 (srcB a z k),.mk (G7 z k).length 9 1 (rows strC (G7 z k))]:=by
 have hnl:=Qx z k;have hkk:=hk;refine tN' k164 λN hn hlt _ hbd=>?_;simp only[tb'] at hbd ⊢;refine wr'<|E' (Bq (cvl lk0 rfl) rfl hl0 ha0) pt1<|mv' lkn pt2<|sn'<|wr'<|mv' lkn pt3<|Am<|B0 (ALe.own0' (st':=1) (ty:=9) gt3 hl1 pt3 ha1)<|Ab<|wr'<|?_;refine fq<|Vw (Aa lk gx gt1)<|Vw (Bf lk)<|ms<|Ah<|?_;refine w_lp (ι:=Nat) (λ(i:Nat)=>[(3,.own (N+1) i i),(11,iv (i:Int)),(5,.any)]++rn' 12 9) (λ(i:Nat)=>[(1,.mk i 9 1 (rows strC ((z.map (·.1)).take i)))]) (λ(i:Nat)=>i<=z.length) (λ(i:Nat)=>z.length-i) (0) (by exact Nat.zero_le _) ?_;rintro i hi1;try simp only[sm',Nat.reduceAdd]
 replace hi1:i<=z.length:=hi1;have htl:((z.map (·.1)).take i).length=i:=by rw[List.length_take,List.length_map];omega
 refine wr'<|Vw (Bm lk lk)<|sn'<|Ab<|?_;refine cd' lk (λhc1=>?_) (λhc1=>?_)
 .have hi:i<z.length:=by omega
  have htk:(z.map (·.1)).take (i+1)=(z.map (·.1)).take i++[z[i].1]:=by rw[List.take_succ_eq_append_getElem (by simpa using hi)];simp
  refine za<|Ab<|Ah<|wr'<|?_;refine V' (Bh lk lk Ho nb ro om ro rfl) pt ?_;refine Vw (Ax lk Ce rfl)<|E' (Bz hl2 ha2) pt<|E' (Ai lk cv gx rfl nb rfl Cc hs2) ptn<|sn'<|Aq<|mw<|fq<|Vw (Aa lk gx gt0)<|E' (Ep (Fq cw) hl3 ha3) pt<|?_;refine E' (C6 (C0 lk (hga hn rfl) rfl Ee nb) lk (hga hn rfl) ((H1 _).trans (by rw[htl])) om rfl hs1) pt ?_;refine mw<|Am<|Aw<|An<|Aq<|?_;refine ad<|mw<|Am<|Az<|?_;refine lU' (i+1) (by (try dsimp only);omega) (by refine zz ?_;exact bk' 2 hn hlt (by rw[htk,Bt,Vt];rfl))
 have hie:i=z.length:=by omega
 subst hie;rw[show (z.map (·.1)).take z.length=z.map (·.1) from List.take_of_length_le (by simp)];refine Bd<|As<|As<|Bp<|An<|Ab<|wr'<|fq<|Vw (Aa lk gx gt2)<|Vw (Bf lk)<|ms<|?_;refine Ah ?_;refine It (ι:=Nat) (λ(j:Nat)=>[(3,.own (N+1) (z.length+j) (z.length+j)),(24,iv (j:Int)),(7,.any)]++rn' 25 9) (λ(j:Nat)=>[(1,.mk (z.length+j) 9 1 (rows strC (z.map (·.1)++(k.map (·.2)).take j)))]) (λ(j:Nat)=>j<=k.length) (λ(j:Nat)=>k.length-j) (0) (by exact Nat.zero_le _) (by try simp only[sm',Nat.reduceAdd];exact ALe.same wA' (by rw[List.take_zero,List.append_nil];rfl)) ?_;rintro j hi2;try simp only[sm',Nat.reduceAdd]
 replace hi2:j<=k.length:=hi2;have htl2:(z.map (·.1)++(k.map (·.2)).take j).length=z.length+j:=by rw[List.length_append,List.length_map,List.length_take,List.length_map];omega
 refine wr'<|Vw (Bm lk lk)<|sn'<|Ab<|?_;refine cd' lk (λhc2=>?_) (λhc2=>?_)
 .have hj:j<k.length:=by omega
  have htk2:(k.map (·.2)).take (j+1)=(k.map (·.2)).take j++[k[j].2]:=by rw[List.take_succ_eq_append_getElem (by simpa using hj)];simp
  refine za<|Ab<|Ah<|wr'<|?_;refine V' (Bh lk lk Da nb ro om ro rfl) pt ?_;refine Vw (Ax lk Ce rfl)<|E' (Bz hl2 ha2) pt<|E' (Ai lk cv gx rfl nb rfl Cc hs2) ptn<|sn'<|Aq<|mw<|fq<|Vw (Aa lk gx gt1)<|E' (Ep (Fq cw) hl3 ha3) pt<|?_;refine E' (C6 (C0 lk (hga hn rfl) rfl Ee nb) lk (hga hn rfl) ((H1 _).trans (by rw[htl2])) om rfl hs1) pt ?_;refine mw<|Am<|Aw<|An<|Aq<|?_;refine ad<|mw<|Am<|Az<|?_;refine lU' (j+1) (by (try dsimp only);omega) (by refine zz ?_;exact bk' 2 hn hlt (by simp only[htk2,Bt,Vt,List.append_assoc];rfl))
 have hje:j=k.length:=by omega
 subst hje;rw[show (k.map (·.2)).take k.length=k.map (·.2) from List.take_of_length_le (by simp)];refine Bd<|As<|As<|Bp<|An<|wm<|mr<|Ad rz<|?_;rw[<-hq,hnl,hn];exact⟨rfl,rfl⟩
def names_q {a:List Rul}(hz:z.length<=20) (hk:k.length<=20):Ac 164 [.agg (srcB a z k)] h (.sl (G7 z k).length 1 false (rows strC (G7 z k))):=by
 have hnl:=Qx z k;have hkk:=hk;refine tW' k164 λN hn hlt _ hbd=>?_;simp only[tb'] at hbd ⊢;refine wr'<|E' (Bq (cvl lk0 rfl) rfl hl0 ha0) pt1<|mv' lkn pt2<|sn'<|wr'<|mv' lkn pt3<|Am<|B0 (ALe.own0' (st':=1) (ty:=9) gt3 hl1 pt3 ha1)<|Ab<|wr'<|?_;refine fq<|Vw (Aa lk gx gt1)<|Vw (Bf lk)<|ms<|Ah<|?_;refine w_lp (ι:=Nat) (λ(i:Nat)=>[(3,.own (N+1) i i),(11,iv (i:Int)),(5,.any)]++rn' 12 9) (λ(i:Nat)=>[(1,.mk i 9 1 (rows strC ((z.map (·.1)).take i)))]) (λ(i:Nat)=>i<=z.length) (λ(i:Nat)=>z.length-i) (0) (by exact Nat.zero_le _) ?_;rintro i hi1;try simp only[sm',Nat.reduceAdd]
 replace hi1:i<=z.length:=hi1;have htl:((z.map (·.1)).take i).length=i:=by rw[List.length_take,List.length_map];omega
 refine wr'<|Vw (Bm lk lk)<|sn'<|Ab<|?_;refine cd' lk (λhc1=>?_) (λhc1=>?_)
 .have hi:i<z.length:=by omega
  have htk:(z.map (·.1)).take (i+1)=(z.map (·.1)).take i++[z[i].1]:=by rw[List.take_succ_eq_append_getElem (by simpa using hi)];simp
  refine za<|Ab<|Ah<|wr'<|?_;refine V' (Bh lk lk Ho nb ro om ro rfl) pt ?_;refine Vw (Ax lk Ce rfl)<|E' (Bz hl2 ha2) pt<|E' (Ai lk cv gx rfl nb rfl Cc hs2) ptn<|sn'<|Aq<|mw<|fq<|Vw (Aa lk gx gt0)<|E' (Ep (Fq cw) hl3 ha3) pt<|?_;refine E' (C6 (C0 lk (hga hn rfl) rfl Ee nb) lk (hga hn rfl) ((H1 _).trans (by rw[htl])) om rfl hs1) pt ?_;refine mw<|Am<|Aw<|An<|Aq<|?_;refine ad<|mw<|Am<|Az<|?_;refine lU' (i+1) (by (try dsimp only);omega) (by refine zz ?_;exact bk' 2 hn hlt (by rw[htk,Bt,Vt];rfl))
 have hie:i=z.length:=by omega
 subst hie;rw[show (z.map (·.1)).take z.length=z.map (·.1) from List.take_of_length_le (by simp)];refine Bd<|As<|As<|Bp<|An<|Ab<|wr'<|fq<|Vw (Aa lk gx gt2)<|Vw (Bf lk)<|ms<|?_;refine Ah ?_;refine It (ι:=Nat) (λ(j:Nat)=>[(3,.own (N+1) (z.length+j) (z.length+j)),(24,iv (j:Int)),(7,.any)]++rn' 25 9) (λ(j:Nat)=>[(1,.mk (z.length+j) 9 1 (rows strC (z.map (·.1)++(k.map (·.2)).take j)))]) (λ(j:Nat)=>j<=k.length) (λ(j:Nat)=>k.length-j) (0) (by exact Nat.zero_le _) (by try simp only[sm',Nat.reduceAdd];exact ALe.same wA' (by rw[List.take_zero,List.append_nil];rfl)) ?_;rintro j hi2;try simp only[sm',Nat.reduceAdd]
 replace hi2:j<=k.length:=hi2;have htl2:(z.map (·.1)++(k.map (·.2)).take j).length=z.length+j:=by rw[List.length_append,List.length_map,List.length_take,List.length_map];omega
 refine wr'<|Vw (Bm lk lk)<|sn'<|Ab<|?_;refine cd' lk (λhc2=>?_) (λhc2=>?_)
 .have hj:j<k.length:=by omega
  have htk2:(k.map (·.2)).take (j+1)=(k.map (·.2)).take j++[k[j].2]:=by rw[List.take_succ_eq_append_getElem (by simpa using hj)];simp
  refine za<|Ab<|Ah<|wr'<|?_;refine V' (Bh lk lk Da nb ro om ro rfl) pt ?_;refine Vw (Ax lk Ce rfl)<|E' (Bz hl2 ha2) pt<|E' (Ai lk cv gx rfl nb rfl Cc hs2) ptn<|sn'<|Aq<|mw<|fq<|Vw (Aa lk gx gt1)<|E' (Ep (Fq cw) hl3 ha3) pt<|?_;refine E' (C6 (C0 lk (hga hn rfl) rfl Ee nb) lk (hga hn rfl) ((H1 _).trans (by rw[htl2])) om rfl hs1) pt ?_;refine mw<|Am<|Aw<|An<|Aq<|?_;refine ad<|mw<|Am<|Az<|?_;refine lU' (j+1) (by (try dsimp only);omega) (by refine zz ?_;exact bk' 2 hn hlt (by simp only[htk2,Bt,Vt,List.append_assoc];rfl))
 have hje:j=k.length:=by omega
 subst hje;rw[show (k.map (·.2)).take k.length=k.map (·.2) from List.take_of_length_le (by simp)];refine Bd<|As<|As<|Bp<|?_;refine B0 (ALe.iceR (hga hn rfl) gt3 (List.take_of_length_le (by rw[H1];simp)) (by rw[H1];simp) pt3 hs1) ?_;refine wm<|mr<|Ad rz<|rtW'<|?_;rw[hnl];exact Wk.full
def twice_a {a:List Rul}(hz:z.length<=20) (hk:k.length<=20):Ac 103 [.agg (srcB a z k)] h (bv (decide (¬(G7 z k).Nodup))):=by
 have hnl:=Qx z k;have hsl:=rR (G7 z k);refine tU' k103 λN hn _ _ hbd=>?_;simp only[tb'] at hbd ⊢;refine wr'<|E' (Bq cv rfl hl0 ha0) pt<|mw<|Am<|?_;refine B0 (ALe.icePtr gx gt1 (by simp) pt1 hs0) ?_;refine wr'<|Vw (Ax lk Cn rfl)<|?_;refine s_callh mp ((names_o (q:=N+2) (by rw[hl1 hn]) hz hk).mono (λx h' hh=>⟨hh.1,hh.2.trans (show _=h++[_,_,_] from List.append_assoc _ _ _)⟩)) pt ?_;refine ms<|wm<|?_;refine H2 mp (fL gx om) hs2 pt ?_;refine sn'<|Ab<|bT<|uf vm<|?_;refine bW mp gx (λhU hUe=>(by have:=jN (h:=hU) (l:=I0 (G7 z k)) hUe om;rwa [hsl] at this)) nh hs2 pt ?_;refine uf (Ej lk)<|uf (Ax lk Cn rfl)<|?_;refine nS mp (λhU=>names_q hz hk) pt ?_;refine uf (Bf lk)<|uf (Bm lk lk)<|uf vm<|u_nil<|An<|C4<|Ad rz<|rT'<|?_;exact bvx (by rw[<-rG];simp)
end
section
open Go.Ab Go.RowKit Civ
attribute [local simp] Eb Fi E5 Dn Cp Gw Ix
def c58p:AC:=(.seq (.reg [⟨(some 1),none,(.box 72 3 (.tmp 0))⟩,⟨(some 2),none,(.new 34 1 [(iv 0)])⟩]) (.seq (.reg [⟨(some 7),none,(.load true 3 (.tmp 1))⟩,⟨(some 8),none,(.call (.func 102) [(.tmp 7)])⟩,⟨(some 3),none,(.mv (.tmp 8))⟩]) (.seq (.block 0 (.seq (.reg [⟨(some 10),none,(.mv (.tmp 3))⟩,⟨(some 11),none,(.bin .neq (.tmp 10) (.const (.int .i64 0)))⟩,⟨(some 9),none,(.mv (.tmp 11))⟩]) (.cond (.tmp 9) (.seq (.reg [⟨(some 12),none,(.mv (.tmp 3))⟩,⟨none,none,(.store 1 (.tmp 2) (.tmp 12))⟩]) .ret) (.seq (.reg [⟨(some 14),none,(.load true 3 (.tmp 1))⟩,⟨(some 15),none,(.call (.func 103) [(.tmp 14)])⟩,⟨(some 13),none,(.mv (.tmp 15))⟩]) (.cond (.tmp 13) (.seq (.reg [⟨none,none,(.store 1 (.tmp 2) (.const (.int .i64 6)))⟩]) .ret) (.seq (.reg [⟨(some 17),none,(.load true 3 (.tmp 1))⟩,⟨(some 18),none,(.call (.func 104) [(.tmp 17)])⟩,⟨(some 16),none,(.mv (.tmp 18))⟩]) (.cond (.tmp 16) (.seq (.reg [⟨none,none,(.store 1 (.tmp 2) (.const (.int .i64 5)))⟩]) .ret) .skip))))))) (.seq (.reg [⟨(some 19),none,(.load true 3 (.tmp 1))⟩,⟨(some 20),none,(.call (.func 105) [(.tmp 19)])⟩]) .skip))))
def c58a:AC:=(.reg [⟨(some 4),none,(.new 166 10 [(iv 0),(.v (.string ⟨#[]⟩)),(iv 0),(.v (.string ⟨#[]⟩)),(.v (.bool false)),(iv 0),(iv 0),(iv 0),(iv 0),(iv 0)])⟩,⟨none,none,(.store 10 (.tmp 4) (.tmp 21))⟩])
def c58b:AC:=(.block 2 (.seq (.seq (.reg [⟨(some 22),none,(.fa 1 (.tmp 4))⟩,⟨(some 23),none,(.load false 1 (.tmp 22))⟩,⟨(some 24),none,(.bin .eql (.tmp 23) (.const (.string ⟨#[]⟩)))⟩]) (.cond (.tmp 24) (.exit 2) .skip)) (.seq (.reg [⟨(some 26),none,(.fa 0 (.tmp 1))⟩,⟨(some 27),none,(.load false 1 (.tmp 26))⟩,⟨(some 28),none,(.fa 1 (.tmp 4))⟩,⟨(some 29),none,(.load false 1 (.tmp 28))⟩,⟨(some 30),none,(.fa 0 (.tmp 4))⟩,⟨(some 31),none,(.load false 1 (.tmp 30))⟩,⟨(some 32),none,(.call (.func 106) [(.tmp 27),(.tmp 29),(.tmp 31)])⟩,⟨(some 25),none,(.mv (.tmp 32))⟩,⟨(some 33),none,(.ext (.tmp 25) 0)⟩,⟨(some 34),none,(.ext (.tmp 25) 1)⟩,⟨(some 5),none,(.mv (.tmp 33))⟩,⟨(some 6),none,(.mv (.tmp 34))⟩]) (.seq (.reg [⟨(some 35),none,(.mv (.tmp 6))⟩,⟨(some 36),none,(.bin .neq (.tmp 35) (.const (.int .i64 0)))⟩]) (.cond (.tmp 36) (.seq (.reg [⟨(some 37),none,(.mv (.tmp 6))⟩,⟨none,none,(.store 1 (.tmp 2) (.tmp 37))⟩]) .ret) .skip)))))
def c58q:AC:=(.seq (.reg [⟨(some 38),none,(.fa 1 (.tmp 1))⟩,⟨(some 39),none,(.load false 1 (.tmp 38))⟩,⟨(some 40),none,(.call (.func 107) [(.tmp 39),(.func 108)])⟩]) (.seq (.cond (.tmp 40) (.seq (.reg [⟨none,none,(.store 1 (.tmp 2) (.const (.int .i64 4)))⟩]) .ret) .skip) (.seq (.reg [⟨none,none,(.store 1 (.tmp 2) (.const (.int .i64 0)))⟩]) (.seq .ret .skip))))
abbrev fr58:AFR:=⟨[(.reg [⟨(some 1),none,(.box 72 3 (.tmp 0))⟩,⟨(some 2),none,(.new 34 1 [(iv 0)])⟩]),(.reg [⟨(some 7),none,(.load true 3 (.tmp 1))⟩,⟨(some 8),none,(.call (.func 102) [(.tmp 7)])⟩,⟨(some 3),none,(.mv (.tmp 8))⟩]),(.block 0 (.seq (.reg [⟨(some 10),none,(.mv (.tmp 3))⟩,⟨(some 11),none,(.bin .neq (.tmp 10) (.const (.int .i64 0)))⟩,⟨(some 9),none,(.mv (.tmp 11))⟩]) (.cond (.tmp 9) (.seq (.reg [⟨(some 12),none,(.mv (.tmp 3))⟩,⟨none,none,(.store 1 (.tmp 2) (.tmp 12))⟩]) .ret) (.seq (.reg [⟨(some 14),none,(.load true 3 (.tmp 1))⟩,⟨(some 15),none,(.call (.func 103) [(.tmp 14)])⟩,⟨(some 13),none,(.mv (.tmp 15))⟩]) (.cond (.tmp 13) (.seq (.reg [⟨none,none,(.store 1 (.tmp 2) (.const (.int .i64 6)))⟩]) .ret) (.seq (.reg [⟨(some 17),none,(.load true 3 (.tmp 1))⟩,⟨(some 18),none,(.call (.func 104) [(.tmp 17)])⟩,⟨(some 16),none,(.mv (.tmp 18))⟩]) (.cond (.tmp 16) (.seq (.reg [⟨none,none,(.store 1 (.tmp 2) (.const (.int .i64 5)))⟩]) .ret) .skip))))))),(.reg [⟨(some 19),none,(.load true 3 (.tmp 1))⟩,⟨(some 20),none,(.call (.func 105) [(.tmp 19)])⟩])],(.tmp 20),#[21],c58a,c58b,c58q,[(.cell 2 false 1)],41⟩
def k58:O5 Tryz.prog 58=some fr58:=by kernel_rfl
def errX (a:List Rul) (x:Era):Int:=if xRl x=⟨#[]⟩ then 0 else (Cv a (xRl x) (xSh x)).2
def Dh (s:Src):Int :=
 if Gx s≠0 then Gx s else if ¬(G7 s.2.1 s.2.2).Nodup then 6 else if Om s=true then 5
 else if Dc (errX s.1) (Gq s.2.1)≠0 then Dc (errX s.1) (Gq s.2.1)
 else if (s.2.1.any λz=>!risL (By z.2))=true then 4 else 0
def U8 {p:Era->Int}{l:List Era}:Dc p l=match l.find? (λx=>decide (p x≠0)) with
  | none=>0
  | some x=>p x:=by
 induction l with
 | nil=>rfl
 | cons x l ih =>
  rw[Dc,List.find?_cons]
  by_cases h:p x≠0
  .rw[if_pos h,decide_eq_true h]
  rw[if_neg h,decide_eq_false h];exact ih
def Hj (h:Gx s=0):s.1.length<=40/\s.2.1.length<=20/\s.2.2.length<=20/\(∀ z∈s.2.1,z.2.length<=8)/\(∀ r∈s.1,Dd r=0)/\(∀ z∈s.2.1,N3 z=0) /\ ∀ l∈s.2.2,On l=0:=by
 unfold Gx at h;split at h
 .cases h
 rename_i h1;split at h
 .rename_i h2;exact absurd h h2
 rename_i h2;split at h
 .rename_i h3;exact absurd h h3
 rename_i h3;have h1:Uw s=false:=by simpa using h1
 unfold Uw at h1;simp only[Bool.or_eq_false_iff,decide_eq_false_iff_not,List.any_eq_false,decide_eq_true_eq] at h1;exact⟨by omega,by omega,by omega,λz hz=>by have:=h1.1.1.1 z hz;omega,G9 (Decidable.of_not_not h2),G9 (Decidable.of_not_not h3),G9 h⟩
def Lb (h:Gx s=0) {z:Zon}(hz:z∈s.2.1):okZ z.2:=by
 obtain⟨_,_,_,h4,_,h6,_⟩:=Hj h;exact okZ_of (h6 z hz) (h4 z hz)
abbrev chkT (N:Nat) (a:List Rul) (z:List Zon) (k:List Lnk) (x:AV):List AV:=[.any,.rp (srcB a z k),.ptr (N+1) 0 0,.any,.any,.any,.any,.any,.any,.any,.any,.any,.any,.any,.any,.any,.any,.any,.any,.any,.clo (.func 172) [.rp (srcB a z k)],x,.any,.any,.any,.any,.any,.any,.any,.any,.any,.any,.any,.any,.any,.any,.any,.any,.any,.any,.any]
def chkT_lt {a:List Rul}:AV.ltL (N+4) (chkT N a z k .any)=true:=by simp[AV.ltL,AV.lt,Eb,E5,Dn]
def Vb {lp:Nat}{a:List Rul}(hn:h.length=N) (hlt : ∀ e∈h,e.lt N=true) (ha:a.length<=9223372036854775807) (hok:okRs a)
  (hY:Tc Tryz.prog fr58 (N+2+1) lp rdy bsy fin (chkT N a z k .any) vs) {x:Era} {e f:Ent} :
  AYield Tryz.prog lp [.agg (eraC x)] (ergJ h D lp 34 rdy (chkT N a z k .any) vs (iv 0) e f) λr h''=>r=.ret (.v (.bool (!decide (errX a x≠0))))/\h''=ergJ h D lp 34 (if errX a x≠0 then fin else rdy) (chkT N a z k .any) vs (iv (errX a x)) e f:=by
 refine y_go hY (hga (k:=3) hn rfl) rfl λn0 hn0 hlt0 q1 q2 q3=>?_;have hm:n0=N+6:=by rw[<-hn0];simp[hn]
 have hE:=hlt0 e (by simp);have hF:=hlt0 f (by simp);have hR:=hlt0 (.raw lp rdy (chkT N a z k .any) vs) (by simp);show aw _ _ c58a _ _ _;show aw _ _ _ _ (chkT N a z k (.agg (eraC x))) (h++[.gone,.mk 0 34 1 [iv 0],mkD D,.raw lp rdy (chkT N a z k .any) vs,e,f]);refine Aq<|E' (Bz hl6 ha6) pt<|E' (Ai lk cv gx rfl nb rfl Gc hs6) ptn<|Am<|?_;refine nD (i:=N+3) gx hs3 λn1 hn1 hlt1=>?_;have hro : ∀ o:Obj,Ent.lt n0 (.raw lp o (chkT N a z k .any) vs)=true:=λo=>by simpa [Ent.lt] using hR
 have fin2 : ∀ (n:Int) (b:Bool) (o:Obj) (E:Ent),n=errX a x->b=!decide (errX a x≠0)->o=(if errX a x≠0 then fin else rdy) -> ∃ y z',h++[.gone,.mk 0 34 1 [iv n],mkD D,.raw lp o (chkT N a z k .any) vs,e,f,E]=y++z'/\y.length=n0/\(∀ e∈y,e.lt n0=true)/\(AE.ret (.v (.bool b))).lt n0=true/\AE.ret (.v (.bool b))=.ret (.v (.bool (!decide (errX a x≠0))))/\y=ergJ h D lp 34 (if errX a x≠0 then fin else rdy) (chkT N a z k .any) vs (iv (errX a x)) e f:=by
  rintro n b o E rfl rfl rfl;refine⟨_,_,app61,by rw[<-hn0];simp,λy hy=>?_,rfl,rfl,rfl⟩;rcases List.mem_append.1 hy with hy | hy
  .exact ltw om hlt y hy
  simp only[List.mem_cons,List.not_mem_nil,or_false] at hy;rcases hy with rfl | rfl | rfl | rfl | rfl | rfl
  .simp[Ent.lt]
  .simp[Ent.lt,AV.ltL,AV.lt]
  .simp[Ent.lt,AV.ltL]
  .exact hro _
  .exact hE
  exact hF
 show aw _ _ c58b _ _ _;refine Ah<|Ab<|wr'<|fq<|Vw (Aa lk gx gt1)<|Vw (J6 lk lks)<|sn'<|?_;refine cd' lk (λhc1=>?_) (λhc1=>?_)
 .have hP:errX a x=0:=if_pos hc1;refine Bd<|As<|Bp<|?_;exact Ta (i:=N+3) (hga hn rfl) hs3 (fin2 0 true rdy _ hP.symm (by rw[hP];rfl) (by rw[hP];rfl))
 have hP:errX a x=(Cv a (xRl x) (xSh x)).2:=if_neg hc1;refine za<|wr'<|Vw (Cj lk dp0)<|Vw (Ba lk gt)<|fq<|Vw (Aa lk gx gt1)<|fq<|Vw (Aa lk gx gt0)<|Af mp (nZ hok ha) pt<|mw<|Vw (B7 lk gt)<|Vw (B7 lk gt)<|?_;refine mw<|ms<|wm<|Vw (Ca lk lki)<|sn'<|?_;refine cd' lk (λhc2=>?_) (λhc2=>?_)
 .have hP2:errX a x≠0:=by rw[hP];exact hc2
  refine wm<|E' (Ai lk cv gx rfl nb rfl Ct hs1) ptn<|sr<|Au<|?_;refine jV (i:=N+3) (hga hn rfl) hs3 (fin2 _ false fin _ hP.symm (by rw[decide_eq_true hP2];rfl) (by rw[if_pos hP2]))
 have hP2:errX a x=0:=by rw[hP];exact Decidable.of_not_not hc2
 refine Be<|Aw<|?_;exact Ta (i:=N+3) (hga hn rfl) hs3 (fin2 0 true rdy _ hP2.symm (by rw[hP2];rfl) (by rw[hP2];rfl))
def nA {h:AH}{lp N D:Nat}{rdy bsy fin:Obj}{a:List Rul}{z:List Zon}{k:List Lnk}{vs:List Value}(hn:h.length=N) (hlt : ∀ e∈h,e.lt N=true) (hok:okRs a) (hc:Gx (a,z,k)=0)
    (hY:Tc Tryz.prog fr58 (N+2+1) lp rdy bsy fin (chkT N a z k .any) vs) (hnd:(G7 z k).Nodup) (hms:Om (a,z,k)=false) {R:AE->AH->Prop} (hR:R=λx h' => ∃ z',h'=h++z'/\x.lt N=true/\x=.ret (iv (Dh (a,z,k)))) :
    ACalls Tryz.prog 172 (.v (.func (.yield lp) #[] #[])::[.rp (srcB a z k)]) (ergH h D lp 34 rdy (chkT N a z k .any) vs (iv 0)) λr h3=>(∃ c,r=.ret c) /\
      ((h3[N+2+1]?=some (.raw lp rdy (chkT N a z k .any) vs) /\ ∀ n0,(h3.set (N+2+1) .gone).length=n0->(∀ e∈h3.set (N+2+1) .gone,e.lt n0=true)->aw Tryz.prog n0 fr58.post (Jz fr58.res (N+2) D R) (chkT N a z k .any) (h3.set (N+2+1) .gone)) \/
       (h3[N+2+1]?=some (.raw lp fin (chkT N a z k .any) vs)/\Jz fr58.res (N+2) D R .ret (chkT N a z k .any) (h3.set (N+2+1) .gone))):=by
  obtain⟨q1,q2,q3,q4,q5,q6,q7⟩:=Hj hc;simp only at q1 q2 q3 q4 q5 q6 q7;have hZ:Dh (a,z,k)=if Dc (errX a) (Gq z)≠0 then Dc (errX a) (Gq z) else if (z.any λz=>!risL (By z.2))=true then 4 else 0:=by
    unfold Dh;rw[if_neg (by rw[hc];simp),if_neg (by simpa using hnd),if_neg (by rw[hms];simp)]
  refine (pU (h:=ergH h D lp 34 rdy (chkT N a z k .any) vs (iv 0)) (p:=λx=>decide (errX a x≠0)) (hS:=λx=>ergH h D lp 34 fin (chkT N a z k .any) vs (iv (errX a x))) q2 q4 (λ_=>(hl4 hn).trans (hl4 hn).symm) (λ_=>by rw[hl4 hn];exact pS hlt chkT_lt rfl) (λx _ e f hp=>?_) (λx _ e f hp=>?_)).mono ?_
  . have hp':errX a x=0:=by simpa using hp
    have:=Vb (e:=e) (f:=f) (D:=D) (x:=x) hn hlt om hok hY;rw[hp'] at this;rw[P9];exact this
  . have hp':errX a x≠0:=by simpa using hp
    have:=Vb (e:=e) (f:=f) (D:=D) (x:=x) hn hlt om hok hY;rw[if_pos hp',decide_eq_true hp'] at this;rw[P9,P9];exact this
  rintro x h3 ⟨rfl,rfl⟩;refine⟨⟨_,rfl⟩,?_⟩;rw[U8] at hZ;subst hR;cases hf:(Gq z).find? (λx=>decide (errX a x≠0)) with
  | none =>
    rw[hf] at hZ
    simp only[ne_eq,not_true_eq_false,if_false] at hZ
    refine .inl ⟨hga (k:=3) hn rfl,λn0 hn0 _=>?_⟩
    have hs:(ergH h D lp 34 rdy (chkT N a z k .any) vs (iv 0)).set (N+2+1) .gone=h++[.gone,.mk 0 34 1 [iv 0],mkD D,.gone]:=hs3 hn
    show aw _ _ _ _ _ ((ergH h D lp 34 rdy (chkT N a z k .any) vs (iv 0)).set (N+2+1) .gone)
    rw[hs]
    show aw _ _ c58q _ _ _
    refine wr'<|Vw (Cj lk dp1)<|Vw (Ba lk gt)<|?_
    refine Af mp (tU (p:=λz:Zon=>!risL (By z.2)) (λc hc' _=>check1_a (Lb (s:=(a,z,k)) hc hc')) om) pt ?_
    refine sn'<|Ab<|?_
    refine Bg lk (λhc1=>?_) (λhc1=>?_)
    . rw[if_pos hc1] at hZ
      refine wr'<|E' (Ai lk (cvl lki rfl) gx rfl nb rfl Ct hs1) ptn<|sr<|Ag<|?_
      refine Jy gx hs2 (rs1 (rr_c gt gx (ld0 gt))) ?_
      refine rT' ?_
      rw[hZ]
    rw[if_neg (by rw[hc1];simp)] at hZ
    refine za<|wr'<|E' (Ai lk (cvl lki rfl) gx rfl nb rfl Ct hs1) ptn<|sn'<|Ab<|C4<|Ag<|?_
    refine Jy gx hs2 (rs1 (rr_c gt gx (ld0 gt))) ?_
    refine rT' ?_
    rw[hZ]
  | some x =>
    rw[hf] at hZ
    have hx:errX a x≠0:=by have:=List.find?_some hf;simpa using this
    simp only at hZ
    rw[if_pos hx] at hZ
    refine .inr ⟨hga (k:=3) hn rfl,?_⟩
    have hs:(ergH h D lp 34 fin (chkT N a z k .any) vs (iv (errX a x))).set (N+2+1) .gone=h++[.gone,.mk 0 34 1 [iv (errX a x)],mkD D,.gone]:=hs3 hn
    show Jz _ _ _ _ _ _ ((ergH h D lp 34 fin (chkT N a z k .any) vs (iv (errX a x))).set (N+2+1) .gone)
    rw[hs]
    exact Jy (hga (k:=2) hn rfl) hs2 (rs1 (rr_c gt (hga (k:=1) hn rfl) (ld0 gt))) (rT' (by rw[hZ]))
def V3 (h:Sb s):okRs s.1:=λr hr=>h.1 r hr
def eU {a:List Rul}(hok:Sb (a,z,k)):Ac 58 [.agg (srcB a z k)] h (iv (Dh (a,z,k))):=by
 refine tR' k58 λN hn hlt _ hbd=>?_;show aw _ _ c58p _ _ _;show aw _ _ _ _ [.agg (srcB a z k),.any,.any,.any,.any,.any,.any,.any,.any,.any,.any,.any,.any,.any,.any,.any,.any,.any,.any,.any,.any,.any,.any,.any,.any,.any,.any,.any,.any,.any,.any,.any,.any,.any,.any,.any,.any,.any,.any,.any,.any] _;refine wr'<|E' (Bq cv rfl hl0 ha0) pt<|E' (Bz hl1 ha1) pt<|Am<|?_;refine B0 (ALe.icePtr gx gt1 (by simp) pt1 hs0) ?_;refine wr'<|Vw (Ax lk Cn rfl)<|Af mp (scheck_b hok) pt<|ms<|Ab<|Ah<|wm<|Vw (Ca lk lki)<|mw<|?_;refine sn' ?_;refine cd' lk (λhc1=>?_) (λhc1=>?_)
 .have hZ:Dh (a,z,k)=Gx (a,z,k):=if_pos hc1;refine wm<|E' (Ai lk cv gx rfl nb rfl Ct hs1) ptn<|sr<|Au<|Ag<|?_;refine R5 (rs1 (rr_c gt gx (ld0 gt))) ?_;refine rT' ?_;rw[hZ]
 have hc:Gx (a,z,k)=0:=Decidable.of_not_not hc1;obtain⟨q1,q2,q3,q4,q5,q6,q7⟩:=Hj hc;simp only at q1 q2 q3 q4 q5 q6 q7;refine wr'<|Vw (Ax lk Cn rfl)<|Af mp (twice_a q2 q3) pt<|ms<|?_;refine Bg lk (λhc2=>?_) (λhc2=>?_)
 .have hZ:Dh (a,z,k)=6:=by unfold Dh;rw[if_neg hc1,if_pos (of_decide_eq_true hc2)]
  refine wr'<|E' (Ai lk (cvl lki rfl) gx rfl nb rfl Ct hs1) ptn<|sr<|Au<|Ag<|?_;refine R5 (rs1 (rr_c gt gx (ld0 gt))) ?_;refine rT' ?_;rw[hZ]
 have hnd:(G7 z k).Nodup:=Decidable.of_not_not (of_decide_eq_false hc2);refine wr'<|Vw (Ax lk Cn rfl)<|?_;refine Af mp (tC om q2 q4 om) pt ?_;refine ms<|?_;refine Bg lk (λhc3=>?_) (λhc3=>?_)
 .have hZ:Dh (a,z,k)=5:=by unfold Dh;rw[if_neg hc1,if_neg (by simpa using hnd),if_pos hc3]
  refine wr'<|E' (Ai lk (cvl lki rfl) gx rfl nb rfl Ct hs1) ptn<|sr<|Au<|Ag<|?_;refine R5 (rs1 (rr_c gt gx (ld0 gt))) ?_;refine rT' ?_;rw[hZ]
 refine Be<|Aw<|An<|wr'<|Vw (Ax lk Cn rfl)<|Af mp (eras_a) pt<|sn'<|Be<|?_;refine lO (T1:=chkT N a z k .any) (ALe.same wA' rfl) rfl hl2 λlp D rdy bsy fin vs hle hlT hY=>?_;have hgo:=nA (D:=D) hn hlt (V3 hok) hc hY hnd hc3 rfl;rw[show (h++[Ent.gone,Ent.mk 0 34 1 [iv 0]]++[mkD D,Ent.raw lp rdy (chkT N a z k .any) vs]:AH)=ergH h D lp 34 rdy (chkT N a z k .any) vs (iv 0) by simp];exact hgo
end
section
open Go.Ab Go.RowKit Civ
attribute [local simp] Eb Fi E5 Dn Cp Gw Ix
section
def Vf {τ:Operand->AV}:Cm τ [] [(.v (.string ⟨#[]⟩)),(.sl 0 0 true [])]=some [(.v (.string ⟨#[]⟩)),(.sl 0 0 true [])]:=rfl
end
def k136:=Kx 136 []
def k72:=Kx 72 []
def k137:=Kx 137 []
def zonO:Zon:=(⟨#[]⟩,[])
def tgtV (s:Src) (nm:ByteArray):ByteArray:=match s.2.2[s.2.2.findIdx λl=>decide (l.2=nm)]? with
 | some l=>l.1
 | none=>nm
def Fg (s:Src) (nm:ByteArray):Zon×Int :=
 if Dh s≠0 then (zonO,Dh s) else match s.2.1[s.2.1.findIdx λz=>decide (z.1=tgtV s nm)]? with
 | some z=>(z,0)
 | none=>(zonO,5)
def mL {nm:ByteArray}(h0:Dh s=0) (h:¬s.2.1.findIdx (λz=>decide (z.1=tgtV s nm))<s.2.1.length):Fg s nm=(zonO,5):=by
 unfold Fg;rw[if_neg (by simp[h0]),List.getElem?_eq_none (Nat.le_of_not_lt h)]
def mK {nm:ByteArray}(h0:Dh s=0) (h:s.2.1.findIdx (λz=>decide (z.1=tgtV s nm))<s.2.1.length):Fg s nm=(s.2.1[s.2.1.findIdx λz=>decide (z.1=tgtV s nm)],0):=by
 unfold Fg;rw[if_neg (by simp[h0]),List.getElem?_eq_getElem h]
def nM {e:AV}:Wk (.tup [.agg [sv ⟨#[]⟩,.sl 0 0 true []],e]) (.tup [.agg (zonC zonO),e]):=Wk.tup (wkw (Wk.agg (wk1 rfl (wkw Wk.nilF wk0))) (wk1 rfl wk0))
def find_a {a:List Rul}{nm:ByteArray}(hok:Sb (a,z,k)):Ac 136 [.agg (srcB a z k),sv nm] h (.tup [.agg (zonC (Fg (a,z,k) nm).1),iv (Fg (a,z,k) nm).2]):=by
 refine tW' k136 λN hn _ _ hbd=>?_;simp only[tb'] at hbd ⊢;refine wr'<|E' (Bq cv rfl hl0 ha0) pt<|E' (Bz hl1 ha1) pt<|ms<|Ab<|wr'<|Vw (Ak lk gx Ap rfl)<|Af mp (eU hok) pt<|mw<|Am<|?_;refine An<|wm<|Vw (Ca lk lki)<|sn'<|?_;refine cd' lk (λhc1=>?_) (λhc1=>?_)
 .have hF:Fg (a,z,k) nm=(zonO,Dh (a,z,k)):=if_pos hc1;refine wr'<|Vw (Bb Vf)<|mw<|E' (Ai lk cv gx rfl nb rfl Cc hs1) ptn<|mr<|Ag<|Ad (rsn (rm1 (rr_c gt gx (ld1 B1 rfl)) (rm1 (rr_t gt) rm0)))<|rtW'<|?_;rw[hF];exact nM
 have hz0:Dh (a,z,k)=0:=Decidable.of_not_not hc1;have hce:Gx (a,z,k)=0:=by unfold Dh at hz0;split at hz0;(rename_i hh;exact absurd hz0 hh);(rename_i hh;exact Decidable.of_not_not hh)
 obtain⟨q1,q2,q3,q4,q5,q6,q7⟩:=Hj hce;simp only at q1 q2 q3 q4 q5 q6 q7;refine za<|wr'<|Vw (Ak lk gx Ap rfl)<|mw<|?_;refine Af mp (look_a om om) pt ?_;refine ms<|Ab<|wm<|Vw (Bm lk lki)<|sn'<|?_;refine cd' lk (λhc2=>?_) (λhc2=>?_)
 .have hlt':¬z.findIdx (λy:Zon=>decide (y.1=tgtV (a,z,k) nm))<z.length:=λhh=>by have:aK (a,z,k) nm=((z.findIdx λy:Zon=>decide (y.1=tgtV (a,z,k) nm):Nat):Int):=if_pos hh;omega
  have hF:Fg (a,z,k) nm=(zonO,5):=mL hz0 hlt';refine wr'<|Vw (Bb Vf)<|E' (Ai lk cv gx rfl nb rfl Cc hs1) ptn<|mr<|Ag<|Ad (rsn (rm1 (rr_c gt gx (ld1 B1 rfl)) (rm1 (rr_t gt) rm0)))<|rtW'<|?_;rw[hF];exact nM
 have hlt':z.findIdx (λy:Zon=>decide (y.1=tgtV (a,z,k) nm))<z.length:=Decidable.byContradiction λhh=>by have:aK (a,z,k) nm = -1:=if_neg hh;omega
 have hix:aK (a,z,k) nm=((z.findIdx λy:Zon=>decide (y.1=tgtV (a,z,k) nm):Nat):Int):=if_pos hlt';have hF:Fg (a,z,k) nm=(z[z.findIdx λy:Zon=>decide (y.1=tgtV (a,z,k) nm)],0):=mK hz0 hlt';refine za<|wr'<|fq<|Vw (Aa lk gx gt1)<|mw<|?_;refine V' (Bh lk lk (λ_=>rfl) nb ro om ro rfl) pt ?_;refine Vw (Ax lk Ce rfl)<|E' (Ai lk cv gx rfl nb rfl Cc hs1) ptn<|mr<|Ad (rsn (rm1 (rr_c gt gx (ld1 B1 rfl)) (rm1 (rr_t gt) rm0)))<|rtW'<|?_;rw[hF];exact Wk.refl _
def O6 (h:Dh s=0):Gx s=0:=by
 unfold Dh at h;split at h
 .rename_i hh;exact absurd h hh
 rename_i hh;exact Decidable.of_not_not hh
def pN {nm:ByteArray}(h:(Fg s nm).2=0):Dh s=0/\(Fg s nm).1∈s.2.1/\(Fg s nm).1.1=tgtV s nm:=by
 unfold Fg at h ⊢;split at h
 .rename_i h1;exact absurd h h1
 rename_i h1;rw[if_neg h1];split at h
 .rename_i z hz;refine⟨Decidable.of_not_not h1,List.mem_of_getElem? hz,?_⟩;obtain⟨hlt,rfl⟩:=List.getElem?_eq_some_iff.1 hz;have:=List.findIdx_getElem (w:=hlt);simpa using this
 cases h
def find_bad {nm:ByteArray}(h:(Fg s nm).2≠0):(Fg s nm).1=zonO:=by
 unfold Fg at h ⊢;split
 .rfl
 rename_i h1;rw[if_neg h1] at h;split
 .rename_i z hz;rw[hz] at h;exact absurd rfl h
 rfl
def Rc (h:Dh s=0):Gx s=0/\(G7 s.2.1 s.2.2).Nodup/\Om s=false/\(∀ x∈Gq s.2.1,errX s.1 x=0) /\ ∀ z∈s.2.1,risL (By z.2)=true:=by
 have hE:=O6 h;unfold Dh at h;rw[if_neg (by simp[hE])] at h;split at h
 .cases h
 rename_i h1;split at h
 .cases h
 rename_i h2;split at h
 .rename_i h3;exact absurd h h3
 rename_i h3;split at h
 .cases h
 rename_i h4;refine⟨hE,Decidable.of_not_not h1,by simpa using h2,G9 (Decidable.of_not_not h3),λz hz=>?_⟩;simp only[List.any_eq_true,not_exists,not_and,Bool.not_eq_true',Bool.not_eq_false] at h4;exact h4 z hz
def cloneE_a {l:List Era}{full:Bool}(hl:l.length<=300000000000):ACalls Tryz.prog 137 [.sl l.length 10 full (rows eraC l)] h λr h' => ∃ v,r=.ret (.own h.length v l.length)/\h'=h++[.mk v 166 10 (rows eraC l)]:=by
 refine tN' k137 λN hn _ _ hbd=>?_;simp only[tb'] at hbd ⊢;refine wk'<|Ab<|wm<|?_;refine s_eqn lk (λ_=>pt) (λbn3 hbn3=>?_);refine sn' ?_;refine cd' lk (λhc1=>?_) (λhc1=>?_)
 .refine wr'<|mv' lkn pt2<|Am<|B0 (ALe.own0 (d:=2) (st':=10) (ty:=166) rfl)<|C4<|Ag<|Ad (rs1 (rr_t gt2))<|?_;have h0:l=[]:=List.eq_nil_of_length_eq_zero ((Nat.eq_zero_or_pos _).resolve_right (λe=>by have:=hbn3 e;rw[hc1] at this;cases this));subst h0;exact⟨0,by simp,by simp[rows]⟩
 refine za<|wr'<|E' (Ep F7 hl0 ha0) pt<|mw<|?_;refine E' (C6 (Qf lk (era_len _)) lk gx rfl om (era_leaf _) hs0) pt ?_;refine mr<|Ad rz<|?_;exact⟨0+1,by simp[hn],by simp⟩
def tZ {nm:ByteArray}:(Fg s nm).1.2.length<=8:=by
 by_cases h:(Fg s nm).2=0
 .obtain⟨h1,h2,_⟩:=pN h;exact (Hj (O6 h1)).2.2.2.1 _ h2
 rw[find_bad h];simp[zonO]
def zfind_a {a:List Rul}{nm:ByteArray}(hok:Sb (a,z,k)):Ac 72 [.agg (srcB a z k),sv nm] h (.tup [.agg (zonC (Fg (a,z,k) nm).1),iv (Fg (a,z,k) nm).2]):=by
 have hfl:=tZ (s:=(a,z,k)) (nm:=nm);refine tW' k72 λN hn _ _ hbd=>?_;simp only[tb'] at hbd ⊢;refine wr'<|E' (Bq cv rfl hl0 ha0) pt<|E' (Bz hl1 ha1) pt<|ms<|wr'<|Vw (Ak lk gx Ap rfl)<|mw<|Af mp (find_a hok) pt<|mw<|Vw (B7 lk gt)<|?_;refine Vw (B7 lk gt)<|E' (Bz hl2 ha2) pt<|E' (Ai lk cv gx rfl nb rfl Cc hs2) ptn<|ms<|wr'<|fq<|Vw (Aa lk gx gt1)<|?_;refine Vx mp (cloneE_a om) hl3 (λ_=>ha3) (λ_=>pt) (λva15=>?_);refine fq<|E' (Ai lk cv gx rfl nb rfl Gi hs2) ptn<|Am<|?_;refine B0 (ALe.iceCellR (hga hn rfl) (hga hn rfl) om gt1 (List.take_of_length_le (by rw[C9 F5];first | exact Nat.le_refl _ | omega)) (by rw[C9 F5];first | exact Nat.le_refl _ | omega) pt1 hs3 hs2) ?_;refine wr'<|Vw (Ak lk gx B1 rfl)<|mw<|E' (Ai lk cv gx rfl nb rfl Cc hs1) ptn<|mr<|Ad (rsn (rm1 (rr_c gt gx (ld1 B1 rfl)) (rm1 (rr_t gt) rm0)))<|rtW'<|?_;exact Wk.tup (wkw (Wk.agg (wk1 rfl (wkw Wk.full wk0))) (wk1 rfl wk0))
def oV : ∀ {l:List Trn}{sh sa:Int}{t:Tim},t∈outV sh sa l->(0<=sa/\sa<=10800)->(∀ u∈l,Dd u.2=0) -> ∃ u∈l,∃ sa',(0<=sa'/\sa'<=10800)/\t=timV sh sa' u
 | u::l,sh,sa,t,ht,hs,hr=>by
  rw[outV] at ht;rcases List.mem_cons.1 ht with rfl | ht
  .exact⟨u,by simp,sa,hs,rfl⟩
  have h8:=(Ea (hr u (by simp))).2.2.2.2.2.2.2;obtain⟨v,hv,sa',h1,h2⟩:=oV ht h8 λx hx=>hr x (by simp[hx]);exact⟨v,by simp[hv],sa',h1,h2⟩
def ruleE_lt {r:Rul}(h:Dd r=0):(rLt r).size<=24:=by
 unfold Dd at h;split at h
 .cases h
 rename_i h1;have:=(Decidable.of_not_not h1).2;unfold Mr at this;simp only[Bool.and_eq_true,decide_eq_true_eq] at this;exact this.1
def Zq {nm:ByteArray}{t:Tim}(ht:t∈(Cv l nm sh).1):(-2600000000<=t.1/\t.1<=4330172800)/\(0<=t.2.1/\t.2.1<=10800)/\t.2.2.size<=24:=by
 unfold Cv at ht;split at ht
 .cases ht
 rename_i h1;split at ht
 .cases ht
 split at ht
 .cases ht
 obtain⟨g1,g2,g3,_⟩:=Pv (Decidable.of_not_not h1);have hm : ∀ u∈srtT (C5 l nm),Dd u.2=0 /\ -2592000000<=u.1/\u.1<=4320172800:=λu hu=>Rp g2 ((Ww _).mem_iff.1 hu);obtain⟨u,hu,sa',hs,rfl⟩:=oV ht om λu hu=>(hm u hu).1;obtain⟨hr,hb1,hb2⟩:=hm u hu;have ho:=pA (r:=u.2) g3 hs;obtain⟨_,_,_,_,_,_,_,h8⟩:=Ea hr;exact⟨⟨by show -2600000000<=u.1-offV u.2 sh sa';omega,by show u.1-offV u.2 sh sa'<=4330172800;omega⟩,h8,ruleE_lt hr⟩
def Un {nm:ByteArray}:(Cv l nm sh).1.length<=1000:=by
 unfold Cv;split
 .simp
 split
 .simp
 split
 .simp
 rw[J0,srt_len];omega
def oU : ∀ {l:List Trn}{sh sa:Int},(-64800<=sh/\sh<=64800)->(0<=sa/\sa<=10800)->(∀ u∈l,Dd u.2=0)->gapB l=false->(outV sh sa l).Pairwise λa b=>a.1<b.1
 | [],_,_,_,_,_,_=>.nil
 | [u],_,_,_,_,_,_=>by simp[outV]
 | u::v::l,sh,sa,h1,h2,hr,hg=>by
  rw[P8,Bool.or_eq_false_iff] at hg;have hu8:=(Ea (hr u (by simp))).2.2.2.2.2.2.2;have ih:=oU (l:=v::l) (sh:=sh) (sa:=rSv u.2) h1 hu8 (λx hx=>hr x (by simp[hx])) hg.2;rw[outV,List.pairwise_cons];refine⟨λt ht=>?_,ih⟩;have hgap:172800<=v.1-u.1:=by have:=hg.1;simp only[decide_eq_false_iff_not] at this;omega
  have hfirst:(timV sh sa u).1<(timV sh (rSv u.2) v).1:=by
   show u.1-offV u.2 sh sa<v.1-offV v.2 sh (rSv u.2);unfold offV;split <;> split <;> (try split) <;> (try split) <;> omega
  rw[outV] at ht;rcases List.mem_cons.1 ht with rfl | ht
  .exact hfirst
  rw[outV,List.pairwise_cons] at ih;have:=ih.1 t ht;omega
def rI {nm:ByteArray}:(Cv l nm sh).1.Pairwise λa b=>a.1<b.1:=by
 unfold Cv;split
 .exact .nil
 rename_i h1;split
 .exact .nil
 rename_i h2;split
 .exact .nil
 obtain⟨g1,g2,g3,_⟩:=Pv (Decidable.of_not_not h1);exact oU g3 om (λu hu=>(Rp g2 ((Ww _).mem_iff.1 hu)).1) (by simpa using h2)
def risT_all (rl:List Rul) (x:Era):risT rl x:=by
 unfold risT B6;split
 .exact .nil
 exact rI
def Nf {t:Tim}(ht:t∈B6 rl x):(-2600000000<=t.1/\t.1<=4330172800)/\(0<=t.2.1/\t.2.1<=10800)/\t.2.2.size<=24:=by
 unfold B6 at ht;split at ht
 .cases ht
 exact Zq ht
def G1 :(B6 rl x).length<=1000:=by
 unfold B6;split
 .simp
 exact Un
def Ou (h:E0 fm=true):fm.size<=24:=by
 unfold E0 at h;split at h
 .cases h
 rename_i h1;omega
end
section
open Go.Ab Go.RowKit Civ
attribute [local simp] Eb Fi E5 Dn Cp Gw Ix
section
def kM {τ:Operand->AV}{y0:Operand}{a:AV}(h0:Lf τ y0 [a]):Cm τ [(1,1,y0)] [(iv 0),(iv 0),(.v (.string ⟨#[]⟩))]=some [(iv 0),a,(.v (.string ⟨#[]⟩))]:=fl h0 rfl
def Gb {τ:Operand->AV}{y0:Operand}{a b c d:AV}(h0:Lf τ y0 [a,b,c,d]):Cm τ [(0,4,y0)] [(iv 0),(iv 0),(iv 0),(.v (.string ⟨#[]⟩))]=some [a,b,c,d]:=fl h0 rfl
def nG {e0 e1 e2 e3 d0:Ent}:([e0,e1,e2,e3]:AH)++[d0]=[e0,e1,e2,e3,d0]:=rfl
end
def k198:=Kx 198 [.e [] 9 [false]]
def k115:=Kx 115 []
structure okX (x:Era):Prop where
 fm:E0 (xFm x)=true
 sh : -64800<=xSh x/\xSh x<=64800
 sv:0<=xSv x/\xSv x<=10800
 no:xRl x≠⟨#[]⟩->xSv x=0
def lW (h:okZ es) (hx:x∈es):okX x:=by
 obtain⟨h1,h2,h3,h4⟩:=h.fm x hx;exact⟨h1,h2,h3,h4⟩
def Ox (ts:List Tim):(eraG x b ts).length<=ts.length+1:=by
 unfold eraG;rw[List.length_cons,List.length_map];have:=List.length_filter_le (λt:Tim=>decide (b<t.1)) ts;omega
def jE :eraG x b []=[(b,locV x (xSv x) ⟨#[]⟩)]:=rfl
def eraG_set {ts:List Tim}{t:Tim}(h:t.1<=b):eraG x b (ts++[t])=(eraG x b ts).set 0 (b,locV x t.2.1 t.2.2):=by
 rw[eraG_low h];rfl
def eraG_pos {ts:List Tim}:0<(eraG x b ts).length:=by unfold eraG;simp
def era_z {a:List Rul}(hok:okRs a) (ha:a.length<=9223372036854775807) (hx:okX x) (hb : -9000000000000000000<=b/\b<=9000000000000000000) :
  ACalls Tryz.prog 198 [.agg (srcB a z k),.agg (eraC x),iv b] h λy h'=>h'=h/\y=.ret (.sl (eraG x b (B6 a x)).length 4 false (rows chgC (eraG x b (B6 a x)))):=by
 obtain⟨hx1,hx2,hx3,hx4⟩:=hx;have hfl:=Ou hx1;refine tW' k198 λN hn hlt _ hbd=>?_;simp only[tb'] at hbd ⊢;refine wr'<|E' (Bq cv rfl hl0 ha0) pt<|E' (Bq cv rfl hl1 ha1) pt<|mw<|Am<|?_;refine B0 (ALe.trans (ALe.icePtr gx gt3 (by simp) pt3 hs0) (ALe.icePtr gx gt4 (by simp) pt4 hs1)) ?_;refine Ab<|wr'<|Vw (Cj lk dp1)<|Vw (Ba lk gt)<|Vw (J6 lk lks)<|sn'<|?_;refine cd' lk (λhc1=>?_) (λhc1=>?_)
 .have hT:B6 a x=[]:=if_pos hc1;refine wm<|Vw (Ax lk Fx rfl)<|Vw (Cj lk dp2)<|Vw (Ba lk gt)<|Vw (Bb (kM cw))<|?_;refine Af mp (dG (x:=x) (t:=(0,xSv x,⟨#[]⟩)) hfl (show (0:Nat)<=24 by decide) hx2 hx3) pt ?_;refine V' (Bb (Eo cw cw)) pt22<|E' (Ep (Gb cw) hl2 ha2) pt23<|mv' lk23 pt6<|Am<|B0 (ALe.iceR gx gt6 rfl nb pt6 hs2)<|C4<|Ag<|Ad (rs1 (rr_t gt6))<|rtW'<|?_;rw[hT,jE];exact Wk.full
 have hT:B6 a x=(Cv a x.2.1 x.1).1:=if_neg hc1;have hsv0:xSv x=0:=hx4 hc1;have hTl:(Cv a x.2.1 x.1).1.length<=1000:=Un;refine za<|wr'<|Vw (Cj lk dp0)<|Vw (Ba lk gt)<|Vw (Cj lk dp1)<|Vw (Ba lk gt)<|Vw (Cj lk dp0)<|Vw (Ba lk gt)<|Af mp (nZ hok ha) pt<|mw<|Vw (B7 lk gt)<|Vw (B7 lk gt)<|?_;refine mw<|ms<|wm<|Vw (Ax lk Fx rfl)<|Vw (Bb Js)<|?_;refine Af mp (dG (x:=x) (t:=(0,0,⟨#[]⟩)) hfl (by decide) hx2 (by decide)) pt ?_;refine Vw (Bb (Eo cw cw))<|E' (Ep (Gb cw) hl2 ha2) pt<|ms<|Ab<|wm<|Vw (Bf lk)<|ms<|Ah<|?_;refine It (ι:=Nat×Nat) (λ⟨i,v⟩=>[(9,.own (N+2) v (eraG x b ((Cv a x.2.1 x.1).1.take i)).length),(42,iv (i:Int)),(11,.any),(12,.any)]++rn' 43 23) (λ⟨i,v⟩=>[(2,.mk v 183 4 (rows chgC (eraG x b ((Cv a x.2.1 x.1).1.take i))))]) (λ⟨i,v⟩=>i<=(Cv a x.2.1 x.1).1.length) (λ⟨i,v⟩=>(Cv a x.2.1 x.1).1.length-i) (⟨0,0⟩) (by exact Nat.zero_le _) (by try simp only[sm',Nat.reduceAdd];exact ALe.same wA' (by rw[List.take_zero,jE,hsv0];rfl)) ?_;rintro⟨i,v⟩ hi1;try simp only[sm',Nat.reduceAdd]
 replace hi1:i<=(Cv a x.2.1 x.1).1.length:=hi1;refine wr'<|Vw (Bm lk lk)<|sn'<|Ab<|?_;refine cd' lk (λhc2=>?_) (λhc2=>?_)
 .have hi:i<(Cv a x.2.1 x.1).1.length:=by omega
  obtain⟨hm1,hm2,hm3⟩:=Zq (List.getElem_mem hi);have hel:=Ox (x:=x) (b:=b) ((Cv a x.2.1 x.1).1.take i);rw[List.length_take] at hel;have htk:=List.take_succ_eq_append_getElem hi;refine za<|Ab<|Ah<|wr'<|?_;refine V' (Bh lk lk Iy nb ro om ro rfl) pt ?_;refine Vw (Ax lk Cn rfl)<|E' (Bz hl3 ha3) pt<|E' (Ai lk cv gx rfl nb rfl Bo hs3) ptn<|sn'<|Ab<|Bl<|Dw vm<|dg<|Dw (Aa lk gx gt0)<|Dw (v_mm lk lk)<|Dw (Ax lk Fx rfl)<|Dw (Ak lk gx Ap rfl)<|?_;refine Br mp (λhE hX=>dG (x:=x) (t:=(Cv a x.2.1 x.1).1[i]) hfl hm3 hx2 hm2) pt ?_;refine Dw (Bb (Eo cw cw))<|D5 rfl rfl (hlk hn rfl) (Lv) pt B2<|Bi<|?_;refine Eg nG ?_;refine E' (Ai lk cv gx rfl nb rfl Ay hs4) ptn<|sn'<|wr'<|fq<|Vw (Aa lk gx gt0)<|mw<|Vw (Gy lk lk)<|sn'<|?_;refine cd' lk (λhc3=>?_) (λhc3=>?_)
  .have hmx:(if (Cv a x.2.1 x.1).1[i].1>b then (Cv a x.2.1 x.1).1[i].1 else b)=b:=if_neg om;simp only[cond_true,hmx];have hE:=eraG_set (x:=x) (ts:=(Cv a x.2.1 x.1).1.take i) hc3;have hep:=eraG_pos (x:=x) (b:=b) (ts:=(Cv a x.2.1 x.1).1.take i);rw[<-htk] at hE;refine Aq<|mw<|Vw (Ak lk gx Av rfl)<|?_;refine V' (Ck (k:=0) lk lki gx Cg nb ro om (by first | rfl | (simp;done) | omega)) pt ?_;refine E' (Nn (z:=(b,locV x (Cv a x.2.1 x.1).1[i].2.1 (Cv a x.2.1 x.1).1[i].2.2)) lk cv gx Cg rfl om hs2) ptn ?_;refine Am<|Aw<|An<|Aq<|?_;refine ad<|mw<|Am<|Az<|?_;refine lU' (⟨i+1,v⟩) (by (try dsimp only);omega) (by refine zz ?_;exact bkE' 3 hn hlt (by repeat (first | exact wk0 | refine wka ?_ | refine wk1 rfl ?_ | refine wk1 (by first | rfl | exact ivx om | (rw[hE,List.length_set];done) | (rw[hE,List.length_append];rfl) | (rw[hE,List.length_set])) ?_)) (by rw[hE];rfl) (hT:=by simp[AV.lt,AV.ltL,Ent.lt]) (hE:=by simp[AV.lt,AV.ltL,Ent.lt]))
  have hmx:(if (Cv a x.2.1 x.1).1[i].1>b then (Cv a x.2.1 x.1).1[i].1 else b)=(Cv a x.2.1 x.1).1[i].1:=if_pos om;simp only[cond_true,hmx];have hE:=uA (x:=x) (ts:=(Cv a x.2.1 x.1).1.take i) hc3;rw[<-htk] at hE;refine Aq<|mw<|Vw (Ak lk gx Av rfl)<|E' (Ep (Gb cw) hl5 ha5) pt<|?_;refine E' (C6 (C0 lk gx rfl Bv nb) lk gx (Cu _) om rfl hs2) pt ?_;refine mw<|Am<|Aw<|An<|Aq<|?_;refine ad<|mw<|Am<|Az<|?_;refine lU' (⟨i+1,v+1⟩) (by (try dsimp only);omega) (by refine zz ?_;exact bkE' 3 hn hlt (by repeat (first | exact wk0 | refine wka ?_ | refine wk1 rfl ?_ | refine wk1 (by first | rfl | exact ivx om | (rw[hE,List.length_set];done) | (rw[hE,List.length_append];rfl) | (rw[hE,List.length_set])) ?_)) (by rw[hE,Bt,C3];rfl) (hT:=by simp[AV.lt,AV.ltL,Ent.lt]) (hE:=by simp[AV.lt,AV.ltL,Ent.lt]))
 refine Bd<|As<|As<|Bp<|?_;refine B0 (ALe.iceR (hga hn rfl) gt9 (List.take_of_length_le (by rw[Cu];exact Nat.le_refl _)) (by rw[Cu];exact Nat.le_refl _) pt9 hs2) ?_;refine wm<|mr<|Ad rz<|rtW'<|?_;rw[hT,List.take_of_length_le om];exact Wk.full
def I1 (es:List Era):Nat->Option Int
 | 0=>none
 | j+1=>(es[j]?).map endV
def Nl (h:i<es.length):I1 es (i+1)=some (endV es[i]):=by
 show (es[i]?).map endV=_;rw[List.getElem?_eq_getElem h];rfl
def lS {f:Int}{prev:Option Int}(h:i<es.length) (hl:es.length<=i+1):Cq rl f prev (es.drop i)=eraG es[i] (Dz prev f) (B6 rl es[i]):=by
 rw[List.drop_eq_getElem_cons h,List.drop_of_length_le hl];rfl
def lR {f:Int}{prev:Option Int}(h:i+1<es.length) (hc:endV es[i]<=f):Cq rl f prev (es.drop i)=Cq rl f (I1 es (i+1)) (es.drop (i+1)):=by
 rw[Nl om,List.drop_eq_getElem_cons (show i<es.length by omega),List.drop_eq_getElem_cons h,Cq,if_pos hc,List.nil_append]
def lQ {f:Int}{prev:Option Int}(h:i+1<es.length) (hc:¬endV es[i]<=f):Cq rl f prev (es.drop i)=cutV (eraG es[i] (Dz prev f) (B6 rl es[i])) (endV es[i])++Cq rl f (I1 es (i+1)) (es.drop (i+1)):=by
 rw[Nl om,List.drop_eq_getElem_cons (show i<es.length by omega),List.drop_eq_getElem_cons h,Cq,if_neg hc]
def jJ (l:List Chg) (e:Int):(cutV l e).length<=l.length:=(List.takeWhile_sublist _).length_le
def eB (hz:okZ es) (h:i+1<es.length) : -100000000000<=endV es[i]/\endV es[i]<=300000000000:=by
 obtain⟨h1,h2,h3⟩:=hz.un i om h;exact endV_bd h1 ⟨h2,h3⟩ (hz.fm _ (List.getElem_mem _)).2.1
def parts_a {a:List Rul}{nm:ByteArray}{f:Int}(hok:okRs a) (ha:a.length<=9223372036854775807) (hz:okZ es) (hf : -1000000000000<=f/\f<=1000000000000) :
  ACalls Tryz.prog 115 [.agg (srcB a z k),.agg [sv nm,.sl es.length 10 false (rows eraC es)],iv f] h λy h'=>h'=h/\y=.ret (.sl (Cq a f none es).length 4 false (rows chgC (Cq a f none es))):=by
 have hel:=Hv es;have hlen:=hz.len;refine tW' k115 λN hn hlt _ hbd=>?_;simp only[tb'] at hbd ⊢;refine wr'<|E' (Bq cv rfl hl0 ha0) pt<|E' (Bq cv rfl hl1 ha1) pt<|mw<|Am<|?_;refine B0 (ALe.trans (ALe.icePtr gx gt3 (by simp) pt3 hs0) (ALe.icePtr gx gt4 (by simp) pt4 hs1)) ?_;refine wr'<|mv' lkn pt7<|Am<|B0 (ALe.own0' (st':=4) (ty:=183) gt7 hl2 pt7 ha2)<|wr'<|V' (Ax lk4 Ce rfl) pt13<|Af (mp1 lk13 mp0) (ends_a hz) pt14<|mv' lk14 pt8<|sn'<|Ab<|Ab<|?_;refine Aq<|Vw (Cj lk dp1)<|Vw (Ba lk gt)<|Vw (Bf lk)<|ms<|Ah<|?_;refine w_lp (ι:=Nat×List Chg×Nat) (λ⟨i,O,v⟩=>[(7,.own (N+2) v O.length),(18,iv (i:Int))]++rn' 9 4++rn' 19 44) (λ⟨i,O,v⟩=>[(2,.mk v 183 4 (rows chgC O))]) (λ⟨i,O,v⟩=>i<=es.length/\Cq a f none es=O++Cq a f (I1 es i) (es.drop i)/\O.length<=1001*i) (λ⟨i,O,v⟩=>es.length-i) (⟨0,[],0⟩) (by exact⟨Nat.zero_le _,rfl,Nat.zero_le _⟩) ?_;rintro⟨i,O,v⟩ hi1;try simp only[sm',Nat.reduceAdd]
 obtain⟨hi1,hi2,hi3⟩:=hi1;refine wr'<|Vw (Bm lk lk)<|sn'<|Ab<|?_;refine cd' lk (λhc1=>?_) (λhc1=>?_)
 .have hi:i<es.length:=by omega
  have hxo:=lW hz (List.getElem_mem hi);refine za<|Ab<|Ah<|wm<|?_;refine V' (Bh lk lk F5 nb ro om ro rfl) pt ?_;refine Vw (Ax lk Fx rfl)<|E' (Bz hl3 ha3) pt<|mw<|E' (Ai lk cv gx rfl nb rfl Gc hs3) ptn<|sn'<|Ab<|wm<|mw<|Vw (Bf lk)<|Vw (Bm lk lk)<|mw<|?_;refine sp' (t:=27) gt pt pt (λhg27=>?_) (λhg27=>?_)
  .have hn1:i+1<es.length:=by omega
   have hen:(By es)[i]'(by omega)=endV es[i]:=Yh om hi;have heb:=eB hz hn1;refine sd<|mw<|sd<|mw<|sd<|?_;refine V' (Bh lk lk Cw nb ro om ro rfl) pt ?_;refine sd<|Vw (Ba lk gt)<|sd<|mw<|sd<|Vw (Gy lk lk)<|Vw (Ar lk lk)<|sn'<|?_;refine cd' lk (λhc2=>?_) (λhc2=>?_)
   .have hsk:=lR (rl:=a) (f:=f) (prev:=I1 es i) hn1 (by rw[<-hen];exact hc2);refine Bd<|As<|Bp<|An<|Aq<|?_;refine ad<|mw<|Am<|Az<|?_;refine lU' (⟨i+1,O,v⟩) (by (try dsimp only);exact⟨by omega,by rw[hi2,hsk],by omega⟩) (by refine zz ?_;exact bkE' 3 hn hlt (by repeat (first | exact wk0 | refine wka ?_ | refine wk1 rfl ?_ | refine wk1 (by first | rfl | exact ivx om | (rw[List.length_append])) ?_)) (hT:=by simp[AV.lt,AV.ltL,Ent.lt]) (hE:=by simp[AV.lt,AV.ltL,Ent.lt]))
   have hnc:¬endV es[i]<=f:=by rw[<-hen];exact hc2
   refine za<|wm<|ms<|?_;refine L9 (ι:=Int) (λ(B:Int)=>[(11,iv B)]++rn' 36 9) (λ(B:Int)=>[]) (λ(B:Int)=>Dz (I1 es i) f=B /\ -9000000000000000000<=B/\B<=9000000000000000000) ?_ ?_
   .try simp only[sm',Nat.reduceAdd]
    refine wm<|Vw (C7 lk lki)<|sn'<|?_;refine cd' lk (λhc3=>?_) (λhc3=>?_)
    .have hi0:i-1+1<es.length:=by omega
     have hen0:(By es)[i-1]'(by omega)=endV (es[i-1]'(by omega)):=Yh om om;have heb0:=eB hz hi0;have hB:(if (By es)[i-1]'(by omega)>f then (By es)[i-1]'(by omega) else f)=Dz (I1 es i) f:=by rw[hen0,show I1 es i=some (endV (es[i-1]'(by omega))) from by have:=Nl (es:=es) (i:=i-1) om;rwa [show i-1+1=i by omega] at this];show _=max f _;omega
     have hBb : -9000000000000000000<=Dz (I1 es i) f/\Dz (I1 es i) f<=9000000000000000000:=by rw[<-hB,hen0];split <;> omega
     refine Aq<|mw<|mw<|mw<|?_;refine V' (Ch lk lki om om) pt ?_;refine V' (Bh (k:=i-1) lk lk Cw nb ro om ro rfl) pt ?_;refine Vw (Ba lk gt)<|Vw (v_mm lk lk)<|?_;simp only[cond_true,hB];refine mw<|Am<|Az<|?_;exact cT' (Dz (I1 es i) f) (by exact⟨rfl,hBb.1,hBb.2⟩)
    refine Be<|Az<|?_;exact cT' (f) (by exact⟨by rw[show i=0 by omega];rfl,by omega,by omega⟩)
   rintro B hq12;try simp only[sm',Nat.reduceAdd]
   obtain⟨hBd,hB1,hB2⟩:=hq12;refine wr'<|Vw (Ax lk Cn rfl)<|Vw (Ak lk gx L5 rfl)<|mw<|Af mp (era_z hok ha hxo ⟨hB1,hB2⟩) pt<|ms<|Ab<|wm<|mw<|?_;refine Vw (Bf lk)<|Vw (Bm lk lk)<|sn'<|?_;have hgl:=Ox (x:=es[i]) (b:=B) (B6 a es[i]);have htl:=G1 (rl:=a) (x:=es[i]);refine Iu lk (by exact decide_eq_true om) ?_;refine Aq<|mw<|mw<|mw<|?_;refine V' (Bh lk lk Cw nb ro om ro rfl) pt ?_;refine V' (Ba lk gt) pt ?_;refine Af mp (zcut_a om) pt ?_;have hcl:=jJ (eraG es[i] B (B6 a es[i])) ((By es)[i]'(by omega));have hT:=lQ (rl:=a) (f:=f) (prev:=I1 es i) hn1 hnc;rw[hBd,<-hen] at hT;refine ms<|Aq<|mw<|mw<|?_;refine E' (C6 (Qf lk (Cu _)) lk gx (Cu _) om (M7 _) hs2) pt ?_;refine mw<|Am<|Aw<|An<|Aq<|?_;refine ad<|mw<|Am<|Az<|?_;refine lU' (⟨i+1,O++cutV (eraG es[i] B (B6 a es[i])) ((By es)[i]'(by omega)),v+1⟩) (by (try dsimp only);exact⟨by omega,by rw[hi2,hT,List.append_assoc],by rw[List.length_append];omega⟩) (by refine zz ?_;exact bkE' 3 hn hlt (by repeat (first | exact wk0 | refine wka ?_ | refine wk1 rfl ?_ | refine wk1 (by first | rfl | exact ivx om | (rw[List.length_append])) ?_)) (by rw[Bt];rfl) (hT:=by simp[AV.lt,AV.ltL,Ent.lt]) (hE:=by simp[AV.lt,AV.ltL,Ent.lt]))
  have hn1:es.length<=i+1:=by omega
  refine so<|so<|so<|so<|so<|so<|Vw (Ao lk lkb)<|sn'<|Cf lk<|za<|wr'<|?_;refine mw<|ms<|?_;refine L9 (ι:=Int) (λ(B:Int)=>[(11,iv B)]++rn' 36 9) (λ(B:Int)=>[]) (λ(B:Int)=>Dz (I1 es i) f=B /\ -9000000000000000000<=B/\B<=9000000000000000000) ?_ ?_
  .try simp only[sm',Nat.reduceAdd]
   refine wm<|Vw (C7 lk lki)<|sn'<|?_;refine cd' lk (λhc3=>?_) (λhc3=>?_)
   .have hi0:i-1+1<es.length:=by omega
    have hen0:(By es)[i-1]'(by omega)=endV (es[i-1]'(by omega)):=Yh om om;have heb0:=eB hz hi0;have hB:(if (By es)[i-1]'(by omega)>f then (By es)[i-1]'(by omega) else f)=Dz (I1 es i) f:=by rw[hen0,show I1 es i=some (endV (es[i-1]'(by omega))) from by have:=Nl (es:=es) (i:=i-1) om;rwa [show i-1+1=i by omega] at this];show _=max f _;omega
    have hBb : -9000000000000000000<=Dz (I1 es i) f/\Dz (I1 es i) f<=9000000000000000000:=by rw[<-hB,hen0];split <;> omega
    refine Aq<|mw<|mw<|mw<|?_;refine V' (Ch lk lki om om) pt ?_;refine V' (Bh (k:=i-1) lk lk Cw nb ro om ro rfl) pt ?_;refine Vw (Ba lk gt)<|Vw (v_mm lk lk)<|?_;simp only[cond_true,hB];refine mw<|Am<|Az<|?_;exact cT' (Dz (I1 es i) f) (by exact⟨rfl,hBb.1,hBb.2⟩)
   refine Be<|Az<|?_;exact cT' (f) (by exact⟨by rw[show i=0 by omega];rfl,by omega,by omega⟩)
  rintro B hq12;try simp only[sm',Nat.reduceAdd]
  obtain⟨hBd,hB1,hB2⟩:=hq12;refine wr'<|Vw (Ax lk Cn rfl)<|Vw (Ak lk gx L5 rfl)<|mw<|Af mp (era_z hok ha hxo ⟨hB1,hB2⟩) pt<|ms<|Ab<|wm<|mw<|?_;refine Vw (Bf lk)<|Vw (Bm lk lk)<|sn'<|?_;have hgl:=Ox (x:=es[i]) (b:=B) (B6 a es[i]);have htl:=G1 (rl:=a) (x:=es[i]);have hT:=lS (rl:=a) (f:=f) (prev:=I1 es i) hi hn1;rw[hBd] at hT;refine F2 lk (by exact decide_eq_false om) ?_;refine za<|Aq<|mw<|mw<|?_;refine E' (C6 (Qf lk (Cu _)) lk gx (Cu _) om (M7 _) hs2) pt ?_;refine mw<|Am<|Aw<|An<|Aq<|?_;refine ad<|mw<|Am<|Az<|?_;refine lU' (⟨i+1,O++eraG es[i] B (B6 a es[i]),v+1⟩) (by (try dsimp only);exact⟨by omega,by rw[hi2,hT,List.drop_of_length_le hn1];exact (List.append_nil _).symm,by rw[List.length_append];omega⟩) (by refine zz ?_;exact bkE' 3 hn hlt (by repeat (first | exact wk0 | refine wka ?_ | refine wk1 rfl ?_ | refine wk1 (by first | rfl | exact ivx om | (rw[List.length_append])) ?_)) (by rw[Bt];rfl) (hT:=by simp[AV.lt,AV.ltL,Ent.lt]) (hE:=by simp[AV.lt,AV.ltL,Ent.lt]))
 rw[List.drop_of_length_le om] at hi2;have hPO:Cq a f none es=O:=hi2.trans (List.append_nil _);refine Bd<|As<|As<|Bp<|?_;refine B0 (ALe.iceR (hga hn rfl) gt7 (List.take_of_length_le (by rw[Cu];exact Nat.le_refl _)) (by rw[Cu];exact Nat.le_refl _) pt7 hs2) ?_;refine wm<|mr<|Ad rz<|rtW'<|?_;rw[hPO];exact Wk.full
def Xk {z:Zon}(h:Dh s=0) (hm:z∈s.2.1) (f:Int):(∃ l,Cq s.1 f none z.2=(f,Co s.1 z.2 f)::l)/\(Cq s.1 f none z.2).Pairwise (λa b=>a.1<b.1)/\(∀ c∈Cq s.1 f none z.2,f<=c.1/\c.2=Co s.1 z.2 c.1) /\
  ∀ u v,f<=u->u<=v->(∀ c∈Cq s.1 f none z.2,¬(u<c.1/\c.1<=v))->Co s.1 z.2 u=Co s.1 z.2 v:=by
 obtain⟨hE,_,_,_,h5⟩:=Rc h;exact aA (f:=f) (prev:=none) (Lb hE hm).ne (λx _=>risT_all _ x) ((Xa _).1 (h5 z hm)) trivial
abbrev locC3 (l:Loc):List AV:=[iv l.1,iv l.2.1,sv l.2.2]
end
section
open Go.Ab Civ
def chgs (g:Int->Loc) (L:List Int):List Chg:=dd (g tMin) (pts g (L.filter inT))
def chgs_nil :chgs g []=[]:=rfl
def jS {L:List Int}{x:Int}(h:inT x=false):chgs g (L++[x])=chgs g L:=by
 unfold chgs;rw[List.filter_append,show [x].filter inT=[] from by simp[h],List.append_nil]
def qN {L:List Int}{x:Int}(h:inT x=true):chgs g (L++[x])=chgs g L++(if g x=I5 (g tMin) (chgs g L) then [] else [(x,g x)]):=by
 unfold chgs;rw[List.filter_append,show [x].filter inT=[x] from by simp[h],show pts g (L.filter inT++[x])=pts g (L.filter inT)++[(x,g x)] from by unfold pts;rw[List.map_append];rfl,eF];rfl
def uI {L:List Int}{x:Int}(h:inT x=true) (he:g x=I5 (g tMin) (chgs g L)):chgs g (L++[x])=chgs g L:=by
 rw[qN h,if_pos he,List.append_nil]
def chgs_new {L:List Int}{x:Int}(h:inT x=true) (he:¬g x=I5 (g tMin) (chgs g L)):chgs g (L++[x])=chgs g L++[(x,g x)]:=by
 rw[qN h,if_neg he]
def chgs_len (L:List Int):(chgs g L).length<=L.length:=by
 refine Nat.le_trans (eE _ _) ?_;unfold pts;rw[List.length_map];exact List.length_filter_le _ _
def mE (F:Loc) (l:List Chg) (c:Chg):I5 F (l++[c])=c.2:=by unfold I5;simp
def rbad (F:Loc) (l:List Chg):Int:=if locE F≠0 then locE F else D4 l
def fW (F:Loc):rbad F []=locE F:=by unfold rbad;split <;> simp_all [D4]
def sH (F:Loc) (l:List Chg) (c:Chg):rbad F (l++[c])=if rbad F l=0 then locE c.2 else rbad F l:=by
 unfold rbad;by_cases h:locE F=0
 .have h':¬locE F≠0:=λe=>e h;simp only[if_neg h'];by_cases h2:D4 l=0
  .rw[if_pos h2,Pz h2]
  .rw[if_neg h2,Tt h2]
 .have h':locE F≠0:=h;simp only[if_pos h',if_neg h]
def rL (t:Tab):tabR t=if rbad t.1 t.2≠0 then (Ga,rbad t.1 t.2) else if 1000<t.2.length then (Ga,2) else (t,0):=by
 unfold tabR rbad;by_cases h:locE t.1=0
 .rw[if_neg (by simpa using h),if_neg (by simpa using h:¬locE t.1≠0)];rfl
 .rw[if_pos h,if_pos h,if_pos h];rfl
def sE {L:List Int}(hp:L.Perm (Iz rl es)) (hs:L.Pairwise (· <= ·)):Jb (Co rl es) L=H9 rl es :=
 fJ hs λu v _ h hn=>Oc h λp hp'=>hn p (hp.mem_iff.2 hp')
def Tj {z:Zon}(h:Dh s=0) (hm:z∈s.2.1):stV (inP (Cq s.1 tMin none z.2))=H9 s.1 z.2:=by
 obtain⟨⟨l,h1⟩,h2,h3,h4⟩:=Xk h hm tMin;have hp:=sS (rl:=s.1) (f:=tMin) (es:=z.2) λc hc=>(h3 c hc).2;have hs:((Cq s.1 tMin none z.2).map (·.1)).Pairwise (· < ·):=by rw[List.pairwise_map];exact h2
 have hL:(Cq s.1 tMin none z.2).map (·.1)=tMin::l.map (·.1):=by rw[h1];rfl
 rw[hp,hL];rw[hL] at hs;rw[stV_tab hs];refine fJ (hs.imp λh=>Int.le_of_lt h) λu v h5 h6 h7=>h4 u v h5 h6 λc hc hh=>h7 c.1 ?_ hh;rw[<-hL];exact List.mem_map.2 ⟨c,hc,rfl⟩
def ofV (s:Src) (z:Zon):Tab×Int:=tabR (H9 s.1 z.2)
def Ym (s:Src) (nm:ByteArray):Tab×Int:=if (Fg s nm).2≠0 then (Ga,(Fg s nm).2) else ofV s (Fg s nm).1
def fK :((Iz rl es).mergeSort λa b=>decide (a<=b)).Pairwise (· <= ·):=by
 have h:=List.pairwise_mergeSort (le:=λa b:Int=>decide (a<=b)) (λa b c h1 h2=>by simp at *;omega) (λa b=>by simp;omega) (Iz rl es);exact h.imp λh=>by simpa using h
def Rr (h:(tabR (H9 rl es)).2=0):Bw (H9 rl es)=0:=kZ fK h
def rK {z:Zon}(h:(ofV s z).2=0):Bw (ofV s z).1=0:=by
 unfold ofV at h ⊢;rw[(oD h).1];exact Rr h
def cntV (rl:List Rul):List Era->Nat
 | []=>0
 | x::es=>(B6 rl x).length+cntV rl es
def eH (rl:List Rul) : ∀ es:List Era,cntV rl es<=1000*es.length
 | []=>by simp[cntV]
 | y::es=>by have:=eH rl es;have:=G1 (rl:=rl) (x:=y);rw[cntV,List.length_cons];omega
def rO (rl:List Rul) (es:List Era):(Iz rl es).length=cntV rl es+(es.length-1):=by
 unfold Iz;rw[List.length_append,Hv];congr 1;induction es with
 | nil=>rfl
 | cons x es ih=>rw[List.flatMap_cons,List.length_append,List.length_map,ih,cntV]
end
section
section
variable {α : Type} {r : α -> α -> Prop}
def insR (r:α->α->Prop) (i k:Nat) (L:List α):Prop := ∃ A x B C,L=A++x::(B++C)/\A.length=k/\A.length+B.length=i/\(A++B).Pairwise r /\ ∀ b∈B,r x b
def Q4 {L:List α}(h:i<L.length) (hp:(L.take i).Pairwise r):insR r i i L :=
 ⟨L.take i,L[i],[],L.drop (i+1),by simp,by simp;omega,by simp;omega,by simpa using hp,by simp⟩
def Q3 {L:List α}(h:insR r i 0 L):(L.take (i+1)).Pairwise r:=by
 obtain⟨A,x,B,C,rfl,h1,h2,h3,h4⟩:=h;obtain rfl:=List.eq_nil_of_length_eq_zero h1;simp only[List.length_nil,Nat.zero_add] at h2;subst h2;rw[List.nil_append,List.take_succ_cons,List.take_left];exact List.pairwise_cons.2 ⟨h4,by simpa using h3⟩
def Q0 (ht : ∀ a b c,r a b->r b c->r a c) {k:Nat}{L:List α}(h:insR r i (k+1) L) (hk:k+1<L.length) (hc:r L[k] L[k+1]):(L.take (i+1)).Pairwise r:=by
 obtain⟨A,x,B,C,rfl,h1,h2,h3,h4⟩:=h;obtain⟨A,y,rfl⟩ : ∃ A' y,A=A'++[y]:=⟨A.dropLast,A.getLast (by intro e;subst e;cases h1),(List.dropLast_concat_getLast _).symm⟩;simp only[List.length_append,List.length_singleton] at h1;obtain rfl:A.length=k:=by omega
 have e1:((A++[y])++x::(B++C))[A.length+1]'hk=x:=by simp
 have e2:((A++[y])++x::(B++C))[A.length]'(by omega)=y:=by simp
 rw[e1,e2] at hc;have e3:((A++[y])++x::(B++C)).take (i+1)=(A++[y])++x::B:=by
  rw[show (A++[y])++x::(B++C)=((A++[y])++x::B)++C by simp,List.take_left' (by simp at h2 ⊢;omega)]
 rw[e3];rw[List.pairwise_append] at h3 ⊢;obtain⟨p1,p2,p3⟩:=h3;refine⟨p1,List.pairwise_cons.2 ⟨h4,p2⟩,λa ha b hb=>?_⟩;have hax:r a x:=by
  rcases List.mem_append.1 ha with h | h
  .exact ht _ _ _ ((List.pairwise_append.1 p1).2.2 a h y (by simp)) hc
  .simp only[List.mem_singleton] at h;subst h;exact hc
 rcases List.mem_cons.1 hb with rfl | h
 .exact hax
 .exact p3 a ha b h
def Ty (htot : ∀ a b,r a b\/r b a) {k:Nat}{L:List α}(h:insR r i (k+1) L) (hk:k+1<L.length) (hc:¬r L[k] L[k+1]) :
  insR r i k ((L.set (k+1) L[k]).set k L[k+1])/\((L.set (k+1) L[k]).set k L[k+1]).Perm L:=by
 obtain⟨A,x,B,C,rfl,h1,h2,h3,h4⟩:=h;obtain⟨A,y,rfl⟩ : ∃ A' y,A=A'++[y]:=⟨A.dropLast,A.getLast (by intro e;subst e;cases h1),(List.dropLast_concat_getLast _).symm⟩;simp only[List.length_append,List.length_singleton] at h1;obtain rfl:A.length=k:=by omega
 have e1:((A++[y])++x::(B++C))[A.length+1]'hk=x:=by simp
 have e2:((A++[y])++x::(B++C))[A.length]'(by omega)=y:=by simp
 rw[e1,e2] at hc ⊢;have e3:(((A++[y])++x::(B++C)).set (A.length+1) y).set A.length x=A++x::y::(B++C):=by
  simp
 rw[e3];refine⟨⟨A,x,y::B,C,by simp,rfl,by simp at h2 ⊢;omega,by simpa using h3,λb hb=>?_⟩,?_⟩
 .rcases List.mem_cons.1 hb with rfl | h
  .exact (htot _ _).resolve_left hc
  .exact h4 b h
 .simp only[List.append_assoc,List.singleton_append];exact (List.Perm.swap y x _).append_left A
end
end
section
open Go.Ab Go.RowKit Civ
attribute [local simp] Eb Fi E5 Dn
def k123:=Kx 123 []
end
section
open Go.Ab Go.RowKit Civ
attribute [local simp] Eb Wq Ix
def k213:=Kx 213 [.e [] 13 [],.e [] 16 [false,false],.e [] 15 [false],.e [] 13 [],.e [] 15 [false,false,false],.e [] 16 [false,false]]
def ron_r {r:Rul}{y:Int}(hr:Dd r=0) (hy:1900<=y/\y<=2100):Ac 261 [iv y,iv r.2.2.2.1,.agg [iv r.2.2.2.2.1.1,iv r.2.2.2.2.1.2.1,iv r.2.2.2.2.1.2.2]] h (.tup [.agg [iv (De (rDy r y)).1,iv (De (rDy r y)).2.1,iv (De (rDy r y)).2.2],iv 0]):=by
 have:=ron_a (y:=y) (m:=r.2.2.2.1) (k:=r.2.2.2.2.1.1) (wk:=r.2.2.2.2.1.2.1) (n:=r.2.2.2.2.1.2.2) (h:=h);rw[(R9 hr hy).1] at this;exact this
def rnum_r {k:Int}(hk : -30000<=k/\k<=50000):Ac 220 [.agg [iv (De k).1,iv (De k).2.1,iv (De k).2.2]] h (iv k):=by
 obtain⟨h1,h2⟩:=O0 (days:=k) om om;have hd:=E8.1 h1;have hm:=H5 (De k).1 (De k).2.1;have:=Ik (y:=(De k).1) (m:=(De k).2.1) (d:=(De k).2.2) (h:=h) om om om om om om;rwa [h2] at this
def refT (l:List Rul) (nm:ByteArray) (Y i:Nat):List Trn:=((D2 1900 2100).take Y).flatMap (yrT l nm)++yrT (l.take i) nm (1900+(Y:Int))
def thB (l:List Rul) (nm:ByteArray) (Y i:Nat):Bool:=(decide (0<Y)&&l.any λr=>decide (r.1=nm))||(l.take i).any λr=>decide (r.1=nm)
def eV (hi:i<l.length) (nm:ByteArray) (y:Int):yrT (l.take (i+1)) nm y=yrT (l.take i) nm y++(if l[i].1=nm/\wi y (rFr l[i]) (rTo l[i])=true then [(Hm l[i] y,l[i])] else []):=by
 unfold yrT;rw[List.take_succ_eq_append_getElem hi,List.flatMap_append,List.flatMap_cons,List.flatMap_nil,List.append_nil]
def oQ {nm:ByteArray}(hi:i<l.length) (h:¬(l[i].1=nm/\wi (1900+(Y:Int)) (rFr l[i]) (rTo l[i])=true)):refT l nm Y (i+1)=refT l nm Y i:=by
 unfold refT;rw[eV hi,if_neg h,List.append_nil]
def refT_yes {nm:ByteArray}(hi:i<l.length) (h:l[i].1=nm/\wi (1900+(Y:Int)) (rFr l[i]) (rTo l[i])=true):refT l nm Y (i+1)=refT l nm Y i++[(Hm l[i] (1900+(Y:Int)),l[i])]:=by
 unfold refT;rw[eV hi,if_pos h,List.append_assoc]
def sF {nm:ByteArray}(hY:Y<201) (hi:l.length<=i):refT l nm Y i=refT l nm (Y+1) 0:=by
 unfold refT;have hl:Y<(D2 1900 2100).length:=by rw[Hd];omega
 rw[List.take_of_length_le hi,List.take_succ_eq_append_getElem hl,List.flatMap_append];simp[D2,yrT]
def refT_all {nm:ByteArray}:refT l nm 201 0=(D2 1900 2100).flatMap (yrT l nm):=by
 unfold refT;rw[List.take_of_length_le (by rw[Hd];omega)];simp[yrT]
def lM {nm:ByteArray}:refT l nm 0 0=[]:=by simp[refT,yrT]
def thB_no {nm:ByteArray}(hi:i<l.length) (h:l[i].1≠nm):thB l nm Y (i+1)=thB l nm Y i:=by
 unfold thB;rw[List.take_succ_eq_append_getElem hi,List.any_append];simp[h]
def cD {nm:ByteArray}(hi:i<l.length) (h:l[i].1=nm):thB l nm Y (i+1)=true:=by
 unfold thB;rw[List.take_succ_eq_append_getElem hi,List.any_append];simp[h]
def thB_year {nm:ByteArray}(hi:l.length<=i):thB l nm Y i=thB l nm (Y+1) 0:=by
 unfold thB;rw[List.take_of_length_le hi];cases l.any λr=>decide (r.1=nm) <;> simp
def oC {nm:ByteArray}:thB l nm 201 0=l.any λr=>decide (r.1=nm):=by simp[thB]
def refT_len {l:List Rul}{nm:ByteArray}{Y i:Nat}(hl:l.length<=40) (hY:Y<=201):(refT l nm Y i).length<=10000:=by
 have h1 : ∀ (l:List Rul) (y:Int),(yrT l nm y).length<=l.length:=by
  intro l y;induction l with
  | nil=>simp[yrT]
  | cons r l ih =>
   unfold yrT at ih ⊢
   rw[List.flatMap_cons,List.length_append,List.length_cons]
   split
   .simp only[List.length_singleton];omega
   simp only[List.length_nil];omega
 have h2 : ∀ (ys:List Int),(ys.flatMap (yrT l nm)).length<=40*ys.length:=by
  intro ys;induction ys with
  | nil=>simp
  | cons y ys ih =>
   rw[List.flatMap_cons,List.length_append,List.length_cons]
   have:=h1 l y
   omega
 unfold refT;rw[List.length_append];have a:=h2 ((D2 1900 2100).take Y);have b:=h1 (l.take i) (1900+(Y:Int));rw[List.length_take] at a b;omega
def leT (a b:Trn):Prop:=a.1<=b.1
def leT_tot (a b:Trn):leT a b\/leT b a:=by unfold leT;omega
def leT_tr (a b c:Trn):leT a b->leT b c->leT a c:=by unfold leT;omega
def svAt_pre {l:List Trn}(h0:0<i) (h:i-1<l.length):svAt l i=(l[i-1]).2.2.2.2.2.2.2.2.1:=by
 obtain⟨j,rfl⟩ : ∃ j,i=j+1:=⟨i-1,by omega⟩;exact Pn h
def gap_ok2 {S:List Trn}(hi : ∀ j (h:j+1<S.length),j+1<i->172800<=S[j+1].1-S[j].1) (hl:S.length<=i):gapB S=false:=(Sq S).2 λj h=>hi j h om
def fN {nm:ByteArray}(hck : ∀ r∈l,∀ h,Ac 210 [.agg (rulC r)] h (iv (Dd r))) (hok:okRs l) (hl:l.length<=9223372036854775807) :
  Ac 213 [.sl l.length 11 false (rows rulC l),sv nm,iv sh] h (.tup [.sl (Cv l nm sh).1.length 3 false (rows timC (Cv l nm sh).1),iv (Cv l nm sh).2]):=by
 have hll:=hl;have hE:Hn l nm sh=if 40<l.length then 2 else if Dc Dd l≠0 then Dc Dd l else if sh < -64800\/sh>64800 then 3 else if l.any (λr=>decide (r.1=nm))=false then 5 else 0:=rfl
 refine tW' k213 λN hn hlt _ hbd=>?_;simp only[tb'] at hbd ⊢;refine wm<|ms<|Ab<|wm<|Vw (Bf lk)<|Vw (C7 lk lki)<|sn'<|?_;refine cd' lk (λhc1=>?_) (λhc1=>?_)
 .rw[if_pos om] at hE;refine wm<|mr<|Ag<|Ad ry<|rtW'<|?_;rw[Kh (by rw[hE];decide),hE];exact Wk.tup (wkw Wk.nilF (wk1 rfl wk0))
 rw[if_neg om] at hE;refine za<|Ab<|wk'<|Ah<|?_;refine w_lp (ι:=Nat) (λ(k:Nat)=>[(8,iv (k:Int)),(6,.any),(7,.any),(9,.any)]++rn' 25 14) (λ(k:Nat)=>[]) (λ(k:Nat)=>k<=l.length/\Dc Dd l=Dc Dd (l.drop k)) (λ(k:Nat)=>l.length-k) (0) (by exact⟨Nat.zero_le _,rfl⟩) ?_;rintro k hi1;try simp only[sm',Nat.reduceAdd]
 obtain⟨hk1,hk2⟩:=hi1;refine Ab<|wm<|mw<|Vw (Bf lk)<|Vw (Bm lk lk)<|sn'<|?_;refine cd' lk (λhc2=>?_) (λhc2=>?_)
 .have hk:k<l.length:=by omega
  have ho:=hok _ (List.getElem_mem hk);rw[Kn hk] at hk2;refine za<|Ab<|Ah<|wm<|mw<|?_;refine V' (Bh lk lk Gk nb ro om ro rfl) pt ?_;refine V' (Ax lk Jj rfl) pt ?_;refine Af mp (hck _ (List.getElem_mem (show k<l.length by omega)) _) pt ?_;refine ms<|wm<|Vw (Ca lk lki)<|sn'<|?_;refine cd' lk (λhc3=>?_) (λhc3=>?_)
  .have hc3':Dd l[k]≠0:=hc3;rw[if_pos hc3'] at hk2;rw[if_pos (by rw[hk2];exact hc3'),hk2] at hE;refine wm<|mw<|mr<|Au<|Ag<|Ag<|Au<|Ag<|Ad ry<|?_;refine rtW' ?_;rw[Kh (by rw[hE];exact hc3'),hE];exact Wk.tup (wkw Wk.nilF (wk1 rfl wk0))
  have hc3':¬Dd l[k]≠0:=hc3;rw[if_neg hc3'] at hk2;refine Be<|Aw<|An<|Aq<|mw<|?_;refine ad<|mw<|Am<|Az<|?_;refine lT' (k+1) (by (try dsimp only);exact⟨by omega,hk2⟩)
 rw[List.drop_of_length_le om] at hk2;have hfr:Dc Dd l=0:=by rw[hk2];rfl
 rw[if_neg (by rw[hfr];simp)] at hE;have hok2:=G9 hfr;refine Bd<|As<|As<|Bp<|An<|Ab<|wm<|Af mp (Er) pt<|Vw (Bj lk)<|sn'<|?_;refine Bg lk (λhc4=>?_) (λhc4=>?_)
 .rw[if_pos (by have:=hc4;simp only[Bool.not_eq_true',Ev] at this;omega)] at hE;refine wm<|mr<|Ag<|Ad ry<|rtW'<|?_;rw[Kh (by rw[hE];decide),hE];exact Wk.tup (wkw Wk.nilF (wk1 rfl wk0))
 have hsh : -64800<=sh/\sh<=64800:=by have:=hc4;simp only[Bool.not_eq_false',Dl] at this;exact this
 rw[if_neg om] at hE;refine za<|wr'<|mv' lkb pt10<|sn'<|wr'<|mv' lkn pt11<|Am<|B0 (ALe.own0' (st':=12) (ty:=305) gt11 hl0 pt11 ha0)<|Ab<|Ab<|?_;refine Aq<|ms<|Ah<|?_;refine w_lp (ι:=Nat×List Trn×Nat) (λ⟨Y,S,v⟩=>[(10,bv (thB l nm Y 0)),(11,.own (N+0) v S.length),(12,iv (1900+(Y:Int)))]++rn' 13 5++rn' 42 97) (λ⟨Y,S,v⟩=>[(0,.mk v 305 12 (rows trnC S))]) (λ⟨Y,S,v⟩=>Y<=201/\S.Perm (refT l nm Y 0)/\S.Pairwise leT) (λ⟨Y,S,v⟩=>201-Y) (⟨0,[],0⟩) (by exact⟨by omega,by rw[lM],.nil⟩) ?_;rintro⟨Y,S,v⟩ hi2;try simp only[sm',Nat.reduceAdd]
 obtain⟨hY1,hY2,hY3⟩:=hi2;refine Ab<|wm<|Vw (Gy lk lki)<|sn'<|?_;refine cd' lk (λhc5=>?_) (λhc5=>?_)
 .have hY:Y<201:=by omega
  refine za<|Ab<|Ah<|wk'<|Ah<|?_;refine w_lp (ι:=Nat×List Trn×Nat) (λ⟨i,S,v⟩=>[(10,bv (thB l nm Y i)),(11,.own (N+0) v S.length),(13,iv (i:Int))]++rn' 14 4++rn' 46 93) (λ⟨i,S,v⟩=>[(0,.mk v 305 12 (rows trnC S))]) (λ⟨i,S,v⟩=>i<=l.length/\S.Perm (refT l nm Y i)/\S.Pairwise leT) (λ⟨i,S,v⟩=>l.length-i) (⟨0,S,v⟩) (by exact⟨Nat.zero_le _,hY2,hY3⟩) ?_;rintro⟨i,S,v⟩ hi3;try simp only[sm',Nat.reduceAdd]
  obtain⟨hj1,hj2,hj3⟩:=hi3;refine Ab<|wm<|mw<|Vw (Bf lk)<|Vw (Bm lk lk)<|sn'<|?_;refine cd' lk (λhc6=>?_) (λhc6=>?_)
  .have hi:i<l.length:=by omega
   have hr:=hok2 _ (List.getElem_mem hi);refine za<|Ab<|Ah<|Ab<|wm<|mw<|?_;refine V' (Bh lk lk Gk nb ro om ro rfl) pt ?_;refine Vw (Cj lk dp0)<|Vw (Ba lk gt)<|mw<|Vw (H7 lk lk)<|sn'<|?_;refine cd' lk (λhc7=>?_) (λhc7=>?_)
   .refine Bd<|As<|Bp<|An<|Aq<|mw<|?_;refine ad<|mw<|Am<|Az<|?_;refine lU' (⟨i+1,S,v⟩) (by (try dsimp only);exact⟨by omega,by rw[oQ hi (λh=>hc7 h.1)];exact hj2,hj3⟩) (by refine zz ?_;exact ALe.same (by repeat (first | exact wk0 | refine wka ?_ | refine wk1 rfl ?_ | refine wk1 (by first | rfl | exact ivx om | (rw[thB_no hi hc7])) ?_)) rfl)
   have hnm:l[i].1=nm:=Decidable.of_not_not hc7;refine za<|wk'<|Ab<|Ab<|Bl<|Dw vm<|Dw vm<|Dw vm<|?_;refine D' (Bh lk lk Gk nb ro om ro rfl) pt ?_;refine Dw (Cj lk dp1)<|Dw (Ba lk gt)<|Dw vm<|Dw vm<|?_;refine D' (Bh lk lk Gk nb ro om ro rfl) pt ?_;refine Dw (Cj lk dp2)<|Dw (Ba lk gt)<|?_;refine Br mp (λhE hX=>Er) pt ?_;refine Dw (Bj lk)<|Bi<|?_;refine B9 ?_;refine sn' ?_;refine Bg lk (λhc8=>?_) (λhc8=>?_)
   .have hw:¬wi (1900+(Y:Int)) l[i].2.1 l[i].2.2.1=true:=by have:=hc8;rw[Bool.not_eq_true'] at this;rw[this];simp
    refine Bd<|As<|Bp<|An<|Aq<|mw<|?_;refine ad<|mw<|Am<|Az<|?_;refine lU' (⟨i+1,S,v⟩) (by (try dsimp only);exact⟨by omega,by rw[oQ hi (λh=>hw h.2)];exact hj2,hj3⟩) (by refine zz ?_;exact ALe.same (by repeat (first | exact wk0 | refine wka ?_ | refine wk1 rfl ?_ | refine wk1 (by first | rfl | exact ivx om | (rw[cD hi hnm]) | (simp;done)) ?_)) rfl)
   have hw:wi (1900+(Y:Int)) l[i].2.1 l[i].2.2.1=true:=by have:=hc8;rwa [Bool.not_eq_false'] at this
   obtain⟨hr1,hr2,hr3⟩:1900<=l[i].2.1/\l[i].2.1<=l[i].2.2.1/\l[i].2.2.1<=2100:=⟨(Ea hr).1,(Ea hr).2.1,(Ea hr).2.2.1⟩;have hwb:=Dl.1 hw;have hy:1900<=1900+(Y:Int)/\1900+(Y:Int)<=2100:=by omega
   obtain⟨hd1,hd2⟩:=R9 hr hy;have ha6:0<=l[i].2.2.2.2.2.1/\l[i].2.2.2.2.2.1<=172800:=(Ea hr).2.2.2.2.2.1;have hlenS:=hj2.length_eq;have hlen2:=refT_len (nm:=nm) (Y:=Y) (i:=i) (show l.length<=40 by omega) (show Y<=201 by omega);have hpS:(S++[((Hm l[i] (1900+(Y:Int)),l[i]):Trn)]).Perm (refT l nm Y (i+1)):=by rw[refT_yes hi ⟨hnm,hw⟩];exact hj2.append_right _
   refine za<|Ab<|Bl<|Dw vm<|Dw vm<|Dw vm<|?_;refine D' (Bh lk lk Gk nb ro om ro rfl) pt ?_;refine Dw (Cj lk dp3)<|Dw (Ba lk gt)<|Dw vm<|Dw vm<|?_;refine D' (Bh lk lk Gk nb ro om ro rfl) pt ?_;refine Dw (Cj lk dp4)<|Dw (Ax lk Cn rfl)<|?_;refine Br mp (λhE hX=>ron_r hr hy) pt ?_;refine Dw vm<|Dw (B7 lk gt)<|Dw (B7 lk gt)<|D5 rfl rfl (hlk hn rfl) (Lv) pt B2<|Bi<|?_;refine Eg J4 ?_;refine E' (Ai lk cv gx rfl nb rfl Bo hs1) ptn<|ms<|Ab<|Bl<|Dw (Ak lk gx Ap rfl)<|?_;refine Br mp (λhE hX=>rnum_r hd2) pt ?_;refine D' (J8 lk lki om om) pt ?_;refine Dw vm<|Dw vm<|?_;refine D' (Bh lk lk Gk nb ro om ro rfl) pt ?_;refine Dw (Cj lk dp7)<|Dw (Ba lk gt)<|?_;refine D' (Du lk lk om om) pt ?_;refine Dw vm<|Dw vm<|?_;refine D' (Bh lk lk Gk nb ro om ro rfl) pt ?_;refine Dw (Ax lk Jj rfl)<|Dw (Bb (Ph cw cw))<|D5 rfl rfl (hlk hn rfl) (Lv) pt B2<|Bi<|?_;refine Eg Hb ?_;refine E' (Ai lk cv gx rfl nb rfl Pg hs2) ptn<|sn'<|wm<|Vw (Ak lk gx Vh rfl)<|E' (Ep (Td cw) hl3 ha3) pt<|?_;refine E' (C6 (C0 lk gx rfl Y4 nb) lk gx (nT _) om rfl hs0) pt ?_;refine ms<|wm<|Vw (Ej lk)<|?_;refine V' (Ch lk lki om om) pt ?_;refine ms<|Ah<|?_;refine It (ι:=Nat×List Trn) (λ⟨k,M⟩=>[(11,.own (N+0) (v+1) M.length),(17,iv (k:Int))]++rn' 108 31) (λ⟨k,M⟩=>[(0,.mk (v+1) 305 12 (rows trnC M))]) (λ⟨k,M⟩=>k<=S.length/\M.Perm (S++[((Hm l[i] (1900+(Y:Int)),l[i]):Trn)])/\insR leT S.length k M/\M[k]?=some ((Hm l[i] (1900+(Y:Int)),l[i]):Trn)) (λ⟨k,M⟩=>k) (⟨S.length,S++[((Hm l[i] (1900+(Y:Int)),l[i]):Trn)]⟩) (by exact⟨Nat.le_refl _,List.Perm.refl _,Q4 (by simp) (by simpa using hj3),by simp⟩) (by try simp only[sm',Nat.reduceAdd];exact ALe.same (by repeat (first | exact wk0 | refine wka ?_ | refine wk1 rfl ?_ | refine wk1 (by first | rfl | exact ivx (by simp) | exact ivx (by simp;omega) | (simp;done)) ?_)) (by simp only[Bt,C3];rfl)) ?_;rintro⟨k,M⟩ hi4;try simp only[sm',Nat.reduceAdd]
   obtain⟨hk1,hk2,hk3,hk4⟩:=hi4;have hkl:=hk2.length_eq;simp only[List.length_append,List.length_singleton] at hkl;refine Ab<|Ab<|Bl<|Dw vm<|Dw (C7 lk lki)<|Dw vm<|?_;refine dq' (t:=110) gt pt pt (λhg110=>?_) (λhg110=>?_)
   .obtain⟨j,rfl⟩ : ∃ j,k=j+1:=⟨k-1,by omega⟩;have hz3:j+1<M.length:=by omega
    have hMk:M[j+1]=((Hm l[i] (1900+(Y:Int)),l[i]):Trn):=by rw[List.getElem?_eq_getElem hz3] at hk4;exact Option.some.inj hk4
    refine dO<|Dw vm<|dO<|Dw vm<|dO<|?_;refine D' (Ch lk lki om om) pt ?_;refine d_do gt ?_;refine D' (Ck (k:=j) lk lk gx B3 nb ro om (by first | rfl | (simp;done) | omega)) pt ?_;refine dO<|Dw (Df lk)<|dO<|?_;refine D' (E7 lk gx B3 om nb gt0) pt ?_;refine dO<|dg<|dO<|Dw (Aa lk gx gt0)<|dO<|Dw (C7 lk lk)<|Dw (Ar lk lk)<|Bi<|?_;refine B9 ?_;refine sn' ?_;refine cd' lk (λhc9=>?_) (λhc9=>?_)
    .have hz6:¬leT M[j] M[j+1]:=by rw[hMk];intro hle;have hle:(M[j]).1<=rDy l[i] (1900+(Y:Int))*86400+l[i].2.2.2.2.2.1:=hle;omega
     obtain⟨hz4,hz5⟩:=Ty leT_tot hk3 hz3 hz6;refine za<|Ab<|Ah<|Bl<|Dw vm<|Dw vm<|Dw vm<|Dw vm<|?_;refine D' (Ch lk lki om om) pt ?_;refine Dw vm<|Dw vm<|?_;refine D' (Ch lk lki om om) pt ?_;refine D' (Ck (k:=j) lk lk gx B3 nb ro om (by first | rfl | (simp;done) | omega)) pt ?_;refine D' (Iv lk gx B3 om rfl) pt ?_;refine Dw vm<|Dw vm<|?_;refine D' (Ck (k:=j+1) lk lk gx B3 nb ro om (by first | rfl | (simp;done) | omega)) pt ?_;refine D' (Iv lk gx B3 om rfl) pt ?_;refine D' (Ck (k:=j+1) lk lk gx B3 nb ro om (by first | rfl | (simp;done) | omega)) pt ?_;refine Bi ?_;refine B9 ?_;refine E' (Nn (z:=M[j]) lk cv gx B3 rfl om hs0) ptn ?_;refine V' (Ck (k:=j) lk lk gx B3 nb (by first | rfl | first | omega | (rw[List.length_set];omega)) (by first | omega | (rw[List.length_set];omega)) (by first | rfl | (simp;done) | first | omega | (rw[List.length_set];omega))) pt ?_;refine E' (Nn (z:=M[j+1]) lk cv gx B3 rfl (by first | omega | (rw[List.length_set];omega)) hs0) ptn ?_;refine Am<|Aw<|An<|Aq<|mw<|?_;refine V' (Ch lk lki om om) pt ?_;refine mw<|Am<|Az<|?_;refine lU' (⟨j,(M.set (j+1) M[j]).set j M[j+1]⟩) (by (try dsimp only);exact⟨by omega,hz5.trans hk2,hz4,by simp[hMk,show j<M.length by omega]⟩) (by refine zz ?_;exact ALe.same (by repeat (first | exact wk0 | refine wka ?_ | refine wk1 rfl ?_ | refine wk1 (by first | rfl | exact ivx om | (simp;done)) ?_)) rfl)
    have hz7:leT M[j] M[j+1]:=by rw[hMk];show (M[j]).1<=rDy l[i] (1900+(Y:Int))*86400+l[i].2.2.2.2.2.1;omega
    have hz6:=Q0 leT_tr hk3 hz3 hz7;rw[List.take_of_length_le om] at hz6;refine Bd<|As<|As<|Bp<|Aw<|An<|Aq<|mw<|?_;refine ad<|mw<|Am<|Az<|?_;refine lU' (⟨i+1,M,v+1⟩) (by (try dsimp only);exact⟨by omega,hk2.trans hpS,hz6⟩) (by refine zz ?_;exact bkE' 1 hn hlt (by repeat (first | exact wk0 | refine wka ?_ | refine wk1 rfl ?_ | refine wk1 (by first | rfl | exact ivx om | (rw[cD hi hnm]) | (simp;done)) ?_)))
   obtain rfl:k=0:=by omega
   have hz6:=Q3 hk3;rw[List.take_of_length_le om] at hz6;refine dn<|dn<|dn<|dn<|dn<|dn<|dn<|dn<|dn<|Dw (Ao lk lkb)<|Bi<|?_;refine B9 ?_;refine sn'<|Cf lk<|Bd<|As<|As<|Bp<|Aw<|An<|Aq<|mw<|?_;refine ad<|mw<|Am<|Az<|?_;refine lU' (⟨i+1,M,v+1⟩) (by (try dsimp only);exact⟨by omega,hk2.trans hpS,hz6⟩) (by refine zz ?_;exact bkE' 1 hn hlt (by repeat (first | exact wk0 | refine wka ?_ | refine wk1 rfl ?_ | refine wk1 (by first | rfl | exact ivx om | (rw[cD hi hnm]) | (simp;done)) ?_)))
  have hje:l.length<=i:=by omega
  refine Bd<|As<|As<|Bp<|Aw<|An<|Aq<|mw<|?_;refine ad<|mw<|Am<|Az<|?_;refine lU' (⟨Y+1,S,v⟩) (by (try dsimp only);exact⟨by omega,by rw[<-sF hY hje];exact hj2,hj3⟩) (by refine zz ?_;exact ALe.same (by repeat (first | exact wk0 | refine wka ?_ | refine wk1 rfl ?_ | refine wk1 (by first | rfl | exact ivx om | (rw[thB_year hje])) ?_)) rfl)
 have hY9:Y=201:=by omega
 subst hY9;rw[refT_all] at hY2;have hP:=hY2.trans (eW hok2);refine Bd<|As<|As<|Bp<|An<|Ab<|wm<|?_;refine V' ((by first | exact v_not lk | exact Bj lk)) pt ?_;refine sn' ?_;refine cd' lk (λhc10=>?_) (λhc10=>?_)
 .rw[if_pos (by have:=hc10;rw[oC,Bool.not_eq_true'] at this;exact this)] at hE;refine wm<|mr<|Ag<|Ad ry<|rtW'<|?_;rw[Kh (by rw[hE];decide),hE];exact Wk.tup (wkw Wk.nilF (wk1 rfl wk0))
 rw[if_neg (by have:=hc10;rw[oC,Bool.not_eq_false'] at this;rw[this];simp)] at hE;have hTV:=Ws (sh:=sh) hE hP hY3;have hSO : ∀ t∈S,Dd t.2=0 /\ -2592000000<=t.1/\t.1<=4320172800:=λt ht=>Rp hok2 (hP.mem_iff.1 ht);have hSlen:=hP.length_eq;have hSl2:=Pj (nm:=nm) hok2;refine za<|wr'<|mv' lkn pt18<|Am<|B0 (ALe.own0' (st':=3) (ty:=242) gt18 hl1 pt18 ha1)<|Ab<|wr'<|mv' lki pt19<|sn'<|Ah<|?_;refine w_lp (ι:=Nat) (λ(a:Nat)=>[(18,.own (N+1) a (outV sh 0 (S.take a)).length),(19,iv (a:Int)),(6,.any),(7,.any),(20,.any),(21,.any)]++rn' 141 64) (λ(a:Nat)=>[(1,.mk a 242 3 (rows timC (outV sh 0 (S.take a))))]) (λ(a:Nat)=>a<=S.length /\ ∀ j (h:j+1<S.length),j+1<a->172800<=S[j+1].1-S[j].1) (λ(a:Nat)=>S.length-a) (0) (by exact⟨Nat.zero_le _,λj _ h=>by omega⟩) ?_;rintro a hi5;try simp only[sm',Nat.reduceAdd]
 obtain⟨hm1,hm2⟩:=hi5;refine Ab<|wm<|mw<|Vw (Ej lk)<|Vw (Bm lk lk)<|sn'<|?_;refine cd' lk (λhc11=>?_) (λhc11=>?_)
 .have ha:a<S.length:=by omega
  obtain⟨hb0,hb1⟩:=hSO _ (List.getElem_mem ha);have hsb:=oF (i:=a) λt ht=>(hSO t ht).1;have hol:(outV sh 0 (S.take a)).length=a:=by rw[J0,List.length_take];omega
  have hol2:(outV sh 0 (S.take (a+1))).length=a+1:=by rw[J0,List.length_take];omega
  refine za<|Ab<|Ah<|wm<|mw<|?_;refine V' (Ck lk lk gx B3 nb ro om (by first | rfl | (simp;done) | omega)) pt ?_;refine V' (Df lk) pt ?_;refine V' (E7 lk gx B3 om nb gt0) pt ?_;refine mw<|ms<|Ab<|wm<|Vw (C7 lk lki)<|sn'<|?_;refine cd' lk (λhc12=>?_) (λhc12=>?_)
  .obtain⟨hb3,hb4⟩:=hSO _ (List.getElem_mem (show a-1<S.length by omega));have hsv:=svAt_pre (l:=S) (show 0<a by omega) om;rw[hsv] at hsb;refine Ab<|wm<|mw<|mw<|?_;refine V' (Ch lk lki om om) pt ?_;refine V' (Ck (k:=a-1) lk lk gx B3 nb ro om (by first | rfl | (simp;done) | omega)) pt ?_;refine V' (Df lk) pt ?_;refine V' (E7 lk gx B3 om nb gt0) pt ?_;refine V' (Ch lk lk om om) pt ?_;refine Vw (Bm lk lki)<|sn'<|?_;refine cd' lk (λhc13=>?_) (λhc13=>?_)
   .have hG:gapB S=true:=iT ha om hc13;refine wm<|mr<|Ag<|Ag<|Au<|Ag<|Ag<|Au<|Ag<|?_;refine Ad ry<|rtW'<|?_;rw[hTV,if_pos hG];exact Wk.tup (wkw Wk.nilF (wk1 rfl wk0))
   refine za<|Aq<|mw<|mw<|?_;refine V' (Ch lk lki om om) pt ?_;refine V' (Ck (k:=a-1) lk lk gx B3 nb ro om (by first | rfl | (simp;done) | omega)) pt ?_;refine Vw (Df lk)<|Vw (H8 lk)<|?_;refine V' (E7 lk gx B3 om nb gt10) pt ?_;refine ms<|Ab<|wm<|mw<|?_;refine V' (Ck lk lk gx B3 nb ro om (by first | rfl | (simp;done) | omega)) pt ?_;refine Vw (Df lk)<|Vw (H8 lk)<|?_;refine V' (E7 lk gx B3 om nb gt9) pt ?_;refine sn'<|Ah<|wr'<|Vw (Cy lk lki)<|ms<|?_;refine cd' lk (λhc14=>?_) (λhc14=>?_)
   .have hT:timV sh (svAt S a) S[a]=(S[a].1-(sh+svAt S a),rSv S[a].2,rLt S[a].2):=by unfold timV offV;rw[if_pos hc14]
    refine Aq<|mw<|mw<|mw<|?_;refine V' (Du lk lk om om) pt ?_;refine V' (Ch lk lk om om) pt ?_;refine mw<|Am<|Aw<|An<|Bl<|Dw vm<|Dw vm<|Dw vm<|Dw vm<|?_;refine D' (Ck lk lk gx B3 nb ro om (by first | rfl | (simp;done) | omega)) pt ?_;refine Dw (Df lk)<|Dw (H8 lk)<|?_;refine D' (E7 lk gx B3 om nb gt10) pt ?_;refine Dw vm<|Dw vm<|?_;refine D' (Ck lk lk gx B3 nb ro om (by first | rfl | (simp;done) | omega)) pt ?_;refine Dw (Df lk)<|Dw (H8 lk)<|?_;refine D' (E7 lk gx B3 om nb gt11) pt ?_;refine Dw (Bb (Dq cw cw cw))<|D5 rfl rfl (hlk hn rfl) (G8 (D1 cw)) pt B2<|Bi<|?_;refine Eg Hb ?_;refine E' (C6 (C0 lk gx rfl Cn nb) lk gx (H0 _) om rfl hs1) pt ?_;refine mw<|Am<|Aw<|An<|Aq<|mw<|?_;refine ad<|mw<|Am<|Az<|?_;refine lU' (a+1) (by (try dsimp only);exact⟨by omega,λj hj h=>by by_cases e:j+1=a;(subst e;(try simp only[Nat.add_sub_cancel] at hc13);omega);exact hm2 j hj om⟩) (by refine zz ?_;exact bkE' 2 hn hlt (by repeat (first | exact wk0 | refine wka ?_ | refine wk1 rfl ?_ | refine wk1 (by first | rfl | exact ivx om | (rw[hol2,hol];done) | (rw[hol2,hol])) ?_)) (by rw[Il ha,hT,Bt,C3];(try rw[hsv]);rfl))
   have hc14':¬rCk S[a].2=1:=hc14;refine wr'<|Vw (Cy lk lki)<|ms<|?_;refine cd' lk (λhc15=>?_) (λhc15=>?_)
   .have hT:timV sh (svAt S a) S[a]=(S[a].1-sh,rSv S[a].2,rLt S[a].2):=by unfold timV offV;rw[if_neg hc14',if_pos hc15]
    refine Aq<|mw<|mw<|?_;refine V' (Ch lk lk om om) pt ?_;refine mw<|Am<|Aw<|An<|Bl<|Dw vm<|Dw vm<|Dw vm<|Dw vm<|?_;refine D' (Ck lk lk gx B3 nb ro om (by first | rfl | (simp;done) | omega)) pt ?_;refine Dw (Df lk)<|Dw (H8 lk)<|?_;refine D' (E7 lk gx B3 om nb gt10) pt ?_;refine Dw vm<|Dw vm<|?_;refine D' (Ck lk lk gx B3 nb ro om (by first | rfl | (simp;done) | omega)) pt ?_;refine Dw (Df lk)<|Dw (H8 lk)<|?_;refine D' (E7 lk gx B3 om nb gt11) pt ?_;refine Dw (Bb (Dq cw cw cw))<|D5 rfl rfl (hlk hn rfl) (G8 (D1 cw)) pt B2<|Bi<|?_;refine Eg Hb ?_;refine E' (C6 (C0 lk gx rfl Cn nb) lk gx (H0 _) om rfl hs1) pt ?_;refine mw<|Am<|Aw<|An<|Aq<|mw<|?_;refine ad<|mw<|Am<|Az<|?_;refine lU' (a+1) (by (try dsimp only);exact⟨by omega,λj hj h=>by by_cases e:j+1=a;(subst e;(try simp only[Nat.add_sub_cancel] at hc13);omega);exact hm2 j hj om⟩) (by refine zz ?_;exact bkE' 2 hn hlt (by repeat (first | exact wk0 | refine wka ?_ | refine wk1 rfl ?_ | refine wk1 (by first | rfl | exact ivx om | (rw[hol2,hol];done) | (rw[hol2,hol])) ?_)) (by rw[Il ha,hT,Bt,C3];(try rw[hsv]);rfl))
   have hT:timV sh (svAt S a) S[a]=(S[a].1,rSv S[a].2,rLt S[a].2):=by unfold timV offV;rw[if_neg hc14',if_neg hc15,Int.sub_zero]
   refine Be<|Aw<|An<|Bl<|Dw vm<|Dw vm<|Dw vm<|Dw vm<|?_;refine D' (Ck lk lk gx B3 nb ro om (by first | rfl | (simp;done) | omega)) pt ?_;refine Dw (Df lk)<|Dw (H8 lk)<|?_;refine D' (E7 lk gx B3 om nb gt10) pt ?_;refine Dw vm<|Dw vm<|?_;refine D' (Ck lk lk gx B3 nb ro om (by first | rfl | (simp;done) | omega)) pt ?_;refine Dw (Df lk)<|Dw (H8 lk)<|?_;refine D' (E7 lk gx B3 om nb gt11) pt ?_;refine Dw (Bb (Dq cw cw cw))<|D5 rfl rfl (hlk hn rfl) (G8 (D1 cw)) pt B2<|Bi<|?_;refine Eg Hb ?_;refine E' (C6 (C0 lk gx rfl Cn nb) lk gx (H0 _) om rfl hs1) pt ?_;refine mw<|Am<|Aw<|An<|Aq<|mw<|?_;refine ad<|mw<|Am<|Az<|?_;refine lU' (a+1) (by (try dsimp only);exact⟨by omega,λj hj h=>by by_cases e:j+1=a;(subst e;(try simp only[Nat.add_sub_cancel] at hc13);omega);exact hm2 j hj om⟩) (by refine zz ?_;exact bkE' 2 hn hlt (by repeat (first | exact wk0 | refine wka ?_ | refine wk1 rfl ?_ | refine wk1 (by first | rfl | exact ivx om | (rw[hol2,hol];done) | (rw[hol2,hol])) ?_)) (by rw[Il ha,hT,Bt,C3];(try rw[hsv]);rfl))
  have hsv:svAt S a=0:=by rw[show a=0 by omega];rfl
  refine za<|Ab<|wm<|mw<|?_;refine V' (Ck lk lk gx B3 nb ro om (by first | rfl | (simp;done) | omega)) pt ?_;refine Vw (Df lk)<|Vw (H8 lk)<|?_;refine V' (E7 lk gx B3 om nb gt9) pt ?_;refine sn'<|Ah<|wr'<|Vw (Cy lk lki)<|ms<|?_;refine cd' lk (λhc14=>?_) (λhc14=>?_)
  .have hT:timV sh (svAt S a) S[a]=(S[a].1-(sh+svAt S a),rSv S[a].2,rLt S[a].2):=by unfold timV offV;rw[if_pos hc14]
   refine Aq<|mw<|mw<|mw<|?_;refine V' (Du lk lk om om) pt ?_;refine V' (Ch lk lk om om) pt ?_;refine mw<|Am<|Aw<|An<|Bl<|Dw vm<|Dw vm<|Dw vm<|Dw vm<|?_;refine D' (Ck lk lk gx B3 nb ro om (by first | rfl | (simp;done) | omega)) pt ?_;refine Dw (Df lk)<|Dw (H8 lk)<|?_;refine D' (E7 lk gx B3 om nb gt10) pt ?_;refine Dw vm<|Dw vm<|?_;refine D' (Ck lk lk gx B3 nb ro om (by first | rfl | (simp;done) | omega)) pt ?_;refine Dw (Df lk)<|Dw (H8 lk)<|?_;refine D' (E7 lk gx B3 om nb gt11) pt ?_;refine Dw (Bb (Dq cw cw cw))<|D5 rfl rfl (hlk hn rfl) (G8 (D1 cw)) pt B2<|Bi<|?_;refine Eg Hb ?_;refine E' (C6 (C0 lk gx rfl Cn nb) lk gx (H0 _) om rfl hs1) pt ?_;refine mw<|Am<|Aw<|An<|Aq<|mw<|?_;refine ad<|mw<|Am<|Az<|?_;refine lU' (a+1) (by (try dsimp only);exact⟨by omega,λj hj h=>by by_cases e:j+1=a;(subst e;(try simp only[Nat.add_sub_cancel] at hc13);omega);exact hm2 j hj om⟩) (by refine zz ?_;exact bkE' 2 hn hlt (by repeat (first | exact wk0 | refine wka ?_ | refine wk1 rfl ?_ | refine wk1 (by first | rfl | exact ivx om | (rw[hol2,hol];done) | (rw[hol2,hol])) ?_)) (by rw[Il ha,hT,Bt,C3];(try rw[hsv]);rfl))
  have hc14':¬rCk S[a].2=1:=hc14;refine wr'<|Vw (Cy lk lki)<|ms<|?_;refine cd' lk (λhc15=>?_) (λhc15=>?_)
  .have hT:timV sh (svAt S a) S[a]=(S[a].1-sh,rSv S[a].2,rLt S[a].2):=by unfold timV offV;rw[if_neg hc14',if_pos hc15]
   refine Aq<|mw<|mw<|?_;refine V' (Ch lk lk om om) pt ?_;refine mw<|Am<|Aw<|An<|Bl<|Dw vm<|Dw vm<|Dw vm<|Dw vm<|?_;refine D' (Ck lk lk gx B3 nb ro om (by first | rfl | (simp;done) | omega)) pt ?_;refine Dw (Df lk)<|Dw (H8 lk)<|?_;refine D' (E7 lk gx B3 om nb gt10) pt ?_;refine Dw vm<|Dw vm<|?_;refine D' (Ck lk lk gx B3 nb ro om (by first | rfl | (simp;done) | omega)) pt ?_;refine Dw (Df lk)<|Dw (H8 lk)<|?_;refine D' (E7 lk gx B3 om nb gt11) pt ?_;refine Dw (Bb (Dq cw cw cw))<|D5 rfl rfl (hlk hn rfl) (G8 (D1 cw)) pt B2<|Bi<|?_;refine Eg Hb ?_;refine E' (C6 (C0 lk gx rfl Cn nb) lk gx (H0 _) om rfl hs1) pt ?_;refine mw<|Am<|Aw<|An<|Aq<|mw<|?_;refine ad<|mw<|Am<|Az<|?_;refine lU' (a+1) (by (try dsimp only);exact⟨by omega,λj hj h=>by by_cases e:j+1=a;(subst e;(try simp only[Nat.add_sub_cancel] at hc13);omega);exact hm2 j hj om⟩) (by refine zz ?_;exact bkE' 2 hn hlt (by repeat (first | exact wk0 | refine wka ?_ | refine wk1 rfl ?_ | refine wk1 (by first | rfl | exact ivx om | (rw[hol2,hol];done) | (rw[hol2,hol])) ?_)) (by rw[Il ha,hT,Bt,C3];(try rw[hsv]);rfl))
  have hT:timV sh (svAt S a) S[a]=(S[a].1,rSv S[a].2,rLt S[a].2):=by unfold timV offV;rw[if_neg hc14',if_neg hc15,Int.sub_zero]
  refine Be<|Aw<|An<|Bl<|Dw vm<|Dw vm<|Dw vm<|Dw vm<|?_;refine D' (Ck lk lk gx B3 nb ro om (by first | rfl | (simp;done) | omega)) pt ?_;refine Dw (Df lk)<|Dw (H8 lk)<|?_;refine D' (E7 lk gx B3 om nb gt10) pt ?_;refine Dw vm<|Dw vm<|?_;refine D' (Ck lk lk gx B3 nb ro om (by first | rfl | (simp;done) | omega)) pt ?_;refine Dw (Df lk)<|Dw (H8 lk)<|?_;refine D' (E7 lk gx B3 om nb gt11) pt ?_;refine Dw (Bb (Dq cw cw cw))<|D5 rfl rfl (hlk hn rfl) (G8 (D1 cw)) pt B2<|Bi<|?_;refine Eg Hb ?_;refine E' (C6 (C0 lk gx rfl Cn nb) lk gx (H0 _) om rfl hs1) pt ?_;refine mw<|Am<|Aw<|An<|Aq<|mw<|?_;refine ad<|mw<|Am<|Az<|?_;refine lU' (a+1) (by (try dsimp only);exact⟨by omega,λj hj h=>by by_cases e:j+1=a;(subst e;(try simp only[Nat.add_sub_cancel] at hc13);omega);exact hm2 j hj om⟩) (by refine zz ?_;exact bkE' 2 hn hlt (by repeat (first | exact wk0 | refine wka ?_ | refine wk1 rfl ?_ | refine wk1 (by first | rfl | exact ivx om | (rw[hol2,hol];done) | (rw[hol2,hol])) ?_)) (by rw[Il ha,hT,Bt,C3];(try rw[hsv]);rfl))
 obtain rfl:a=S.length:=by omega
 rw[List.take_length];have hG:gapB S=false:=gap_ok2 hm2 (Nat.le_refl _);rw[if_neg (by rw[hG];simp)] at hTV;have hol:=J0 S sh 0;refine Bd<|As<|As<|Bp<|An<|Ab<|wm<|Vw (Ej lk)<|Vw (C7 lk lki)<|sn'<|?_;refine cd' lk (λhc16=>?_) (λhc16=>?_)
 .refine wm<|mr<|Ag<|Ad ry<|rtW'<|?_;rw[hTV,if_pos om];exact Wk.tup (wkw Wk.nilF (wk1 rfl wk0))
 refine Be ?_;refine B0 (ALe.iceR (hga hn rfl) gt18 (List.take_of_length_le (by rw[H0];exact Nat.le_refl _)) (by rw[H0];exact Nat.le_refl _) pt18 hs1) ?_;refine wm<|mw<|mr<|Ad ry<|rtW'<|?_;rw[hTV,if_neg om];exact Wk.tup (wkw Wk.full (wk1 rfl wk0))
end
section
open Go.Ab Go.RowKit Civ
attribute [local simp] Eb Fi E5 Dn Cp Gw Ix
def k134:=Kx 134 []
def k265:=Kx 265 [.e [] 10 []]
def k214:=Kx 214 []
def k266:=Kx 266 [.e [] 11 []]
def rX {a:List Rul}{nm:ByteArray}(hz:z.length<=9000000000000000000):Ac 134 [.agg (srcB a z k),sv nm] h (iv (I2 z nm)):=by
 refine tI' k134 λN hn _ _ hbd=>?_;simp only[tb'] at hbd ⊢;refine wr'<|E' (Bq cv rfl hl0 ha0) pt<|ms<|Ab<|wk'<|Ah<|?_;refine w_lp (ι:=Nat) (λ(i:Nat)=>[(5,iv (i:Int)),(4,.any)]++rn' 6 16) (λ(i:Nat)=>[]) (λ(i:Nat)=>i<=z.length /\ ∀ j (hj:j<z.length),j<i->decide (z[j].1=nm)=false) (λ(i:Nat)=>z.length-i) (0) (by exact⟨by omega,λj hj h0=>absurd h0 om⟩) ?_;rintro i hi1;try simp only[sm',Nat.reduceAdd]
 obtain⟨hk1,hk2⟩:=hi1;refine Ab<|wm<|fq<|Vw (Aa lk gx gt1)<|Vw (Bf lk)<|Vw (Bm lk lk)<|sn'<|?_;refine cd' lk (λhc1=>?_) (λhc1=>?_)
 .have hi:i<z.length:=by omega
  refine za<|Ab<|Ah<|wr'<|fq<|Vw (Aa lk gx gt1)<|mw<|?_;refine V' (Bh lk lk Ho nb ro om ro rfl) pt ?_;refine Vw (Cj lk dp0)<|Vw (Ba lk gt)<|mw<|Vw (J6 lk lk)<|sn'<|?_;refine cd' lk (λhc2=>?_) (λhc2=>?_)
  .refine wm<|mr<|Au<|Ag<|Ag<|Au<|Ag<|Ad rz<|rT'<|?_;refine ivx ?_;have hf:z.findIdx (λy:Zon=>decide (y.1=nm))=i:=K6 hi (decide_eq_true hc2) (λj hj=>hk2 j om hj);rw[I2,idxV,hf,if_pos hi]
  refine Be<|Aw<|An<|Aq<|mw<|?_;refine ad<|mw<|Am<|Az<|?_;refine lT' (i+1) (by (try dsimp only);refine⟨by omega,λj hj h0=>?_⟩;by_cases e:j=i;(subst e;exact decide_eq_false hc2);exact hk2 j hj om)
 refine Bd<|As<|As<|Bp<|An<|wo<|Ad rz<|rT'<|?_;refine ivx ?_;have hf:z.findIdx (λy:Zon=>decide (y.1=nm))=z.length:=List.findIdx_eq_length.2 (λx hx=>by obtain⟨j,hj,rfl⟩:=List.getElem_of_mem hx;exact hk2 j hj om);rw[I2,idxV,hf,if_neg om]
def rendOf_a (hd:Db x.2.2.2.2.2.1.1 x.2.2.2.2.2.1.2.1 x.2.2.2.2.2.1.2.2=true) (ha:0<=x.2.2.2.2.2.2.1/\x.2.2.2.2.2.2.1<=172800) (hs : -64800<=x.1/\x.1<=64800) :
  ACalls Tryz.prog 265 [.agg (eraC x)] h λy h'=>h'=h/\y=.ret (iv (endV x)):=by
 have hnb:=Tp hd;have hdi:=E8.1 hd;have hml:=H5 x.2.2.2.2.2.1.1 x.2.2.2.2.2.1.2.1;refine tI' k265 λN hn _ _ hbd=>?_;simp only[tb'] at hbd ⊢;refine wr'<|E' (Bq cv rfl hl0 ha0) pt<|ms<|Ab<|Bl<|dg<|Dw (Df lk)<|Dw (Ak lk gx Jk rfl)<|?_;refine Br mp (λhE hX=>Ik om om om om om om) pt ?_;refine D' (J8 lk lki om om) pt ?_;refine dg<|Dw (Df lk)<|Dw (Aa lk gx gt8)<|?_;refine D' (Du lk lk om om) pt ?_;refine Dw vm<|Bi<|?_;refine B9 ?_;refine sn'<|Ab<|wr'<|fq<|Vw (Df lk)<|Vw (Aa lk gx gt9)<|Vw (Cy lk lki)<|sn'<|?_;refine cd' lk (λhc1=>?_) (λhc1=>?_)
 .refine Aq<|mw<|fq<|Vw (Aa lk gx gt0)<|?_;refine V' (Ch lk lk om om) pt ?_;refine ms<|wm<|mr<|Ad rz<|rT'<|?_;refine ivx ?_;unfold endV;rw[if_pos hc1]
 refine za<|wm<|mr<|Ad rz<|rT'<|?_;refine ivx ?_;unfold endV;rw[if_neg hc1,Int.sub_zero]
def rends_a {nm:ByteArray}(hz:okZ es):Ac 214 [.agg [sv nm,.sl es.length 10 false (rows eraC es)]] h (.sl (By es).length 1 false (rows intC (By es))):=by
 have hlen:=hz.len;have hne:=List.length_pos_iff.2 hz.ne;have hel:=Hv es;refine tW' k214 λN hn hlt _ hbd=>?_;simp only[tb'] at hbd ⊢;refine wr'<|E' (Bq (cvl lk0 rfl) rfl hl0 ha0) pt1<|mv' lkn pt2<|sn'<|wr'<|mv' lkn pt3<|Am<|B0 (ALe.own0' (st':=1) (ty:=3) gt3 hl1 pt3 ha1)<|Ab<|wr'<|?_;refine ms<|Ah<|?_;refine w_lp (ι:=Nat) (λ(k:Nat)=>[(3,.own (N+1) k k),(4,iv (k:Int))]++rn' 5 17) (λ(k:Nat)=>[(1,.mk k 3 1 (rows intC ((By es).take k)))]) (λ(k:Nat)=>k+1<=es.length) (λ(k:Nat)=>es.length-k) (0) (by exact hne) ?_;rintro k hi1;try simp only[sm',Nat.reduceAdd]
 replace hi1:k+1<=es.length:=hi1;have htl:((By es).take k).length=k:=by rw[List.length_take,hel];omega
 refine Ab<|wm<|fq<|Vw (Aa lk gx gt1)<|Vw (Bf lk)<|?_;refine V' (Ch lk lki om om) pt ?_;refine Vw (Bm lk lk)<|sn'<|?_;refine cd' lk (λhc1=>?_) (λhc1=>?_)
 .have hke:k+1<es.length:=by omega
  obtain⟨hd,ha⟩:=hz.un k om hke;have hsh : -64800<=es[k].1/\es[k].1<=64800:=(hz.fm _ (List.getElem_mem om)).2.1;refine za<|Ab<|Ah<|Aq<|mw<|fq<|Vw (Aa lk gx gt1)<|mw<|?_;refine V' (Bh lk lk F5 nb ro om ro rfl) pt ?_;refine Vw (Ax lk Fx rfl)<|Af mp (rendOf_a (x:=es[k]) hd ha hsh) pt<|E' (Ep (Hk cw) hl2 ha2) pt<|?_;refine E' (C6 (C0 lk (hga hn rfl) rfl Ee nb) lk (hga hn rfl) ((Ey _).trans (by rw[htl])) om rfl hs1) pt ?_;refine mw<|Am<|Aw<|An<|Aq<|mw<|?_;refine ad<|mw<|Am<|Az<|?_;refine lU' (k+1) (by (try dsimp only);omega) (by refine zz ?_;exact bk' 2 hn hlt (by rw[Uc hke,Bt,C3];rfl))
 refine Bd<|As<|As<|Bp<|?_;refine B0 (ALe.iceR (hga hn rfl) gt3 (List.take_of_length_le (by rw[Ey,htl];omega)) (by rw[Ey,htl];omega) pt3 hs1) ?_;refine wm<|mr<|Ad rz<|rtW'<|?_;rw[show k=(By es).length by omega,List.take_length];exact Wk.full
def occ1 {l:Bs}{x:UInt8}{j:Nat}(h:j<l.length):Lib.occAt l [x] j=(x==l[j]):=by
 unfold Lib.occAt;rw[List.drop_eq_getElem_cons h];simp[List.isPrefixOf]
def tT {l:Bs}{x:UInt8}(hi:i<l.length) (hx:l[i]=x) (hb : ∀ j (hj:j<l.length),j<i->l[j]≠x):Lib.index l [x]=i:=by
 refine Lib.index_hit (λj hj=>?_) (Nat.le_of_lt hi) (by rw[occ1 hi,hx];simp);rw[occ1 om];simpa using λe=>hb j om hj e.symm
def iL {l:Bs}{x:UInt8}(hb : ∀ j (hj:j<l.length),l[j]≠x):Lib.index l [x] = -1:=by
 rcases Lib.index_spec l [x] with ⟨h,_⟩ | ⟨i,_,h2,h3,_⟩
 .exact h
 exfalso;rcases Nat.lt_or_ge i l.length with hi | hi
 .rw[occ1 hi] at h3;exact hb i hi (by simpa using h3:x=l[i]).symm
 rw[Lib.occAt,List.drop_of_length_le hi] at h3;simp[List.isPrefixOf] at h3
def U6 {l:Bs}{p:Nat}(h:Lib.index l [37,115]=p) : ∃ h1:p<l.length,l[p]=37:=by
 rcases Lib.index_spec l [37,115] with ⟨h1,_⟩ | ⟨i,h1,h2,h3,_⟩
 .omega
 obtain rfl:p=i:=by omega
 rcases Nat.lt_or_ge p l.length with hi | hi
 .refine⟨hi,?_⟩;rw[Lib.occAt,List.drop_eq_getElem_cons hi] at h3;simp[List.isPrefixOf] at h3;exact h3.1.symm
 rw[Lib.occAt,List.drop_of_length_le hi] at h3;simp[List.isPrefixOf] at h3
def Xh {s:ByteArray}(h:allB Ec s=true) {j:Nat}(hj:j<(aB s).length):(aB s)[j]≠37/\(aB s)[j]≠47:=by
 unfold allB at h;rw[List.all_eq_true] at h;have:=h (aB s)[j] (List.getElem_mem hj);constructor <;> (intro e;rw[e] at this;revert this;decide)
def cT (fm:ByteArray) (i:Nat):Prop := ∀ j (hj:j<(aB fm).length),j<i->(aB fm)[j]≠47/\(aB fm)[j]≠37
def Si {lt:ByteArray}(hq:cT fm i) (hi:i<(aB fm).length) (hx:(aB fm)[i]=47):J9 fm lt sa=if 0<sa then bA ((aB fm).drop (i+1)) else bA ((aB fm).take i):=by
 have he:Lib.index (aB fm) [47]=i:=tT hi hx λj hj h=>(hq j hj h).1;unfold J9 cutL Lib.cut;rw[he];simp
def cut47_no (hq : ∀ j (hj:j<(aB fm).length),(aB fm)[j]≠47):(cutL fm [47]).2.2=false:=by
 unfold cutL Lib.cut;rw[iL hq];rfl
def lZ {fm lt:ByteArray}{sa:Int}{i:Nat}(hf:E0 fm=true) (hq:cT fm i) (hi:i<(aB fm).length) (hx:(aB fm)[i]=37) :
  i+2<=(aB fm).length/\J9 fm lt sa=bA ((aB fm).take i++aB lt++(aB fm).drop (i+2)):=by
 have h47:(cutL fm [47]).2.2=false:=by
  cases hc:(cutL fm [47]).2.2 with
  | false=>rfl
  | true =>
   exfalso
   unfold E0 at hf
   split at hf
   .cases hf
   try rw[if_pos hc] at hf
   simp only[Bool.and_eq_true] at hf
   have hp:=hf.1.2
   unfold cutL Lib.cut at hc hp
   split at hc
   .rename_i h0
    obtain⟨p,hp0⟩ : ∃ p:Nat,Lib.index (aB fm) [47]=p:=⟨(Lib.index (aB fm) [47]).toNat,by omega⟩
    rw[if_pos h0,hp0] at hp
    obtain⟨_,hpl,hp47⟩:=Qj hp0
    have hp47':(aB fm)[p]=47:=by rw[List.getElem?_eq_getElem hpl] at hp47;exact Option.some.inj hp47
    have hip:i<p:=by
     rcases Nat.lt_trichotomy i p with h | h | h
     .exact h
     .subst h;rw[hx] at hp47';cases hp47'
     exact absurd hp47' (hq p hpl h).1
    have:=(Xh hp (j:=i) (by have hi':i<fm.size:=hi;simp[aB,bA];omega)).1
    apply this
    simpa [aB,bA] using hx
   cases hc
 have hf2:=hf;unfold E0 at hf2;split at hf2
 .cases hf2
 rw[if_neg (by rw[h47];simp)] at hf2;simp only[Bool.and_eq_true] at hf2;have hp:=hf2.1;have he:Lib.index (aB fm) [37,115]=i:=by
  unfold cutL Lib.cut at hp;split at hp
  .rename_i h0;obtain⟨p,hp0⟩ : ∃ p:Nat,Lib.index (aB fm) [37,115]=p:=⟨(Lib.index (aB fm) [37,115]).toNat,by omega⟩;rw[hp0] at hp;obtain⟨hpl,hp37⟩:=U6 hp0;rcases Nat.lt_trichotomy i p with h | h | h
   .exfalso;have:=(Xh hp (j:=i) (by have hi':i<fm.size:=hi;simp[aB,bA];omega)).1;apply this;simpa [aB,bA] using hx
   .rw[hp0,h]
   exact absurd hp37 (hq p hpl h).2
  exfalso;have:=(Xh (s:=bA (aB fm)) hp (j:=i) hi).1;exact this hx
 refine⟨?_,?_⟩
 .rcases Lib.index_spec (aB fm) [37,115] with ⟨h1,_⟩ | ⟨p,h1,h2,h3,_⟩
  .omega
  obtain rfl:i=p:=by omega
  have h4:[37,115] <+: (aB fm).drop i:=by simpa [Lib.occAt] using h3
  have:=h4.length_le;simp at this;omega
 unfold J9;rw[if_neg (by rw[h47];simp)];unfold cutL Lib.cut;rw[he];simp
def gP {lt:ByteArray}(hq:cT fm (aB fm).length):J9 fm lt sa=fm:=by
 unfold J9;rw[if_neg (by rw[cut47_no λj hj=>(hq j hj hj).1];simp)];unfold cutL Lib.cut;split
 .rename_i h0;obtain⟨p,hp0⟩ : ∃ p:Nat,Lib.index (aB fm) [37,115]=p:=⟨(Lib.index (aB fm) [37,115]).toNat,by omega⟩;obtain⟨hpl,hp37⟩:=U6 hp0;exact absurd hp37 (hq p hpl hpl).2
 rfl
def eJ (hi:i<fm.size) (c:UInt8):((Dy fm i).toNat:Int)=(c.toNat:Int)↔(aB fm)[i]'hi=c:=by
 rw[Ji hi];have e:(aB fm)[i]'hi=fm[i]:=rfl;rw[e];constructor
 .intro h;exact UInt8.toNat_inj.1 om
 intro h;rw[h]
def Zx {lt:ByteArray}(hf:E0 fm=true) (hl:lt.size<=24) (hs:0<=sa):Ac 266 [sv fm,sv lt,iv sa] h (sv (J9 fm lt sa)):=by
 have hfl:=Ou hf;have hsz:(aB fm).length=fm.size:=rfl;refine tI' k266 λN hn _ _ hbd=>?_;simp only[tb'] at hbd ⊢;refine wk'<|Ab<|wk'<|Ah<|?_;refine w_lp (ι:=Nat) (λ(i:Nat)=>[(7,iv (i:Int)),(6,.any)]++rn' 8 39) (λ(i:Nat)=>[]) (λ(i:Nat)=>i<=fm.size/\cT fm i) (λ(i:Nat)=>fm.size-i) (0) (by exact⟨Nat.zero_le _,λj _ h=>by omega⟩) ?_;rintro i hi1;try simp only[sm',Nat.reduceAdd]
 obtain⟨hk1,hk2⟩:=hi1;refine Ab<|wm<|mw<|Vw (E6 lk)<|Vw (Bm lk lk)<|sn'<|?_;refine cd' lk (λhc1=>?_) (λhc1=>?_)
 .have hi:i<fm.size:=by omega
  refine za<|Ab<|Ah<|Ab<|wm<|mw<|?_;refine V' (v_ix lk lk om om) pt ?_;refine Vw (Cy lk lki)<|mw<|?_;refine sp' (t:=18) gt pt pt (λhg18=>?_) (λhg18=>?_)
  .have hx:(aB fm)[i]'hi=47:=(eJ hi 47).1 hg18;refine sd<|mw<|sd<|Vw (Cy lk lki)<|Vw (Ar lk lk)<|sn'<|?_;refine cd' lk (λhc2=>?_) (λhc2=>?_)
   .refine wm<|mw<|?_;refine V' (eZ lk on_ (oi lk) om om om) pt ?_;refine mr<|Ag<|Au<|Ag<|Ag<|Au<|Ag<|Ad rz<|rT'<|?_;rw[Si hk2 hi hx,if_neg om,eK];simp
   refine za<|Ab<|wm<|mw<|?_;refine V' (v_ix lk lk om om) pt ?_;refine Vw (Cy lk lki)<|sn'<|?_;refine Iu lk (by exact decide_eq_true hg18) ?_;refine wm<|mw<|?_;refine ad<|V' (eZ lk (oi lk) on_ om om om) pt ?_;refine mr<|Ag<|Au<|Ag<|Ag<|Au<|Ag<|Ad rz<|rT'<|?_;rw[Si hk2 hi hx,if_pos om,eK,List.take_of_length_le (by rw[List.length_drop,hsz];omega)];rfl
  have hx:(aB fm)[i]'hi≠47:=λe=>hg18 ((eJ hi 47).2 e);refine so<|so<|Vw (Ao lk lkb)<|sn'<|Cf lk<|za<|Ab<|wm<|mw<|?_;refine V' (v_ix lk lk om om) pt ?_;refine Vw (Cy lk lki)<|sn'<|?_;refine F2 lk (by exact decide_eq_false hg18) ?_;refine za<|wm<|mw<|?_;refine V' (v_ix lk lk om om) pt ?_;refine Vw (Cy lk lki)<|sn'<|?_;refine cd' lk (λhc4=>?_) (λhc4=>?_)
  .have hx2:(aB fm)[i]'hi=37:=(eJ hi 37).1 hc4;obtain⟨hi2,hN⟩:=lZ (lt:=lt) (sa:=sa) hf hk2 hi hx2;rw[hsz] at hi2;refine Ab<|Bl<|Dw vm<|Dw vm<|?_;refine D' (eZ lk on_ (oi lk) om om om) pt ?_;refine D' vm pt ?_;refine D' (v_addS lk lk (by first | omega | (rw[ByteArray.size_extract];omega))) pt ?_;refine Dw vm<|Dw vm<|?_;refine D' (Du lk lki om om) pt ?_;refine D' (eZ lk (oi lk) on_ om om om) pt ?_;refine D' (v_addS lk lk (by first | omega | (rw[ByteArray.size_append,ByteArray.size_extract,ByteArray.size_extract];omega))) pt ?_;refine Dw vm<|Bi<|?_;refine B9 ?_;refine sr<|Au<|Ag<|Ag<|Au<|Ag<|Ad rz<|rT'<|?_;rw[hN,eK,eK];refine congrArg _ ?_;apply ByteArray.ext;simp[bA,aB];rw[show ((i:Int)+2).toNat=i+2 by omega];exact List.take_of_length_le (by simp)
  have hx2:(aB fm)[i]'hi≠37:=λe=>hc4 ((eJ hi 37).2 e);refine Be<|Aw<|An<|Aq<|mw<|?_;refine ad<|mw<|Am<|Az<|?_;refine lT' (i+1) (by (try dsimp only);refine⟨by omega,λj hj h=>?_⟩;by_cases e:j=i;(subst e;exact⟨hx,hx2⟩);exact hk2 j hj om)
 refine Bd<|As<|As<|Bp<|An<|wm<|mr<|Ad rz<|rT'<|?_;rw[gP (by rw[hsz,show fm.size=i by omega];exact hk2)]
end
end Go.Proofs.YtfcecekilahfiaaGreatDoor
section
namespace Go.Ab
def ALe.wkAt {n0 d:Nat}{T T':List AV}{h:AH}{c c':AV}(hd:T[d]?=some c) (hw:Wk c c') (hp:aPut T (some d) c'=T'):ALe n0 T h T' h:=by
 subst hp;refine ALe.same ?_ rfl;show WkL T (T.set d c');have : ∀ (T:List AV) (d:Nat),T[d]?=some c->WkL T (T.set d c'):=by
  intro T;induction T with
  | nil=>intro d hd;simp at hd
  | cons t T ih =>
   intro d hd
   cases d with
   | zero=>simp at hd;subst hd;exact wkw hw (WkL.refl _)
   | succ d=>exact wk1 rfl (ih d (by simpa using hd))
 exact this T d hd
end Go.Ab
namespace Go.Proofs.YtfcecekilahfiaaGreatDoor
open Go.Ab Go.RowKit Civ
attribute [local simp] Eb Fi E5 Dn Cp Gw Ix
section
def Zh {τ:Operand->AV}{y0 y1:Operand}{a b c:AV}(h0:Lf τ y0 [a,b])(h1:Lf τ y1 [c]):Cm τ [(0,2,y0),(2,1,y1)] [(.v (.string ⟨#[]⟩)),(.sl 0 0 true []),(.sl 0 0 true []),(.sl 0 0 true [])]=some [a,b,c,(.sl 0 0 true [])]:=fl h0<|fl h1 rfl
def Pd {τ:Operand->AV}{y0:Operand}{a:AV}(h0:Lf τ y0 [a]):Cm τ [(0,1,y0)] [(.sl 0 0 true [])]=some [a]:=fl h0 rfl
def If {a0 a1 a2 a3 c0:AV}{l:List AV}:setCells (a0::a1::a2::a3::l) 3 [c0]=a0::a1::a2::c0::l:=rfl
end
def k215:=Kx 215 [.e [] 5 [false],.e [] 20 []]
def k216:=Kx 216 [.e [] 20 [],.e [] 11 [false]]
abbrev tmsE (a:List Rul) (x:Era):List AV:=[.sl (B6 a x).length 3 false (rows timC (B6 a x))]
def Kq {a:List Rul} : ∀ x,(tmsE a x).length=1:=λ_=>rfl
def Vq {a:List Rul}(l:List Era):(rows (tmsE a) l).length=l.length*1:=C9 Kq l
def tms_lt {a:List Rul}{n:Nat}(l:List Era):AV.ltL n (rows (tmsE a) l)=true:=Eh (λn x=>by simp[AV.ltL,AV.lt,Ix]) l
attribute [local simp] tms_lt
def rtell_g {a:List Rul}{z:List Zon}{k:List Lnk}{nm:ByteArray}{es:List Era}{h:AH}(hck : ∀ r∈a,∀ h,Ac 210 [.agg (rulC r)] h (iv (Dd r))) (hok:okRs a) (ha:a.length<=9223372036854775807) (hz:okZ es):Ac 215 [.agg (srcB a z k),.agg [sv nm,.sl es.length 10 false (rows eraC es)]] h (.agg [sv nm,.sl es.length 10 false (rows eraC es),.sl (By es).length 1 false (rows intC (By es)),.sl es.length 1 false (rows (tmsE a) es)]):=by
 have hlen:=hz.len;have hel:=Hv es;refine tW' k215 λN hn hlt _ hbd=>?_;simp only[tb'] at hbd ⊢;refine wr'<|E' (Bq cv rfl hl0 ha0) pt<|E' (Bq cv rfl hl1 ha1) pt<|E' (Bz hl2 ha2) pt<|sn'<|Ab<|Bl<|Dw (Ak lk gx B1 rfl)<|Dw (Ak lk gx B1 rfl)<|?_;refine Br mp (λhE hX=>rends_a hz) pt ?_;refine Dw (Bb (Zh cw cw))<|D5 rfl rfl (hlk hn rfl) (Lv) pt B2<|Bi<|?_;refine Eg L8 ?_;refine E' (Ai lk cv gx rfl nb rfl Ay hs3) ptn<|Am<|?_;refine B0 (ALe.own0Cell (st':=1) (ty:=167) gx gt3 hl4 pt3 (Eq.trans (congrArg (λz=>List.set z _ _) ha4) hs3)) ?_;refine Ab<|wk'<|Ah<|?_;refine w_lp (ι:=Nat) (λ(j:Nat)=>[(6,iv (j:Int))]++rn' 7 3++rn' 14 39) (λ(j:Nat)=>[(3,.mk 0 273 4 [sv nm,.sl es.length 10 false (rows eraC es),.sl (By es).length 1 false (rows intC (By es)),.own (N+4) j j]),(4,.mk j 167 1 (rows (tmsE a) (es.take j)))]) (λ(j:Nat)=>j<=es.length) (λ(j:Nat)=>es.length-j) (0) (by exact Nat.zero_le _) ?_;rintro j hi1;try simp only[sm',Nat.reduceAdd]
 replace hi1:j<=es.length:=hi1;have htl:(es.take j).length=j:=by rw[List.length_take];omega
 refine Ab<|wm<|fq<|Vw (Aa lk gx gt1)<|Vw (Bf lk)<|Vw (Bm lk lk)<|sn'<|?_;refine cd' lk (λhc1=>?_) (λhc1=>?_)
 .have hj:j<es.length:=by omega
  refine za<|Ab<|Ah<|wr'<|mv' lkn pt7<|Am<|B0 (ALe.wkAt gt7 (Wk.nilF (st':=3)) pt7)<|Ab<|wr'<|V' (G0 lk3) pt21<|V' (Aa lk21 gx gt1) pt22<|?_;refine mv' lk pt ?_;refine V' (Bh lk lk F5 nb ro om ro rfl) pt ?_;refine Vw (Cj lk dp1)<|Vw (Ba lk gt)<|Vw (H7 lk lks)<|sn'<|?_;refine cd' lk (λhc2=>?_) (λhc2=>?_)
  .have hT:B6 a es[j]=(Cv a es[j].2.1 es[j].1).1:=if_neg hc2;refine Ab<|Bl<|dg<|Dw (Aa lk gx gt0)<|dg<|Dw (Aa lk gx gt1)<|Dw vm<|?_;refine D' (Bh lk lk F5 nb ro om ro rfl) pt ?_;refine Dw (Cj lk dp1)<|Dw (Ba lk gt)<|dg<|Dw (Aa lk gx gt1)<|Dw vm<|?_;refine D' (Bh lk lk F5 nb ro om ro rfl) pt ?_;refine Dw (Cj lk dp0)<|Dw (Ba lk gt)<|?_;refine Br mp (λhE hX=>fN hck hok ha) pt ?_;refine Dw vm<|Dw (B7 lk gt)<|Dw (B7 lk gt)<|Dw vm<|Dw vm<|Bi<|?_;refine B9 ?_;refine sn'<|Aq<|mw<|ms<|Aq<|fq<|Vw (Aa lk gx gt3)<|mw<|E' (Ep (Pd cw) hl5 ha5) pt<|?_;refine E' (C6 (C0 lk (hga hn rfl) rfl Ee nb) lk (hga hn rfl) ((Vq _).trans (by rw[htl])) om rfl hs4) pt ?_;refine fq<|E' (Ai lk cv gx rfl nb rfl If hs3) ptn<|Am<|Aw<|An<|Aq<|mw<|?_;refine ad<|mw<|Am<|Az<|?_;refine lU' (j+1) (by (try dsimp only);omega) (by refine zz ?_;exact bk' 5 hn hlt (by rw[List.take_succ_eq_append_getElem hj,Bt,C3];unfold tmsE;rw[hT];rfl))
  have hT:B6 a es[j]=[]:=if_pos (Decidable.of_not_not hc2);refine za<|Aq<|fq<|Vw (Aa lk gx gt3)<|mw<|E' (Ep (Pd cw) hl5 ha5) pt<|?_;refine E' (C6 (C0 lk (hga hn rfl) rfl Ee nb) lk (hga hn rfl) ((Vq _).trans (by rw[htl])) om rfl hs4) pt ?_;refine fq<|E' (Ai lk cv gx rfl nb rfl If hs3) ptn<|Am<|Aw<|An<|Aq<|mw<|?_;refine ad<|mw<|Am<|Az<|?_;refine lU' (j+1) (by (try dsimp only);omega) (by refine zz ?_;exact bk' 5 hn hlt (by rw[List.take_succ_eq_append_getElem hj,Bt,C3];unfold tmsE;rw[hT];rfl))
 have hje:j=es.length:=by omega
 subst hje;rw[List.take_length] at htl ⊢;refine Bd<|As<|As<|Bp<|?_;refine B0 (ALe.iceCellR (hga hn rfl) (hga hn rfl) om gt3 (List.take_of_length_le (by rw[Vq,htl];omega)) (by rw[Vq,htl];omega) pt3 hs4 hs3) ?_;refine wr'<|Vw (Ak lk gx Av rfl)<|E' (Ai lk cv gx rfl nb rfl Ay hs2) ptn<|sr<|Ad (rs1 (rr_c gt gx (ld1 Av rfl)))<|rtW'<|?_;exact Wk.agg (wk1 rfl (wk1 rfl (wk1 rfl (wkw Wk.full wk0))))
def R7 : ∀ {l:List Tim}{sa:Int}{lt:ByteArray}{at_:Int},(∀ t∈l,(0<=t.2.1/\t.2.1<=10800)/\t.2.2.size<=24)->(0<=sa/\sa<=10800)->lt.size<=24->(0<=(Ff sa lt l at_).1/\(Ff sa lt l at_).1<=10800)/\(Ff sa lt l at_).2.size<=24
 | [],sa,lt,at_,_,h2,h3=>⟨h2,h3⟩
 | t::l,sa,lt,at_,h1,h2,h3=>by
  rw[Ff];have ht:=h1 t (by simp);split
  .exact R7 (λx hx=>h1 x (by simp[hx])) ht.1 ht.2
  exact R7 (λx hx=>h1 x (by simp[hx])) h2 h3
end Go.Proofs.YtfcecekilahfiaaGreatDoor
end
