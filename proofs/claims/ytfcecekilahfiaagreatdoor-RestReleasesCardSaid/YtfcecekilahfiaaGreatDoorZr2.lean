/-
  Part 2 of the proof: own lemmas and contracts on plain data. No condition beyond those that each lemma states.
-/
import Derived.Test.YtfcecekilahfiaaGreatDoorZr1
import Derived.Tactics
import Derived.Tactics2
import Derived.Lib.SplitLaws
import Derived.Lib.Join
import Derived.Lib.IndexAny
import Derived.Shelf.Strings.Builder1
import Derived.Shelf.Strings.Builder2
import Derived.Shelf.Small.Bits
import Derived.Shelf.Small.Strs
import Derived.Shelf.Small.Wraps
import Derived.Shelf.Strings.BuilderF
import Derived.Shelf.Strings.BuilderK
import Derived.Shelf.Strings.Builder2Cap
import Derived.Shelf.Strconv.Itoa0
import Derived.Shelf.Strings.Search1
import Derived.Shelf.Strings.Search2
import Derived.Shelf.Strings.Search3
import Derived.Shelf.Strings.Cut
import Derived.Shelf.Strings.Count
import Derived.Shelf.LaysM
import Derived.Shelf.Strings.Shaped
import Derived.Shelf.Sort.Plain
import Derived.Shelf.Strings.Split
import Derived.Shelf.Strings.Replace
import Derived.Shelf.Strings.SplitShaped
import Derived.Shelf.Unicode.Decode
import Derived.Shelf.Strings.RuneCount
import Derived.Shelf.Unicode.DecodeSlow
import Derived.Shelf.Unicode.DecodeAny
import Derived.Shelf.Strings.BuilderCap
import Derived.Shelf.Slices.CompactS
import Derived.Shelf.Slices.In.SortNone
import Derived.Lib.AtoiErrMem
import Derived.Lib.IndexBytes
set_option linter.all false
set_option maxRecDepth 1000000
set_option maxHeartbeats 4000000
namespace Go.Proofs.YtfcecekilahfiaaGreatDoor
open Go.Ab
variable {v:Value}
section
open Go.ChangeShapes Go.WideShapes Go.ChangeAt Go.RowKit Go.Deep Go.Ab
def Ya (P:Program) (f:TypeId->Ds->Bool):List Field->Nat->Ds->Bool
 | [],_,_=>false
 | fd::fs,off,d=>match fs with
  | []=>fd.offset==off&&P.cellsOf fd.type==d.size&&f fd.type d
  | _::_=>match d with
   | .pair a b=>fd.offset==off&&P.cellsOf fd.type==a.size&&f fd.type a&&Ya P f fs (off+a.size) b
   | _=>false
def fits (P:Program):Nat->TypeId->Ds->Bool
 | 0,_,_=>false
 | n+1,t,d =>
  match P.underlying t with
  | some (.int .i64)=>match d with
   | .int=>true
   | _=>false
  | some .string=>match d with
   | .str=>true
   | _=>false
  | some .bool=>match d with
   | .bool=>true
   | _=>false
  | some (.slice e)=>match d with
   | .slice a=>P.cellsOf e==a.size&&fits P n e a
   | _=>false
  | some (.struct fs)=>P.cellsOf t==d.size&&Ya P (fits P n) fs.toList 0 d
  | _=>false
section
variable {H : Type} {enc : TypeId × Value -> H} {P : Program} {w : World} {base : Nat} {spare : Nat -> Bool} {held : Bool}
def cJ {w:World}{a:Addr}(h:w.cell? a=some v):a.spot=none:=by
 unfold World.cell? at h;split at h
 .split at h
  .cases h
  .rename_i hs;simpa using hs
 .cases h
def pH {α β:Type}{Q:Nat->β->α->Prop} : ∀ (n:Nat),(∀ i,i<n -> ∃ r y,Q i r y) -> ∃ l:List α,l.length=n /\ ∀ i (h:i<l.length),∃ r,Q i r l[i]
 | 0,_=>⟨[],rfl,λi h=>absurd h (by simp)⟩
 | n+1,h=>by
  obtain⟨l,hl,hq⟩:=pH n (λi hi=>h i om);obtain⟨r,y,hy⟩:=h n om;refine⟨l++[y],by simp[hl],λi hi=>?_⟩;by_cases hin:i<l.length
  .obtain⟨r',h'⟩:=hq i hin;exact⟨r',by rw[List.getElem_append_left hin];exact h'⟩
  .obtain rfl:i=n:=by simp at hi;omega
   exact⟨r,by rw[List.getElem_append_right om];simpa [hl] using hy⟩
def Nj : ∀ (n:Nat) (t:TypeId) (d:Ds) (fuel:Nat) (cs:List Value) (x:DataW H×List MemPlace),fits P n t d=true->DataW.trod enc P w base spare held fuel t cs=some x -> ∃ e:El d,Rd w w.heap.size d cs e
  | 0,t,d,fuel,cs,x,hf,h=>by simp[fits] at hf
  | n+1,t,d,fuel,cs,x,hf,h=>by
    unfold fits at hf;split at hf
    . rename_i hu;split at hf <;> try (cases hf;done)
      obtain⟨m,rfl,_,hw⟩:=DataW.trod_int hu h;exact⟨m,rfl,by simpa [Lit.wf,IntKind.min,IntKind.max,IntKind.signed,IntKind.bits] using hw⟩
    . rename_i hu;split at hf <;> try (cases hf;done)
      obtain⟨s,rfl,_,hw⟩:=DataW.trod_string hu h;exact⟨s,rfl,hw⟩
    . rename_i hu;split at hf <;> try (cases hf;done)
      obtain⟨b,rfl,_⟩:=DataW.trod_bool hu h;exact⟨b,rfl⟩
    . rename_i e hu;split at hf <;> try (cases hf;done)
      rename_i a;simp only[Bool.and_eq_true,beq_iff_eq] at hf;rcases open_slice hu h with ⟨rfl,_⟩ | ⟨ad,len,cap,m,k,D,Pl,rfl,hb,hl,hm,hmm,_,hi⟩
      . exact⟨([]:List (El a)),none,0,rfl,Nat.le_refl _,by unfold maxLen;omega,λ_=>rfl,λh0=>absurd h0 (by simp)⟩
      . have hlm:len<=m:=by rw[hmm];split <;> omega
        have hex : ∀ i,i<len -> ∃ (r:List Value) (y:El a),(∀ j v,r[j]?=some v->w.cell? ((ad.add (i*a.size)).add j)=some v)/\r.length=a.size/\Rd w w.heap.size a r y:=by
          intro i hil;obtain⟨cs',hc,ht⟩:=hi i om;rw[hf.1] at hc;obtain⟨_,hcl,hat⟩:=World.cells?_some hc;obtain⟨y,hy⟩:=Nj n e a k cs' _ hf.2 ht;exact⟨cs',y,λj v hv=>by rw[hat j (by have:=(List.getElem?_eq_some_iff.1 hv).1;omega)];exact hv,hcl,hy⟩
        obtain⟨l,hll,hl2⟩:=pH len hex;refine⟨l,some ad,cap,by rw[hll],by omega,hm,λh=>(by cases h),λh0=>?_⟩;obtain⟨r0,hr0,hl0,_⟩:=hl2 0 h0;have hp:=a.size_pos;have hc0:=hr0 0 r0[0] (List.getElem?_eq_getElem om);have hsp:ad.spot=none:=by
          have:=cJ hc0;simpa [Addr.add] using this
        obtain⟨b,off,sp⟩:=ad;simp only at hsp;subst hsp;refine⟨b,off,rfl,?_,λk' hk'=>?_⟩
        . have:=block_lt_of_cell hc0;simpa [Addr.add] using this
        . obtain⟨r,hr1,_,hr2⟩:=hl2 k' hk';exact⟨r,λj v hv=>by have:=hr1 j v hv;simpa [Addr.add_lit] using this,hr2⟩
    . rename_i fs hu;simp only[Bool.and_eq_true,beq_iff_eq] at hf;obtain⟨xs,m,_,_,hcl,hxl,hat⟩:=DataW.trod_struct hu h
      have key : ∀ (l : List Field) (off i : Nat) (d : Ds) (cs' : List Value), Ya P (fits P n) l off d = true -> cs'.length = d.size -> cs.drop off = cs' -> (∀ (j : Nat) (f : Field), l[j]? = some f -> fs.toList[i + j]? = some f) ->
          ∃ e:El d,Rd w w.heap.size d cs' e:=by
        intro l;induction l with
        | nil=>intro off i d cs' hg;simp[Ya] at hg
        | cons f l ih =>
          intro off i d cs' hg hcl' hd hj
          have hfi:fs[i]?=some f:=by have:=hj 0 f rfl;simpa using this
          have hlt:i<xs.length:=by rw[hxl];exact (Array.getElem?_eq_some_iff.1 hfi).1
          have ht:=hat i f hfi
          rw[List.getElem?_eq_getElem hlt] at ht
          cases l with
          | nil =>
            simp only[Ya,Bool.and_eq_true,beq_iff_eq] at hg
            rw[hg.1.1,hg.1.2,hd,List.take_of_length_le om] at ht
            exact Nj n f.type d m cs' _ hg.2 ht
          | cons g l =>
            cases d with
            | pair a b =>
              simp only[Ya,Bool.and_eq_true,beq_iff_eq] at hg
              obtain⟨⟨⟨g1,g2⟩,g3⟩,g4⟩:=hg
              rw[g1,g2,hd] at ht
              obtain⟨e1,he1⟩:=Nj n f.type a m _ _ g3 ht
              obtain⟨e2,he2⟩:=ih (off+a.size) (i+1) b (cs'.drop a.size) g4 (by rw[List.length_drop,hcl'];simp[Ds.size]) (by rw[<-hd,List.drop_drop]) (λj f' hf'=>by have:=hj (j+1) f' (by simpa using hf');rw[<-this];congr 1;omega)
              exact⟨(e1,e2),cs'.take a.size,cs'.drop a.size,(List.take_append_drop _ _).symm,he1,he2⟩
            | _=>simp[Ya] at hg
      exact key fs.toList 0 0 _ cs hf.2 (by rw[hcl,hf.1]) (by simp) (λj f' hf'=>by simpa using hf')
    . cases hf
def rd_arg {d:Ds}{t:TypeId}{x:DataW H}{p:List MemPlace}(hf:fits P 20 t d=true) (h:DataW.Trod enc P w base spare held t v x p) : ∃ e:El d,Rd w w.heap.size d v.cells.toList e:=by
 obtain⟨fuel,hf'⟩:=h;exact Nj 20 t d fuel _ _ hf hf'
end
def avs:(d:Ds)->El d->List AV
 | .int,n=>[iv n]
 | .str,s=>[sv s]
 | .bool,b=>[bv b]
 | .pair a b,p=>avs a p.1++avs b p.2
 | .slice a,l=>[.sl (List.length l) a.size false (rows (avs a) l)]
def Wc : ∀ (d:Ds) (x:El d),(avs d x).length=d.size
 | .int,_=>rfl
 | .str,_=>rfl
 | .bool,_=>rfl
 | .pair a b,p=>by simp only[avs,List.length_append,Wc a,Wc b,Ds.size]
 | .slice a,l=>rfl
def okD:(d:Ds)->El d->Prop
 | .int,n => -9223372036854775808<=n/\n<=9223372036854775807
 | .str,s=>ByteArray.size s<=maxLen
 | .bool,_=>True
 | .pair a b,p=>okD a p.1/\okD b p.2
 | .slice a,l => ∀ (k:Nat) (h:k<List.length l),okD a (l[k])
def Rd.ok {w:World}{B:Nat} : ∀ {d:Ds}{cs:List Value}{x:El d},Rd w B d cs x->okD d x
 | .int,cs,x,h=>h.2
 | .str,cs,x,h=>h.2
 | .bool,cs,x,h=>trivial
 | .pair a b,cs,x,⟨c1,c2,e,h1,h2⟩=>⟨Rd.ok h1,Rd.ok h2⟩
 | .slice a,cs,x,⟨A,c,e,hl,hm,h0,h⟩=>λk hk=>by
  obtain⟨b,off,_,_,hi⟩:=h om;obtain⟨r,_,hr⟩:=hi k hk;exact Rd.ok hr
def RepC.append {w:World}{g:Gh} : ∀ {cs ds:List AV}{b off:Nat},RepC w g cs b off->RepC w g ds b (off+cs.length)->RepC w g (cs++ds) b off
 | [],ds,b,off,_,h=>by simpa using h
 | c::cs,ds,b,off,h,k=>by
  simp only[RepC,List.cons_append] at h ⊢;refine⟨h.1,RepC.append h.2 ?_⟩;rw[show off+1+cs.length=off+(c::cs).length by simp;omega];exact k
def RepC.of_list {w:World}{g:Gh}{b:Nat} : ∀ {cs:List AV}{us:List Value}{off:Nat},RepL w g cs us->(∀ j v,us[j]?=some v->w.cell? ⟨b,off+j,none⟩=some v)->RepC w g cs b off
 | [],us,off,_,_=>by simp only[RepC]
 | c::cs,us,off,h,k=>by
  simp only[RepL] at h;obtain⟨u,us',rfl,h1,h2⟩:=h;simp only[RepC];refine⟨⟨u,k 0 u rfl,h1⟩,RepC.of_list h2 λj v hv=>?_⟩;have:=k (j+1) v (by simpa using hv);rw[show off+1+j=off+(j+1) by omega];exact this
def Xc {w:World}{B:Nat}{g:Gh}(hg : ∀ k,k<B->g.D k) : ∀ (d:Ds) (cs:List Value) (x:El d),Rd w B d cs x->RepL w g (avs d x) cs
 | .int,cs,x,h=>by rw[h.1];simp only[avs,RepL];exact⟨_,[],rfl,by simp only[Rep],rfl⟩
 | .str,cs,x,h=>by rw[h.1];simp only[avs,RepL];exact⟨_,[],rfl,by simp only[Rep],rfl⟩
 | .bool,cs,x,h=>by rw[show cs=_ from h];simp only[avs,RepL];exact⟨_,[],rfl,by simp only[Rep],rfl⟩
 | .pair a b,cs,x,⟨c1,c2,e,h1,h2⟩=>by rw[e];simp only[avs];exact (Xc hg a c1 x.1 h1).append (Xc hg b c2 x.2 h2)
 | .slice a,cs,l,⟨A,c,e,hl,hm,h0,h⟩=>by
  rw[e];simp only[avs,RepL];refine⟨_,[],rfl,?_,rfl⟩;simp only[Rep];refine⟨C9 (Wc a) l,A,c,rfl,hl,hm,λh=>(by cases h),h0,λhne=>?_⟩;have hpos:0<List.length l:=by
   rcases Nat.eq_zero_or_pos (List.length l) with h' | h'
   .have:l=[]:=List.eq_nil_of_length_eq_zero h';subst this;exact absurd rfl hne
   .exact h'
  obtain⟨b,off,eA,hb,hi⟩:=h hpos;refine⟨b,off,eA,hg b hb,?_⟩;have key : ∀ (m:List (El a)) (o:Nat),(∀ k (hk:k<m.length),∃ r,(∀ j v,r[j]?=some v->w.cell? ⟨b,o+k*a.size+j,none⟩=some v)/\RepL w g (avs a m[k]) r)->RepC w g (rows (avs a) m) b o:=by
   intro m;induction m with
   | nil=>intro o _;simp only[rows,List.flatMap_nil,RepC]
   | cons x m ih =>
    intro o hm'
    simp only[rows,List.flatMap_cons]
    obtain⟨r,hr1,hr2⟩:=hm' 0 (by simp)
    refine RepC.append (RepC.of_list hr2 λj v hv=>by have:=hr1 j v hv;simpa using this) ?_
    rw[Wc]
    refine ih (o+a.size) λk hk=>?_
    obtain⟨r,hr1,hr2⟩:=hm' (k+1) (by simpa using hk)
    refine⟨r,λj v hv=>?_,by simpa using hr2⟩
    have:=hr1 j v hv
    rw[show o+a.size+k*a.size+j=o+(k+1)*a.size+j by rw[Nat.add_mul];omega]
    exact this
  exact key l off λk hk=>by
   obtain⟨r,hr1,hr2⟩:=hi k hk;exact⟨r,hr1,Xc hg a r _ hr2⟩
def g0 (w:World):Gh:=⟨λk=>k<w.heap.size,λ_ _=>none,[],⟨λ_=>False,λ_=>False⟩⟩
def sim0 (w:World) (hG:GlobW w):SimH w (g0 w) [] :=
 ⟨λid ver ty s c h=>(by simp at h),λi j k hi _=>by obtain⟨_,_,_,_,_,_,h,_⟩:=hi;simp at h,λk hk=>hk,λid ver l h=>(by simp[g0] at h),λid ver l h=>(by simp[g0] at h),⟨hG,λk hk=>hk.elim (hG.lt k) False.elim⟩,λi k o T vs h=>(by simp at h),λi j k hi _=>by obtain⟨_,_,_,h⟩:=hi;simp at h,λ_ h=>h.elim⟩
def tQ {P:Program}{f:FuncId}{args:List AV}(hc:ACalls P f args [] λx h'=>h'=[]/\x=.ret (bv true)) {w:World}(hG:GlobW w) {vs:Array Value}(hr:RepL w (g0 w) args vs.toList) :
  Calls P f vs w λe w'=>e=.returned (.bool true)/\Below w.heap.size w w':=by
 refine (hc.2 w (g0 w) vs (sim0 w hG) hr).mono ?_;rintro e w' ⟨x,h',g',h1,h2,h3,h4,h5,rfl,rfl⟩;cases e <;> simp only[EndR] at h1;simp only[Rep] at h1;refine⟨by rw[h1],h4.os,h4.tape,h4.output,h4.size,λk hk=>h4.block k hk ?_⟩;rintro (⟨i,_,_,_,_,_,_,h,_⟩ | ⟨i,_,_,_,h⟩) <;> simp at h
section
variable {H : Type} {enc : TypeId × Value -> H} {P : Program} {w : World} {base : Nat} {spare : Nat -> Bool} {held : Bool}
def Rf (d:Ds) {t:TypeId}{x:DataW H}{p:List MemPlace}{fs:Array Field}{r:Reach}{b:Nat}(ht:P.underlying t=some (.struct fs)) (hf:fits P 20 t d=true) (hv:Value.okWide P w r b t v) (h:DataW.Trod enc P w base spare held t v x p) :
  ∃ e:El d,okD d e/\Rep w (g0 w) (.agg (avs d e)) v:=by
 obtain⟨e,he⟩:=rd_arg hf h;obtain⟨cs,rfl,_⟩:=okWide_struct ht hv;refine⟨e,he.ok,?_⟩;simp only[Rep];exact⟨cs,rfl,Xc (λk hk=>hk) d _ e he⟩
def arg_cell (d:Ds) {t:TypeId}{x:DataW H}{p:List MemPlace}(hf:fits P 20 t d=true) (hv:v.cells = #[v]) (h:DataW.Trod enc P w base spare held t v x p) :
  ∃ e:El d,okD d e/\RepL w (g0 w) (avs d e) [v]:=by
 obtain⟨e,he⟩:=rd_arg hf h;refine⟨e,he.ok,?_⟩;have:=Xc (g:=g0 w) (λk hk=>hk) d _ e he;rwa [hv] at this
def arg_str {t:TypeId}{x:DataW H}{p:List MemPlace}{r:Reach}{b:Nat}(ht:P.underlying t=some .string) (hv:Value.okWide P w r b t v) (h:DataW.Trod enc P w base spare held t v x p) :
  ∃ e:ByteArray,e.size<=maxLen/\Rep w (g0 w) (sv e) v:=by
 obtain⟨n,rfl⟩:=okWide_string ht hv;obtain⟨e,he,hr⟩:=arg_cell .str (by simp[fits,ht]) rfl h;simp only[avs,RepL] at hr;obtain⟨u,us,h1,h2,rfl⟩:=hr;cases h1;exact⟨e,he,h2⟩
end
def repL1 {w:World}{g:Gh}{c:AV}{cs:List AV}{vs:List Value}(h:Rep w g c v) (hs:RepL w g cs vs):RepL w g (c::cs) (v::vs):=by simp only[RepL];exact⟨v,vs,rfl,h,hs⟩
def repL0 {w:World}{g:Gh}:RepL w g [] []:=by simp only[RepL]
end
section
open Go.Ab Civ
def mY : ∀ (l m:List Chg),l.take (com l m)=m.take (com l m)
 | a::l,b::m=>by
  unfold com;split
  .rename_i h;rw[List.take_succ_cons,List.take_succ_cons,mY l m,h]
  .rfl
 | [],m=>by simp[com]
 | _::_,[]=>by simp[com]
def diffE_0 {t u:Tab}(h:Mz t u=0):Bw t=0/\Bw u=0:=by
 unfold Mz at h;split at h
 .rename_i h1;exact absurd h h1
 .rename_i h1;exact⟨Decidable.of_not_not h1,h⟩
def diffE_of {t u:Tab}(h:Bw t=0) (k:Bw u=0):Mz t u=0:=by rw[Mz,if_neg (by simpa using h)];exact k
def leads {t u:Tab}(h:Mz t u=0):appE t (J2 t u)=0/\appV t (J2 t u)=u:=by
 obtain⟨h1,h2⟩:=diffE_0 h;have hd:=hd_le t u;have tl:=tl_le t u;have hl2:=D7 h2;rw[J2,if_pos h];have e1:t.2.take (hdOf t u)=u.2.take (hdOf t u):=mY _ _;have e2:t.2.drop (t.2.length-tlOf t u)=u.2.drop (u.2.length-tlOf t u):=by
  have:=mY (t.2.drop (hdOf t u)).reverse (u.2.drop (hdOf t u)).reverse;have h3:(t.2.drop (hdOf t u)).reverse.take (tlOf t u)=(u.2.drop (hdOf t u)).reverse.take (tlOf t u):=this;rw[List.take_reverse,List.take_reverse,List.reverse_inj,List.drop_drop,List.drop_drop,List.length_drop,List.length_drop] at h3;rw[show hdOf t u+(t.2.length-hdOf t u-tlOf t u)=t.2.length-tlOf t u by omega,show hdOf t u+(u.2.length-hdOf t u-tlOf t u)=u.2.length-tlOf t u by omega] at h3;exact h3
 have hoff:¬offP t (D9 t u):=by simp only[offP,D9];omega
 have hout:outT t (D9 t u)=u:=by
  refine Prod.ext rfl ?_;simp only[outT,D9,List.flatten_cons,List.flatten_nil,List.append_nil,Int.toNat_natCast];rw[show ((t.2.length:Int)-(tlOf t u:Int)).toNat=t.2.length-tlOf t u by omega,e1,e2];have e3:(u.2.take (u.2.length-tlOf t u))=u.2.take (hdOf t u)++(u.2.take (u.2.length-tlOf t u)).drop (hdOf t u):=by
   conv=>lhs;rw[<-List.take_append_drop (hdOf t u) (u.2.take (u.2.length-tlOf t u))]
   rw[List.take_take,Nat.min_eq_left om]
  rw[<-List.append_assoc,<-e3,List.take_append_drop]
 have hput:¬1000<(D9 t u).2.2.2.length:=by simp only[D9,List.length_drop,List.length_take];omega
 have hE:patE t (D9 t u)=0:=by rw[patE,if_neg hoff,if_neg hput,hout];exact h2
 exact⟨by rw[appE,if_neg (by simpa using h1)];exact hE,by rw[appV,if_neg (by simpa using h1),patV,if_pos hE,hout]⟩
abbrev LocD:Ds:=.pair .int (.pair .int .str)
abbrev ChgD:Ds:=.pair .int LocD
abbrev TabD:Ds:=.pair LocD (.slice ChgD)
def okT_of {t:El TabD}(h:okD TabD t):okT t:=⟨h.1.2.2,λx hx=>by
 obtain⟨i,hi,rfl⟩:=List.getElem_of_mem hx;exact (h.2 i hi).2.2.2⟩
end
section
open Go.Ab
abbrev Bs:=List UInt8
def bA (l:Bs):ByteArray:=⟨l.toArray⟩
def aB (s:ByteArray):Bs:=s.data.toList
def aB_len (s:ByteArray):(aB s).length=s.size:=rfl
def Qb (l:Bs):(bA l).size=l.length:=rfl
def eK (s:ByteArray) (a b:Nat):s.extract a b=bA (((aB s).drop a).take (b-a)):=by
 apply ByteArray.ext;rw[ByteArray.data_extract];apply Array.ext';rw[Array.toList_extract,List.extract_eq_take_drop];rfl
def Yi {f:ByteArray}:f=⟨#[]⟩↔f.size=0:=by
 constructor
 .rintro rfl;rfl
 .intro h;exact ByteArray.ext (Array.eq_empty_of_size_eq_zero h)
end
section
open Go.Ab
abbrev strC (s:ByteArray):List AV:=[sv s]
def Gv {n:Nat}(l:List ByteArray):AV.ltL n (rows strC l)=true:=Eh (λ_ _=>rfl) l
attribute [local simp] Gv
def Rt : ∀ x,(strC x).length=1:=λ_=>rfl
def H1 (l:List ByteArray):(rows strC l).length=l.length*1:=C9 Rt l
end
section
open Go.Ab
def cutC (x:UInt8):Bs->List Bs
 | []=>[[]]
 | c::l=>if c=x then []::cutC x l else match cutC x l with
  | []=>[[c]]
  | y::ys=>(c::y)::ys
def Qj {x:UInt8} : ∀ {l:Bs}{i:Nat},Lib.index l [x]=i->cutC x l=l.take i::cutC x (l.drop (i+1))/\i<l.length/\l[i]?=some x
 | [],i,h=>by simp[Lib.index] at h
 | c::l,i,h=>by
  unfold Lib.index at h;by_cases hc:x=c
  .subst hc;simp at h;obtain rfl:i=0:=by omega
   simp[cutC]
  .have h0:[x].isPrefixOf (c::l)=false:=by simp[List.isPrefixOf,hc]
   rw[h0] at h;simp only[Bool.false_eq_true,if_false] at h;have hge:=Lib.index_ge l [x];by_cases e:Lib.index l [x] = -1
   .rw[if_pos (by simpa using e)] at h;omega
   .rw[if_neg (by simpa using e)] at h;obtain⟨j,rfl⟩ : ∃ j,i=j+1:=⟨i-1,by omega⟩;have hj:Lib.index l [x]=(j:Int):=by
     omega
    obtain⟨h1,h2,h3⟩:=Qj hj;refine⟨?_,by simp;omega,by simpa using h3⟩;rw[cutC,if_neg (Ne.symm hc),h1];rfl
end
end Go.Proofs.YtfcecekilahfiaaGreatDoor
namespace Go.Ab
section
open Go.RowKit
section
variable {P : Program}
def ACalls.of_below {f:FuncId}{args:List AV}{h:AH}{c:AV}(he:enters P f=true)
  (hc : ∀ w g (vs:Array Value),SimH w g h->RepL w g args vs.toList->Calls P f vs w λe w' => ∃ v,e=.returned v/\Below w.heap.size w w'/\Rep w' g c v):ACalls P f args h λx h'=>h'=h/\x=.ret c:=by
 refine⟨he,λw g vs hs ha=>(hc w g vs hs ha).mono ?_⟩;rintro e w' ⟨v,rfl,hb,hr⟩;have hold : ∀ k,k<w.heap.size->w'.heap[k]?=w.heap[k]?:=λk hk=>hb.block k hk;have hs':SimH w' g h:=hs.world (λk hk=>hold k (hk.elim (hs.lt k) (λho=>(hs.own_not_D ho).2))) hb.size;exact⟨.ret c,h,g,hr,hs',Gh.le.refl g,⟨hb.os,hb.tape,hb.output,hb.size,λk hk _=>hold k hk⟩,λk hk=>.inl hk,rfl,rfl⟩
def ACalls.of_newrow {f:FuncId}{args:List AV}{h:AH}{n st:Nat}{cs:List AV}(he:enters P f=true) (hcs:cs.length=n*st) (hleaf : ∀ w g w' g' us,RepL w g cs us->RepL w' g' cs us)
  (hc : ∀ w g (vs:Array Value),SimH w g h->RepL w g args vs.toList->Calls P f vs w λe w' => ∃ b cap arr ty fr,e=.returned (.slice (some ⟨b,0,none⟩) n cap)/\n<=cap/\cap<=maxLen/\w.heap.size<=b/\w'.heap[b]?=some (.cells arr ty fr)/\Below w.heap.size w w'/\RepL w' g cs (arr.toList.take cs.length)) :
  ACalls P f args h λx h'=>h'=h/\x=.ret (.sl n st false cs):=by
 refine⟨he,λw g vs hs ha=>(hc w g vs hs ha).mono ?_⟩;rintro e w' ⟨b,cap,arr,ty,fr,rfl,h1,h2,h3,hb,hbw,hr⟩;have hb':b<w'.heap.size:=(Array.getElem?_eq_some_iff.1 hb).1;let g':Gh:=⟨λk=>g.D k\/k=b,g.loc,g.df,g.X⟩;have hle:g.le g':=⟨λ_ h=>.inl h,λ_ _ _ h=>h,rfl⟩;have hold : ∀ k,k<w.heap.size->w'.heap[k]?=w.heap[k]?:=λk hk=>hbw.block k hk;have hs':SimH w' g' h:=by
  refine⟨?_,λi j k h1 h2=>hs.inj i j k h1 h2,?_,λid ver l hl=>hs.fresh id ver l hl,λid ver l hl=>hs.free id ver l hl,hs.glob.mono hle.D (λk hk=>hold k (hs.lt k hk)) hle.X,λi k o T vs he=>?_,hs.rinj,hs.xw hbw.size rfl (λk hk=>hk.imp id (λe=>by omega)) (λk hk=>.inl hk)⟩;rotate_left 2
  .obtain⟨r1,r2,r3,r4⟩:=hs.raw _ _ _ _ _ he;have hk:=(Array.getElem?_eq_some_iff.1 r1).1;exact⟨(hold k hk).trans r1,r2,λhd=>hd.elim r3 (λe=>by omega),RepL.mono hle (λk hk=>hold k (hs.lt k hk)) _ _ r4⟩
  .intro id ver ty st cells he;obtain⟨A0,cap0,f1,f2,f3⟩:=hs.ent id ver ty st cells he;refine⟨A0,cap0,f1,f2,f3.mono hle ?_ (λk hk=>hold k (hs.lt k hk)) ?_⟩
   .intro k hk h0 hd;rcases hd with hd | rfl
    .exact hd
    .have:=(hs.own_not_D (k:=k) (.inl ⟨id,by
      obtain⟨a0,ea,rfl⟩:=Option.map_eq_some_iff.1 hk;exact⟨ver,ty,st,cells,a0,cap0,he,by rw[f1,ea],h0,rfl⟩⟩)).2
     omega
   .intro k hk h0;refine hold k (hs.own_not_D (k:=k) (.inl ⟨id,?_⟩)).2;obtain⟨a0,ea,rfl⟩:=Option.map_eq_some_iff.1 hk;exact⟨ver,ty,st,cells,a0,cap0,he,by rw[f1,ea],h0,rfl⟩
  .rintro k (hk | rfl)
   .exact Nat.lt_of_lt_of_le (hs.lt k hk) hbw.size
   .exact hb'
 refine⟨.ret (.sl n st false cs),h,g',?_,hs',hle,⟨hbw.os,hbw.tape,hbw.output,hbw.size,λk hk _=>hold k hk⟩,λk hk=>.inl hk,rfl,rfl⟩;simp only[EndR,Rep];refine⟨hcs,_,_,rfl,h1,h2,(λh=>by simp at h),(λh=>by simp at h),λ_=>⟨b,0,rfl,.inr rfl,RepC.of_row hb _ 0 ?_⟩⟩;rw[List.drop_zero];exact hleaf _ _ _ _ _ hr
end
end
end Go.Ab
namespace Go.Proofs
section
open Go.Shelf
def Tryz.lays137_ren:Go.Shelf.Ren:=⟨fun | 137=>128 | 217=>212 | 266=>264 | n=>n,fun | 9=>9 | 5=>5 | 3=>3 | n=>n,fun | n=>n⟩
def Tryz.lays137:Go.Proofs.Lays.n137 Tryz.prog Tryz.lays137_ren:={
 mixed:=by kernel_rfl
 f137:=Tryz.func128.trans (congrArg some (by kernel_rfl))
 f217:=Tryz.func212.trans (congrArg some (by kernel_rfl))
 f266:=Tryz.func264.trans (congrArg some (by kernel_rfl))
 t3:=Tryz.underlying3
 a3:=Tryz.isAgg3
 z3:=Tryz.sizeOf3
 v3:=Tryz.zeroValue3
 t5:=Tryz.underlying5
 a5:=Tryz.isAgg5
 z5:=Tryz.sizeOf5
 v5:=Tryz.zeroValue5
 t9:=Tryz.underlying9
 a9:=Tryz.isAgg9
 z9:=Tryz.sizeOf9
 v9:=Tryz.zeroValue9 }
open Go.RowKit in
def Tryz.strings_IndexByte (s:ByteArray) (c:Int) (w:World) :
  Calls Tryz.prog 128 #[.string s,.int .u8 c] w λe w'=>e=.returned (.int .i64 (Lib.indexByte s.data.toList c.toNat.toUInt8))/\w'=w:=Any.strings_IndexByte Tryz.lays137 s c w
def Tryz.lays145_ren:Go.Shelf.Ren:=⟨fun | 145=>301 | 220=>310 | 219=>319 | 217=>212 | 225=>325 | 224=>326 | 267=>327 | 266=>264 | 314=>330 | n=>n,fun | 9=>9 | 4=>4 | 59=>328 | 3=>3 | 5=>5 | 46=>155 | 146=>355 | 51=>252 | n=>n,fun | 1=>0 | n=>n⟩
def Tryz.lays145:Go.Proofs.Lays.n145 Tryz.prog Tryz.lays145_ren:={
 mixed:=by kernel_rfl
 f145:=Tryz.func301.trans (congrArg some (by kernel_rfl))
 f217:=Tryz.func212.trans (congrArg some (by kernel_rfl))
 f219:=Tryz.func319.trans (congrArg some (by kernel_rfl))
 f220:=Tryz.func310.trans (congrArg some (by kernel_rfl))
 f224:=Tryz.func326.trans (congrArg some (by kernel_rfl))
 f225:=Tryz.func325.trans (congrArg some (by kernel_rfl))
 f266:=Tryz.func264.trans (congrArg some (by kernel_rfl))
 f267:=Tryz.func327.trans (congrArg some (by kernel_rfl))
 f314:=Tryz.func330.trans (congrArg some (by kernel_rfl))
 t3:=Tryz.underlying3
 a3:=Tryz.isAgg3
 z3:=Tryz.sizeOf3
 v3:=Tryz.zeroValue3
 t4:=Tryz.underlying4
 a4:=Tryz.isAgg4
 z4:=Tryz.sizeOf4
 v4:=Tryz.zeroValue4
 t5:=Tryz.underlying5
 a5:=Tryz.isAgg5
 z5:=Tryz.sizeOf5
 v5:=Tryz.zeroValue5
 t9:=Tryz.underlying9
 a9:=Tryz.isAgg9
 z9:=Tryz.sizeOf9
 v9:=Tryz.zeroValue9
 t46:=Tryz.underlying155
 a46:=Tryz.isAgg155
 z46:=Tryz.sizeOf155
 v46:=Tryz.zeroValue155
 t51:=Tryz.underlying252
 a51:=Tryz.isAgg252
 z51:=Tryz.sizeOf252
 v51:=Tryz.zeroValue252
 t59:=Tryz.underlying328
 a59:=Tryz.isAgg328
 z59:=Tryz.sizeOf328
 v59:=Tryz.zeroValue328
 t146:=Tryz.underlying355
 a146:=Tryz.isAgg355
 z146:=Tryz.sizeOf355
 v146:=Tryz.zeroValue355
 g1:=by kernel_rfl }
open Go.RowKit Go.Lib in
def Tryz.strings_Cut (s sep:ByteArray) (m:Int) (w:World) (hs:s.size<4294967281) (hm:w.cell? ⟨0,0,none⟩=some (.int .i64 m)) :
  Calls Tryz.prog 301 #[.string s,.string sep] w λe w'=>e=.returned (.tuple #[.string ⟨(Lib.cut s.data.toList sep.data.toList).1.toArray⟩,.string ⟨(Lib.cut s.data.toList sep.data.toList).2.1.toArray⟩,.bool (Lib.cut s.data.toList sep.data.toList).2.2]) /\ ∃ n,w'=w.drewN n:=Any.strings_Cut Tryz.lays145 s sep m w hs hm
def Tryz.lays189_ren:Go.Shelf.Ren:=⟨fun | 189=>101 | 125=>112 | 257=>156 | 128=>188 | 129=>189 | 294=>225 | 295=>226 | 296=>227 | 297=>228 | 298=>229 | 299=>230 | 216=>231 | 300=>232 | 301=>233 | 328=>269 | 329=>247 | 330=>248 | 331=>270 | 332=>271 | 215=>245 | 343=>299 | n=>n,fun | 28=>56 | 3=>3 | 46=>155 | 0=>0 | 51=>252 | 53=>254 | 4=>4 | 183=>246 | 182=>245 | 131=>124 | 5=>5 | 9=>9 | 218=>291 | 222=>295 | 228=>323 | 229=>267 | n=>n,fun | n=>n⟩
def Tryz.lays189:Go.Proofs.Lays.n189 Tryz.prog Tryz.lays189_ren:={
 mixed:=by kernel_rfl
 f125:=Tryz.func112.trans (congrArg some (by kernel_rfl))
 f128:=Tryz.func188.trans (congrArg some (by kernel_rfl))
 f129:=Tryz.func189.trans (congrArg some (by kernel_rfl))
 f189:=Tryz.func101.trans (congrArg some (by kernel_rfl))
 f215:=Tryz.func245.trans (congrArg some (by kernel_rfl))
 f216:=Tryz.func231.trans (congrArg some (by kernel_rfl))
 f257:=Tryz.func156.trans (congrArg some (by kernel_rfl))
 f294:=Tryz.func225.trans (congrArg some (by kernel_rfl))
 f295:=Tryz.func226.trans (congrArg some (by kernel_rfl))
 f296:=Tryz.func227.trans (congrArg some (by kernel_rfl))
 f297:=Tryz.func228.trans (congrArg some (by kernel_rfl))
 f298:=Tryz.func229.trans (congrArg some (by kernel_rfl))
 f299:=Tryz.func230.trans (congrArg some (by kernel_rfl))
 f300:=Tryz.func232.trans (congrArg some (by kernel_rfl))
 f301:=Tryz.func233.trans (congrArg some (by kernel_rfl))
 f328:=Tryz.func269.trans (congrArg some (by kernel_rfl))
 f329:=Tryz.func247.trans (congrArg some (by kernel_rfl))
 f330:=Tryz.func248.trans (congrArg some (by kernel_rfl))
 f331:=Tryz.func270.trans (congrArg some (by kernel_rfl))
 f332:=Tryz.func271.trans (congrArg some (by kernel_rfl))
 f343:=Tryz.func299.trans (congrArg some (by kernel_rfl))
 t0:=Tryz.underlying0
 a0:=Tryz.isAgg0
 z0:=Tryz.sizeOf0
 v0:=Tryz.zeroValue0
 t3:=Tryz.underlying3
 a3:=Tryz.isAgg3
 z3:=Tryz.sizeOf3
 v3:=Tryz.zeroValue3
 t4:=Tryz.underlying4
 a4:=Tryz.isAgg4
 z4:=Tryz.sizeOf4
 v4:=Tryz.zeroValue4
 t5:=Tryz.underlying5
 a5:=Tryz.isAgg5
 z5:=Tryz.sizeOf5
 v5:=Tryz.zeroValue5
 t9:=Tryz.underlying9
 a9:=Tryz.isAgg9
 z9:=Tryz.sizeOf9
 v9:=Tryz.zeroValue9
 t28:=Tryz.underlying56
 a28:=Tryz.isAgg56
 z28:=Tryz.sizeOf56
 v28:=Tryz.zeroValue56
 t46:=Tryz.underlying155
 a46:=Tryz.isAgg155
 z46:=Tryz.sizeOf155
 v46:=Tryz.zeroValue155
 t51:=Tryz.underlying252
 a51:=Tryz.isAgg252
 z51:=Tryz.sizeOf252
 v51:=Tryz.zeroValue252
 t53:=Tryz.underlying254
 a53:=Tryz.isAgg254
 z53:=Tryz.sizeOf254
 v53:=Tryz.zeroValue254
 t131:=Tryz.underlying124
 a131:=Tryz.isAgg124
 z131:=Tryz.sizeOf124
 v131:=Tryz.zeroValue124
 t182:=Tryz.underlying245
 a182:=Tryz.isAgg245
 z182:=Tryz.sizeOf245
 v182:=Tryz.zeroValue245
 t183:=Tryz.underlying246
 a183:=Tryz.isAgg246
 z183:=Tryz.sizeOf246
 v183:=Tryz.zeroValue246
 t218:=Tryz.underlying291
 a218:=Tryz.isAgg291
 z218:=Tryz.sizeOf291
 v218:=Tryz.zeroValue291
 t222:=Tryz.underlying295
 a222:=Tryz.isAgg295
 z222:=Tryz.sizeOf295
 v222:=Tryz.zeroValue295
 t228:=Tryz.underlying323
 a228:=Tryz.isAgg323
 z228:=Tryz.sizeOf323
 v228:=Tryz.zeroValue323
 t229:=Tryz.underlying267
 a229:=Tryz.isAgg267
 z229:=Tryz.sizeOf267
 v229:=Tryz.zeroValue267 }
open Go.Sort Go.RowKit in
def Tryz.slices_Sort_int (blk off cap:Nat) (zs:List Int) (w:World) (hH:Holds (Value.int .i64) w blk off zs.toArray) (hblk:blk<w.heap.size) (hsz:zs.length<4611686018427387904) :
  Calls Tryz.prog 101 #[.slice (some ⟨blk,off,none⟩) zs.length cap] w λe w' =>
   e=.returned (.tuple #[]) /\ ∃ n os,w'=grow (putRow (Value.int .i64) (Sort.ahead w n) blk off (zs.mergeSort λx y=>decide (x<=y)).toArray) os:=Any.slices_Sort_int Tryz.lays189 blk off cap zs w hH hblk hsz
def Tryz.lays190_ren:Go.Shelf.Ren:=⟨fun | 190=>165 | 125=>112 | 258=>239 | 128=>188 | 129=>189 | 302=>275 | 303=>276 | 304=>277 | 305=>278 | 306=>279 | 307=>280 | 308=>281 | 309=>282 | 310=>283 | 333=>302 | 329=>247 | 330=>248 | 334=>303 | 335=>304 | 336=>113 | 344=>311 | n=>n,fun | 31=>36 | 9=>9 | 3=>3 | 46=>155 | 0=>0 | 51=>252 | 53=>254 | 4=>4 | 183=>246 | 182=>245 | 131=>124 | 5=>5 | 218=>291 | 222=>295 | 228=>323 | 229=>267 | n=>n,fun | n=>n⟩
def Tryz.lays190:Go.Proofs.Lays.n190 Tryz.prog Tryz.lays190_ren:={
 mixed:=by kernel_rfl
 f125:=Tryz.func112.trans (congrArg some (by kernel_rfl))
 f128:=Tryz.func188.trans (congrArg some (by kernel_rfl))
 f129:=Tryz.func189.trans (congrArg some (by kernel_rfl))
 f190:=Tryz.func165.trans (congrArg some (by kernel_rfl))
 f258:=Tryz.func239.trans (congrArg some (by kernel_rfl))
 f302:=Tryz.func275.trans (congrArg some (by kernel_rfl))
 f303:=Tryz.func276.trans (congrArg some (by kernel_rfl))
 f304:=Tryz.func277.trans (congrArg some (by kernel_rfl))
 f305:=Tryz.func278.trans (congrArg some (by kernel_rfl))
 f306:=Tryz.func279.trans (congrArg some (by kernel_rfl))
 f307:=Tryz.func280.trans (congrArg some (by kernel_rfl))
 f308:=Tryz.func281.trans (congrArg some (by kernel_rfl))
 f309:=Tryz.func282.trans (congrArg some (by kernel_rfl))
 f310:=Tryz.func283.trans (congrArg some (by kernel_rfl))
 f329:=Tryz.func247.trans (congrArg some (by kernel_rfl))
 f330:=Tryz.func248.trans (congrArg some (by kernel_rfl))
 f333:=Tryz.func302.trans (congrArg some (by kernel_rfl))
 f334:=Tryz.func303.trans (congrArg some (by kernel_rfl))
 f335:=Tryz.func304.trans (congrArg some (by kernel_rfl))
 f336:=Tryz.func113.trans (congrArg some (by kernel_rfl))
 f344:=Tryz.func311.trans (congrArg some (by kernel_rfl))
 t0:=Tryz.underlying0
 a0:=Tryz.isAgg0
 z0:=Tryz.sizeOf0
 v0:=Tryz.zeroValue0
 t3:=Tryz.underlying3
 a3:=Tryz.isAgg3
 z3:=Tryz.sizeOf3
 v3:=Tryz.zeroValue3
 t4:=Tryz.underlying4
 a4:=Tryz.isAgg4
 z4:=Tryz.sizeOf4
 v4:=Tryz.zeroValue4
 t5:=Tryz.underlying5
 a5:=Tryz.isAgg5
 z5:=Tryz.sizeOf5
 v5:=Tryz.zeroValue5
 t9:=Tryz.underlying9
 a9:=Tryz.isAgg9
 z9:=Tryz.sizeOf9
 v9:=Tryz.zeroValue9
 t31:=Tryz.underlying36
 a31:=Tryz.isAgg36
 z31:=Tryz.sizeOf36
 v31:=Tryz.zeroValue36
 t46:=Tryz.underlying155
 a46:=Tryz.isAgg155
 z46:=Tryz.sizeOf155
 v46:=Tryz.zeroValue155
 t51:=Tryz.underlying252
 a51:=Tryz.isAgg252
 z51:=Tryz.sizeOf252
 v51:=Tryz.zeroValue252
 t53:=Tryz.underlying254
 a53:=Tryz.isAgg254
 z53:=Tryz.sizeOf254
 v53:=Tryz.zeroValue254
 t131:=Tryz.underlying124
 a131:=Tryz.isAgg124
 z131:=Tryz.sizeOf124
 v131:=Tryz.zeroValue124
 t182:=Tryz.underlying245
 a182:=Tryz.isAgg245
 z182:=Tryz.sizeOf245
 v182:=Tryz.zeroValue245
 t183:=Tryz.underlying246
 a183:=Tryz.isAgg246
 z183:=Tryz.sizeOf246
 v183:=Tryz.zeroValue246
 t218:=Tryz.underlying291
 a218:=Tryz.isAgg291
 z218:=Tryz.sizeOf291
 v218:=Tryz.zeroValue291
 t222:=Tryz.underlying295
 a222:=Tryz.isAgg295
 z222:=Tryz.sizeOf295
 v222:=Tryz.zeroValue295
 t228:=Tryz.underlying323
 a228:=Tryz.isAgg323
 z228:=Tryz.sizeOf323
 v228:=Tryz.zeroValue323
 t229:=Tryz.underlying267
 a229:=Tryz.isAgg267
 z229:=Tryz.sizeOf267
 v229:=Tryz.zeroValue267 }
open Go.Sort Go.RowKit in
def Tryz.slices_Sort_string (blk off cap:Nat) (ss:List (List UInt8)) (w:World) (hH:Holds encStr w blk off ss.toArray) (hblk:blk<w.heap.size) (hsz:ss.length<4611686018427387904) :
  Calls Tryz.prog 165 #[.slice (some ⟨blk,off,none⟩) ss.length cap] w λe w' =>
   e=.returned (.tuple #[]) /\ ∃ n os,w'=grow (putRow encStr (Sort.ahead w n) blk off (ss.mergeSort λx y=>decide (x<=y)).toArray) os:=Any.slices_Sort_string Tryz.lays190 blk off cap ss w hH hblk hsz
def Tryz.lays154_ren:Go.Shelf.Ren:=⟨fun | 154=>308 | 138=>313 | 165=>314 | 143=>315 | 166=>316 | 197=>317 | 169=>318 | 195=>320 | 218=>321 | 240=>322 | 241=>323 | 219=>319 | 260=>324 | 276=>328 | 277=>329 | 217=>212 | 225=>325 | 224=>326 | 267=>327 | 266=>264 | 314=>330 | n=>n,fun | 9=>9 | 3=>3 | 4=>4 | 72=>339 | 0=>0 | 76=>343 | 105=>345 | 21=>21 | 5=>5 | 70=>337 | 20=>20 | 37=>150 | 75=>342 | 127=>347 | 164=>348 | 46=>155 | 119=>351 | 139=>354 | 138=>353 | 146=>355 | 51=>252 | 80=>191 | n=>n,fun | 1=>0 | 3=>1 | 4=>2 | n=>n⟩
def Tryz.lays154:Go.Proofs.Lays.n154 Tryz.prog Tryz.lays154_ren:={
 mixed:=by kernel_rfl
 f138:=Tryz.func313.trans (congrArg some (by kernel_rfl))
 f143:=Tryz.func315.trans (congrArg some (by kernel_rfl))
 f154:=Tryz.func308.trans (congrArg some (by kernel_rfl))
 f165:=Tryz.func314.trans (congrArg some (by kernel_rfl))
 f166:=Tryz.func316.trans (congrArg some (by kernel_rfl))
 f169:=Tryz.func318.trans (congrArg some (by kernel_rfl))
 f195:=Tryz.func320.trans (congrArg some (by kernel_rfl))
 f197:=Tryz.func317.trans (congrArg some (by kernel_rfl))
 f217:=Tryz.func212.trans (congrArg some (by kernel_rfl))
 f218:=Tryz.func321.trans (congrArg some (by kernel_rfl))
 f219:=Tryz.func319.trans (congrArg some (by kernel_rfl))
 f224:=Tryz.func326.trans (congrArg some (by kernel_rfl))
 f225:=Tryz.func325.trans (congrArg some (by kernel_rfl))
 f240:=Tryz.func322.trans (congrArg some (by kernel_rfl))
 f241:=Tryz.func323.trans (congrArg some (by kernel_rfl))
 f260:=Tryz.func324.trans (congrArg some (by kernel_rfl))
 f266:=Tryz.func264.trans (congrArg some (by kernel_rfl))
 f267:=Tryz.func327.trans (congrArg some (by kernel_rfl))
 f276:=Tryz.func328.trans (congrArg some (by kernel_rfl))
 f277:=Tryz.func329.trans (congrArg some (by kernel_rfl))
 f314:=Tryz.func330.trans (congrArg some (by kernel_rfl))
 t0:=Tryz.underlying0
 a0:=Tryz.isAgg0
 z0:=Tryz.sizeOf0
 v0:=Tryz.zeroValue0
 t3:=Tryz.underlying3
 a3:=Tryz.isAgg3
 z3:=Tryz.sizeOf3
 v3:=Tryz.zeroValue3
 t4:=Tryz.underlying4
 a4:=Tryz.isAgg4
 z4:=Tryz.sizeOf4
 v4:=Tryz.zeroValue4
 t5:=Tryz.underlying5
 a5:=Tryz.isAgg5
 z5:=Tryz.sizeOf5
 v5:=Tryz.zeroValue5
 t9:=Tryz.underlying9
 a9:=Tryz.isAgg9
 z9:=Tryz.sizeOf9
 v9:=Tryz.zeroValue9
 t20:=Tryz.underlying20
 a20:=Tryz.isAgg20
 z20:=Tryz.sizeOf20
 v20:=Tryz.zeroValue20
 t21:=Tryz.underlying21
 a21:=Tryz.isAgg21
 z21:=Tryz.sizeOf21
 v21:=Tryz.zeroValue21
 t37:=Tryz.underlying150
 a37:=Tryz.isAgg150
 z37:=Tryz.sizeOf150
 v37:=Tryz.zeroValue150
 t46:=Tryz.underlying155
 a46:=Tryz.isAgg155
 z46:=Tryz.sizeOf155
 v46:=Tryz.zeroValue155
 t51:=Tryz.underlying252
 a51:=Tryz.isAgg252
 z51:=Tryz.sizeOf252
 v51:=Tryz.zeroValue252
 t70:=Tryz.underlying337
 a70:=Tryz.isAgg337
 z70:=Tryz.sizeOf337
 v70:=Tryz.zeroValue337
 t72:=Tryz.underlying339
 a72:=Tryz.isAgg339
 z72:=Tryz.sizeOf339
 v72:=Tryz.zeroValue339
 t75:=Tryz.underlying342
 a75:=Tryz.isAgg342
 z75:=Tryz.sizeOf342
 v75:=Tryz.zeroValue342
 t76:=Tryz.underlying343
 a76:=Tryz.isAgg343
 z76:=Tryz.sizeOf343
 v76:=Tryz.zeroValue343
 t105:=Tryz.underlying345
 a105:=Tryz.isAgg345
 z105:=Tryz.sizeOf345
 v105:=Tryz.zeroValue345
 t119:=Tryz.underlying351
 a119:=Tryz.isAgg351
 z119:=Tryz.sizeOf351
 t127:=Tryz.underlying347
 a127:=Tryz.isAgg347
 z127:=Tryz.sizeOf347
 v127:=Tryz.zeroValue347
 t138:=Tryz.underlying353
 a138:=Tryz.isAgg353
 z138:=Tryz.sizeOf353
 v138:=Tryz.zeroValue353
 t139:=Tryz.underlying354
 a139:=Tryz.isAgg354
 z139:=Tryz.sizeOf354
 v139:=Tryz.zeroValue354
 t146:=Tryz.underlying355
 a146:=Tryz.isAgg355
 z146:=Tryz.sizeOf355
 v146:=Tryz.zeroValue355
 t164:=Tryz.underlying348
 a164:=Tryz.isAgg348
 z164:=Tryz.sizeOf348
 v164:=Tryz.zeroValue348
 g1:=by kernel_rfl
 g3:=by kernel_rfl
 g4:=by kernel_rfl }
def Tryz.Builder_Extra_154:Builder.Extra Tryz.prog Tryz.lays154_ren:={
 sizeBuilder:=by kernel_rfl
 liesBuilder:=by kernel_rfl
 t5:=Tryz.underlying5
 a5:=Tryz.isAgg5
 z5:=Tryz.sizeOf5
 v5:=Tryz.zeroValue5
 infoByte:=by kernel_rfl
 cellsByte:=by kernel_rfl
 sizeByte:=by kernel_rfl
 neB5:=by decide }
open Go.RowKit Go.Lib in
def Tryz.strings_Replace (s old new:ByteArray) (n:Int) (m:Int) (w:World) (hs:s.size<4294967281) (hm:w.cell? ⟨0,0,none⟩=some (.int .i64 m)) (h1:1<=old.size) (hlen:s.size+Lib.countB s old*new.size<=140737488355328) :
  Calls Tryz.prog 308 #[.string s,.string old,.string new,.int .i64 n] w λe w' =>
   e=.returned (.string ⟨(Lib.replace s.data.toList old.data.toList new.data.toList n).toArray⟩)/\Below w.heap.size w w':=Any.strings_Replace Tryz.lays154 Tryz.Builder_Extra_154 s old new n m w hs hm h1 hlen
def Tryz.lays194_ren:Go.Shelf.Ren:=⟨fun | 194=>166 | n=>n,fun | 31=>36 | 9=>9 | 3=>3 | 4=>4 | 0=>0 | n=>n,fun | n=>n⟩
def Tryz.lays194:Go.Proofs.Lays.n194 Tryz.prog Tryz.lays194_ren:={
 mixed:=by kernel_rfl
 f194:=Tryz.func166.trans (congrArg some (by kernel_rfl))
 t0:=Tryz.underlying0
 a0:=Tryz.isAgg0
 z0:=Tryz.sizeOf0
 v0:=Tryz.zeroValue0
 t3:=Tryz.underlying3
 a3:=Tryz.isAgg3
 z3:=Tryz.sizeOf3
 v3:=Tryz.zeroValue3
 t4:=Tryz.underlying4
 a4:=Tryz.isAgg4
 z4:=Tryz.sizeOf4
 v4:=Tryz.zeroValue4
 t9:=Tryz.underlying9
 a9:=Tryz.isAgg9
 z9:=Tryz.sizeOf9
 v9:=Tryz.zeroValue9
 t31:=Tryz.underlying36
 a31:=Tryz.isAgg36
 z31:=Tryz.sizeOf36
 v31:=Tryz.zeroValue36 }
open Go.RowKit Go.Lib Go.Sort in
def Tryz.slices_Compact_string (blk off cap:Nat) (zs:List (List UInt8)) (w:World) (hH:Holds encStr w blk off zs.toArray) (hsz:zs.length<=9223372036854775807) (hcap:zs.length<=cap) :
  Calls Tryz.prog 166 #[.slice (some ⟨blk,off,none⟩) zs.length cap] w λe w'=>e=.returned (.slice (some ⟨blk,off,none⟩) (Lib.compact zs).length cap) /\ ∃ q,w'=putRow encStr (Sort.ahead w q) blk off (Lib.compact zs++List.replicate (zs.length-(Lib.compact zs).length) []).toArray:=Any.slices_Compact_string Tryz.lays194 blk off cap zs w hH hsz hcap
open Go.RowKit Go.Lib Go.Sort in
def Tryz.slices_Compact_string_empty (a:Option Addr) (cap:Nat) (w:World) :
  Calls Tryz.prog 166 #[.slice a 0 cap] w λe w'=>e=.returned (.slice a 0 cap)/\w'=w:=Any.slices_Compact_string_empty Tryz.lays194 a cap w
open Go.RowKit Go.Sort in
def Tryz.slices_Sort_string_none (p:Option Addr) (cap:Nat) (w:World) :
  Calls Tryz.prog 165 #[.slice p 0 cap] w λe w'=>e=.returned (.tuple #[])/\w'=w:=Any.slices_Sort_string_none Tryz.lays190 p cap w
open Go.RowKit Go.Sort in
def Tryz.slices_Sort_int_none (p:Option Addr) (cap:Nat) (w:World) :
  Calls Tryz.prog 101 #[.slice p 0 cap] w λe w'=>e=.returned (.tuple #[])/\w'=w:=Any.slices_Sort_int_none Tryz.lays189 p cap w
end
end Go.Proofs
namespace Go.Proofs.YtfcecekilahfiaaGreatDoor
open Go.Ab
variable {h:AH}{m y:Int}{n:Nat}
section
open Go.Ab
attribute [local simp] Gv
def k80:=Kx 80 []
def Lq {n a b:Int}:Ac 80 [iv n,iv a,iv b] h (bv (wi n a b)):=by
 refine tI' k80 λN hn _ _ hbd=>?_;simp only[tb'] at hbd ⊢;refine wk'<|wm<|mw<|Vw (Gz lk lk)<|mw<|?_;refine sp' (t:=10) gt pt pt (λhg10=>?_) (λhg10=>?_)
 .refine sd<|mw<|sd<|mw<|sd<|Vw (Gy lk lk)<|Vw (Ar lk lk)<|mr<|Ad rz<|rT'<|?_;refine bvx ?_;unfold wi;rw[Bool.eq_iff_iff];simp;omega
 refine so<|so<|so<|Vw (Ao lk lkb)<|mr<|Ad rz<|rT'<|?_;refine bvx ?_;unfold wi;rw[Bool.eq_iff_iff];simp;omega
end
section
open Go.Ab
abbrev Dat:=Int×Int×Int
abbrev Frm:=Int×Int×Int
abbrev Rul:=ByteArray×Int×Int×Int×Frm×Int×Int×Int×ByteArray
abbrev Unt:=Dat×Int×Int
abbrev Era:=Int×ByteArray×Int×ByteArray×Bool×Unt
abbrev Zon:=ByteArray×List Era
abbrev Lnk:=ByteArray×ByteArray
abbrev Src:=List Rul×List Zon×List Lnk
set_option synthInstance.maxSize 4096 in
instance decEra:DecidableEq Era:=inferInstance
set_option synthInstance.maxSize 4096 in
instance decRul:DecidableEq Rul:=inferInstance
instance decZon:DecidableEq Zon:=inferInstance
instance decLnk:DecidableEq Lnk:=inferInstance
instance decSrc:DecidableEq Src:=inferInstance
abbrev rulC (r:Rul):List AV:=[sv r.1,iv r.2.1,iv r.2.2.1,iv r.2.2.2.1,iv r.2.2.2.2.1.1,iv r.2.2.2.2.1.2.1,iv r.2.2.2.2.1.2.2,iv r.2.2.2.2.2.1,iv r.2.2.2.2.2.2.1,iv r.2.2.2.2.2.2.2.1,sv r.2.2.2.2.2.2.2.2]
abbrev eraC (x:Era):List AV:=[iv x.1,sv x.2.1,iv x.2.2.1,sv x.2.2.2.1,bv x.2.2.2.2.1,iv x.2.2.2.2.2.1.1,iv x.2.2.2.2.2.1.2.1,iv x.2.2.2.2.2.1.2.2,iv x.2.2.2.2.2.2.1,iv x.2.2.2.2.2.2.2]
abbrev zonC (z:Zon):List AV:=[sv z.1,.sl z.2.length 10 false (rows eraC z.2)]
abbrev lnkC (l:Lnk):List AV:=[sv l.1,sv l.2]
abbrev srcC (s:Src):List AV:=[.sl s.1.length 11 false (rows rulC s.1),.sl s.2.1.length 2 false (rows zonC s.2.1),.sl s.2.2.length 2 false (rows lnkC s.2.2)]
def Eb (l:List Rul):AV.ltL n (rows rulC l)=true:=Eh (λn x=>by simp[AV.ltL,AV.lt]) l
def Fi (l:List Era):AV.ltL n (rows eraC l)=true:=Eh (λn x=>by simp[AV.ltL,AV.lt]) l
def E5 (l:List Zon):AV.ltL n (rows zonC l)=true:=Eh (λn x=>by simp[AV.ltL,AV.lt,Fi]) l
def Dn (l:List Lnk):AV.ltL n (rows lnkC l)=true:=Eh (λn x=>by simp[AV.ltL,AV.lt]) l
def Gk : ∀ x,(rulC x).length=11:=λ_=>rfl
def F5 : ∀ x,(eraC x).length=10:=λ_=>rfl
def Ho : ∀ x,(zonC x).length=2:=λ_=>rfl
def Da : ∀ x,(lnkC x).length=2:=λ_=>rfl
def era_len (l:List Era):(rows eraC l).length=l.length*10:=C9 F5 l
def Kd (l:List Lnk):(rows lnkC l).length=l.length*2:=C9 Da l
def era_leaf (l:List Era):(rows eraC l).all leaf=true:=Jg (λ_=>rfl) l
def gW (l:List Lnk):(rows lnkC l).all leaf=true:=Jg (λ_=>rfl) l
end
section
open Go.Ab Go.RowKit
def jZ {w w':World}(h:Below w.heap.size w w') : ∀ n:Nat,Below w.heap.size w (w'.drewN n)
 | n=>⟨h.os,h.tape,h.output,h.size,h.block⟩
def iK {s:ByteArray}{n:Int}:Ac 128 [sv s,uv n] h (iv (Lib.indexByte (aB s) n.toNat.toUInt8)):=by
 refine ACalls.of_below (by kernel_rfl) λw g vs hs ha=>?_;simp only[RepL,Rep] at ha;obtain⟨u1,us1,e1,rfl,u2,us2,rfl,rfl,rfl⟩:=ha;obtain rfl:vs = #[.string s,.int .u8 n]:=by cases vs;simp_all
 refine (Tryz.strings_IndexByte s n w).mono ?_;rintro e w' ⟨rfl,rfl⟩;refine⟨_,rfl,Below.refl _ _,?_⟩;simp only[Rep];rfl
def cut_a {s p:ByteArray}(hz:s.size<4294967281):Ac 301 [sv s,sv p] h (.tup [sv (bA (Lib.cut (aB s) (aB p)).1),sv (bA (Lib.cut (aB s) (aB p)).2.1),bv (Lib.cut (aB s) (aB p)).2.2]):=by
 refine ACalls.of_below (by kernel_rfl) λw g vs hs ha=>?_;simp only[RepL,Rep] at ha;obtain⟨u1,us1,e1,rfl,u2,us2,rfl,rfl,rfl⟩:=ha;obtain rfl:vs = #[.string s,.string p]:=by cases vs;simp_all
 obtain⟨m,hm⟩:=hs.glob.w.maxLen;refine (Tryz.strings_Cut s p m w hz hm).mono ?_;rintro e w' ⟨rfl,n,rfl⟩;refine⟨_,rfl,jZ (Below.refl _ _) n,?_⟩;simp only[Rep,RepL];exact⟨_,rfl,_,_,rfl,rfl,_,_,rfl,rfl,_,_,rfl,rfl,rfl⟩
end
section
open Go.Ab Civ
section
def Zb {τ:Operand->AV}{y0 y1 y2 y3 y4 y5 y6 y7 y8 y9 y10 y11:Operand}{a b c d e f g i j m n o:AV}(h0:Lf τ y0 [a])(h1:Lf τ y1 [b])(h2:Lf τ y2 [c])(h3:Lf τ y3 [d])(h4:Lf τ y4 [e])(h5:Lf τ y5 [f])(h6:Lf τ y6 [g])(h7:Lf τ y7 [i])(h8:Lf τ y8 [j])(h9:Lf τ y9 [m])(h10:Lf τ y10 [n])(h11:Lf τ y11 [o]):Cm τ [(0,1,y0),(1,1,y1),(2,1,y2),(3,1,y3),(4,1,y4),(5,1,y5),(6,1,y6),(7,1,y7),(8,1,y8),(9,1,y9),(10,1,y10),(11,1,y11)] [(iv 0),(iv 0),(iv 0),(iv 0),(iv 0),(iv 0),(iv 0),(iv 0),(iv 0),(iv 0),(iv 0),(iv 0)]=some [a,b,c,d,e,f,g,i,j,m,n,o]:=fl h0<|fl h1<|fl h2<|fl h3<|fl h4<|fl h5<|fl h6<|fl h7<|fl h8<|fl h9<|fl h10<|fl h11 rfl
def Fu {τ:Operand->AV}{y0 y1 y2:Operand}{a b c:AV}(h0:Lf τ y0 [a])(h1:Lf τ y1 [b])(h2:Lf τ y2 [c]):Cm τ [(0,1,y0),(1,1,y1),(2,1,y2)] [(iv 0),(iv 0),(iv 0)]=some [a,b,c]:=fl h0<|fl h1<|fl h2 rfl
def Bo {a0 a1 a2 c0 c1 c2:AV}{l:List AV}:setCells (a0::a1::a2::l) 0 [c0,c1,c2]=c0::c1::c2::l:=rfl
def Jl {τ:Operand->AV}:Cm τ [] [(iv 0),(iv 0),(iv 0)]=some [(iv 0),(iv 0),(iv 0)]:=rfl
end
def k152:=Kx 152 []
def k224:=Kx 224 []
def k223:=Kx 223 []
def k153:=Kx 153 []
def k99:=Kx 99 [.e [] 10 []]
def k98:=Kx 98 [.e [] 19 []]
def k56:=Kx 56 []
def k217:=Kx 217 []
def k135:=Kx 135 []
abbrev nmC (n:Int):List AV:=[iv n]
def nm_len1 : ∀ x,(nmC x).length=1:=λ_=>rfl
def nm_lt (l:List Int):AV.ltL n (rows nmC l)=true:=Eh (λ_ _=>rfl) l
attribute [local simp] nm_lt
abbrev dateA (p:Int×Int×Int):AV:=.agg [iv p.1,iv p.2.1,iv p.2.2]
def lens:List Int:=[31,28,31,30,31,30,31,31,30,31,30,31]
def Fo {n a b:Int}:Ac 152 [iv n,iv a,iv b] h (bv (wi n a b)):=by
 refine tI' k152 λN hn _ _ hbd=>?_;simp only[tb'] at hbd ⊢;refine wk'<|wm<|mw<|Vw (Gz lk lk)<|mw<|?_;refine sp' (t:=10) gt pt pt (λhg10=>?_) (λhg10=>?_)
 .refine sd<|mw<|sd<|mw<|sd<|Vw (Gy lk lk)<|Vw (Ar lk lk)<|mr<|Ad rz<|rT'<|?_;refine bvx ?_;unfold wi;rw[Bool.eq_iff_iff];simp;omega
 refine so<|so<|so<|Vw (Ao lk lkb)<|mr<|Ad rz<|rT'<|?_;refine bvx ?_;unfold wi;rw[Bool.eq_iff_iff];simp;omega
def leap_a (h0:0<=y) (h1:y<=1000000):Ac 224 [iv y] h (bv (Qi y)):=by
 refine tI' k224 λN hn _ _ hbd=>?_;simp only[tb'] at hbd ⊢;refine wk'<|wm<|?_;refine V' (Lm lk lki om om) pt ?_;refine Vw (Cy lk lki)<|mw<|?_;refine sp' (t:=6) gt pt pt (λhg6=>?_) (λhg6=>?_)
 .refine sd<|mw<|sd<|?_;refine V' (Lm lk lki om om) pt ?_;refine sd<|Vw (Ca lk lki)<|sd<|mw<|?_;refine sp' (t:=10) gt pt pt (λhg10=>?_) (λhg10=>?_)
  .refine so<|so<|so<|sd<|Vw (Ar lk lkb)<|Vw (Ar lk lk)<|mr<|Ad rz<|rT'<|?_;refine bvx ?_;unfold Qi;simp_all <;> rfl
  refine sd<|mw<|sd<|?_;refine V' (Lm lk lki om om) pt ?_;refine sd<|Vw (Cy lk lki)<|sd<|Vw (Ao lk lk)<|Vw (Ar lk lk)<|mr<|Ad rz<|rT'<|?_;refine bvx ?_;unfold Qi;simp_all <;> rfl
 refine so<|so<|so<|so<|s_nu gt pt<|s_nu gt pt<|s_nu gt pt<|so<|Vw (Ao lk lkb)<|mr<|Ad rz<|?_;refine rT' ?_;refine bvx ?_;unfold Qi;simp_all <;> rfl
def tP :Ac 223 [] h (.sl 12 1 false (rows nmC lens)):=by
 refine tI' k223 λN hn _ _ hbd=>?_;simp only[tb'] at hbd ⊢;exact wr'<|mv' lkn pt0<|sn'<|wr'<|E' (Ep (Zb cw cw cw cw cw cw cw cw cw cw cw cw) hl0 ha0) pt1<|mv' lk1 pt0<|Am<|B0 (ALe.iceR gx gt0 rfl nb pt0 hs0)<|C4<|Ad (rs1 (rr_t gt0))<|rT' rfl
def sZ (h1:1<=m) (h2:m<=12) (hk:(m-1).toNat<lens.length):mlen y m=lens[(m-1).toNat]+(if m=2 then lp y else 0):=by
 have hm:m=1\/m=2\/m=3\/m=4\/m=5\/m=6\/m=7\/m=8\/m=9\/m=10\/m=11\/m=12:=by omega
 rcases hm with rfl | rfl | rfl | rfl | rfl | rfl | rfl | rfl | rfl | rfl | rfl | rfl <;> rfl
def lens_bd {k:Nat}(hk:k<lens.length):28<=lens[k]/\lens[k]<=31:=by
 have : ∀ x∈lens,28<=x/\x<=31:=by decide
 exact this _ (List.getElem_mem hk)
def I4 (h0:0<=y) (hy:y<=1000000) (h1:1<=m) (h2:m<=12):Ac 153 [iv y,iv m] h (iv (mlen y m)):=by
 have hk:(m-1).toNat<lens.length:=by show _<12;omega
 have he:=sZ (y:=y) h1 h2 hk;have hb:=lens_bd hk;refine tI' k153 λN hn _ _ hbd=>?_;simp only[tb'] at hbd ⊢;refine wk'<|wr'<|Af mp0 (tP) pt<|mw<|?_;refine V' (Ch lk lki om om) pt ?_;refine V' (Bh (l:=lens) (k:=(m-1).toNat) lk lk nm_len1 nb om hk rfl rfl) pt ?_;refine Vw (Ba lk gt)<|ms<|Ab<|wm<|Vw (Cy lk lki)<|mw<|?_;refine sp' (t:=13) gt pt pt (λhg13=>?_) (λhg13=>?_)
 .refine sd<|mw<|sd<|Af mp (leap_a h0 hy) pt<|Vw (Ar lk lk)<|sn'<|?_;refine cd' lk (λhc1=>?_) (λhc1=>?_)
  .refine Aq<|mw<|?_;refine ad<|ms<|wm<|mr<|Ad rz<|rT'<|?_;refine ivx ?_;rw[he];unfold lp;simp_all
  refine za<|wm<|mr<|Ad rz<|rT'<|?_;refine ivx ?_;rw[he];unfold lp;simp_all
 refine so<|so<|Vw (Ao lk lkb)<|sn'<|Cf lk<|za<|wm<|ms<|?_;refine C4<|Ad rz<|rT'<|?_;refine ivx ?_;rw[he];unfold lp;simp_all
def Se {d:Int}(y0:1<=y) (y1:y<=20000) (m0:1<=m) (m1:m<=12) (d0 : -1000<=d) (d1:d<=1000):Ac 99 [.agg [iv y,iv m,iv d]] h (iv (num y m d)):=by
 have hb:=bef_bd y0 y1;refine tI' k99 λN hn _ _ hbd=>?_;simp only[tb'] at hbd ⊢;refine wr'<|E' (Bq cv rfl hl0 ha0) pt<|ms<|Ab<|Bl<|dg<|Dw (Aa lk gx gt0)<|?_;refine Br mp (λhE hX=>O7 (by first | assumption | omega) (by first | assumption | omega)) pt ?_;refine Br mp0 (λhE hX=>V9) pt ?_;refine D' (Ch lk lk om om) pt ?_;refine dg<|Dw (Aa lk gx gt2)<|?_;refine D' (Du lk lk om om) pt ?_;refine D' (Ch lk lki om om) pt ?_;refine Dw vm<|Bi<|?_;refine B9 ?_;refine sn'<|Ab<|wk'<|Ah<|?_;refine It (ι:=Int) (λ(k:Int)=>[(3,iv (bef y-719162+d-1+cum y k)),(4,iv k)]++rn' 14 12) (λ(k:Int)=>[]) (λ(k:Int)=>1<=k/\k<=m) (λ(k:Int)=>(m-k).toNat) (1) om (by try simp only[sm',Nat.reduceAdd];exact ALe.same (by repeat (first | exact wk0 | refine wka ?_ | refine wk1 rfl ?_ | refine wk1 (by first | rfl | exact ivx (by rw[jL];omega)) ?_)) rfl) ?_;rintro k hi1;try simp only[sm',Nat.reduceAdd]
 obtain⟨hk1,hk2⟩:=hi1;have hcb:=Yl (y:=y) (m:=k) hk1 om;refine Ab<|wm<|fq<|Vw (Aa lk gx gt1)<|Vw (Bm lk lk)<|sn'<|?_;refine cd' lk (λhc1=>?_) (λhc1=>?_)
 .have hcs:=O3 (y:=y) (m:=k) hk1 om;have hml:=H5 y k;refine za<|Ab<|Ah<|Aq<|mw<|fq<|Vw (Aa lk gx gt0)<|mw<|?_;refine Af mp (I4 om om hk1 om) pt ?_;refine V' (Du lk lk om om) pt ?_;refine mw<|Am<|Aw<|An<|Aq<|mw<|?_;refine ad<|mw<|Am<|Az<|?_;refine lU' (k+1) (by (try dsimp only);omega) (by refine zz ?_;exact ALe.same (by repeat (first | exact wk0 | refine wka ?_ | refine wk1 rfl ?_ | refine wk1 (by first | rfl | exact ivx om) ?_)) rfl)
 have hkm:k=m:=by omega
 refine Bd<|As<|As<|Bp<|An<|wm<|mr<|Ad rz<|rT'<|?_;refine ivx ?_;rw[hkm];unfold num;omega
def is_a {d:Int}:Ac 98 [.agg [iv y,iv m,iv d]] h (bv (Db y m d)):=by
 refine tI' k98 λN hn _ _ hbd=>?_;simp only[tb'] at hbd ⊢;refine wr'<|E' (Bq cv rfl hl0 ha0) pt<|ms<|Ab<|Bl<|dg<|Dw (Aa lk gx gt0)<|?_;refine Br mp (λhE hX=>Fo) pt ?_;refine D' vm pt ?_;refine Yk (t:=6) gt pt pt (λhg6=>?_) (λhg6=>?_)
 .have hy:1<=y/\y<=9999:=by unfold wi at hg6;simpa using hg6
  refine dO<|dg<|dO<|Dw (Aa lk gx gt1)<|dO<|?_;refine Br mp (λhE hX=>Fo) pt ?_;refine Dw (Ar lk lk)<|Dw vm<|?_;refine Yk (t:=11) gt pt pt (λhg11=>?_) (λhg11=>?_)
  .have hm:1<=m/\m<=12:=by unfold wi at hg11;simpa using hg11
   refine dO<|dg<|dO<|Dw (Aa lk gx gt2)<|dO<|dg<|dO<|Dw (Aa lk gx gt0)<|dO<|dg<|dO<|Dw (Aa lk gx gt1)<|dO<|?_;refine Br mp (λhE hX=>I4 om om hm.1 hm.2) pt ?_;refine d_do gt ?_;refine Br mp (λhE hX=>Fo) pt ?_;refine Dw (Ar lk lk)<|Dw vm<|Bi<|?_;refine B9 ?_;refine sr<|Ad rz<|rT'<|?_;refine bvx ?_;rw[show Db y m d=(wi y 1 9999&&(wi m 1 12&&wi d 1 (mlen y m))) from by unfold Db wi;simp[Bool.and_assoc]];simp_all
  refine dn<|dn<|dn<|dn<|dn<|dn<|dn<|dn<|Dw (Ao lk lkb)<|Dw vm<|Bi<|?_;refine B9 ?_;refine sr<|Ad rz<|rT'<|?_;refine bvx ?_;rw[show Db y m d=(wi y 1 9999&&(wi m 1 12&&wi d 1 (mlen y m))) from by unfold Db wi;simp[Bool.and_assoc]];simp_all
 refine dn<|dn<|dn<|Dw (Ao lk lkb)<|Dw vm<|dn<|dn<|dn<|dn<|dn<|dn<|dn<|dn<|Dw (Ao lk lkb)<|?_;refine Dw vm<|Bi<|?_;refine B9 ?_;refine sr<|Ad rz<|rT'<|?_;refine bvx ?_;rw[show Db y m d=(wi y 1 9999&&(wi m 1 12&&wi d 1 (mlen y m))) from by unfold Db wi;simp[Bool.and_assoc]];simp_all
def days_a {d:Int}:Ac 56 [.agg [iv y,iv m,iv d]] h (.tup [iv (if Db y m d then num y m d else 0),iv (if Db y m d then 0 else 3)]):=by
 refine tI' k56 λN hn _ _ hbd=>?_;simp only[tb'] at hbd ⊢;refine wr'<|E' (Bq cv rfl hl0 ha0) pt<|mw<|ms<|Ab<|wr'<|Vw (Ak lk gx Ap rfl)<|Af mp (is_a) pt<|Vw (Bj lk)<|Am<|?_;refine An ?_;refine Bg lk (λhc1=>?_) (λhc1=>?_)
 .have hd:Db y m d=false:=by simpa using hc1
  refine wm<|mr<|Ag<|Ad ry<|rT'<|?_;rw[hd];rfl
 have hd:Db y m d=true:=by simpa using hc1
 have hi:=E8.1 hd;have hl:=H5 y m;refine za<|wr'<|Vw (Ak lk gx Ap rfl)<|?_;refine Af mp (Se om om om om om om) pt ?_;refine mw<|mr<|Ad ry<|rT'<|?_;rw[hd];rfl
def date_a {n:Int}{h:AH}(h0 : -719162<=n) (h1:n<=2932896):Ac 217 [iv n] h (dateA (De n)):=by
 have hg:=iS (n:=n+719162) om;have hn:=X5 (n:=n+719162) om om;have hs:=Zk h0 h1;refine tI' k217 λN hn _ _ hbd=>?_;simp only[tb'] at hbd ⊢;refine wr'<|E' (Bz hl0 ha0) pt<|sn'<|wm<|Af mp0 (V9) pt<|?_;refine V' (Du lk lk om om) pt ?_;refine ms<|wm<|?_;refine V' (Mj lk lki om om om) pt ?_;refine ad<|ms<|Ab<|Ah<|?_;refine w_lp (ι:=Nat×Int) (λ⟨k,y⟩=>[(4,iv y)]++rn' 12 7) (λ⟨k,y⟩=>[]) (λ⟨k,y⟩=>yrOf n=yrUp k (n+719162) y/\1<=y/\y+k<=10100/\bef y<=n+719162/\n+719162<bef y+365*(k:Int)+365) (λ⟨k,y⟩=>k) (⟨60,(n+719162)/366+1⟩) (by exact⟨rfl,by omega,by omega,hg,by omega⟩) ?_;rintro⟨k,y⟩ hi1;try simp only[sm',Nat.reduceAdd]
 obtain⟨hy1,hy2,hy3,hy4,hy5⟩:=hi1;refine Ab<|wm<|?_;refine ad<|Af mp (O7 om om) pt ?_;refine mw<|Vw (Gy lk lk)<|sn'<|?_;refine cd' lk (λhc1=>?_) (λhc1=>?_)
 .obtain⟨j,rfl⟩ : ∃ j,k=j+1:=by
   cases k with
   | zero=>exfalso;have:=Yv (a:=y) (b:=y+1) om;have:=M9 y;have:=Xx y;unfold bef at *;omega
   | succ j=>exact⟨j,rfl⟩
  have hst:=Yv (a:=y) (b:=y+1) om;refine za<|Ah<|Aq<|mw<|?_;refine ad<|mw<|Am<|Aw<|Az<|?_;refine lT' (⟨j,y+1⟩) (by (try dsimp only);exact⟨by rw[hy1,yrUp,if_pos hc1],by omega,by omega,hc1,by omega⟩)
 have hyy:yrOf n=y:=by rw[hy1];cases k with
  | zero=>rfl
  | succ j=>rw[yrUp,if_neg hc1]
 rw[hyy] at hs;have hbs:=M9 y;have hl01:=Xx y;refine Bd<|As<|As<|Bp<|An<|wm<|mw<|?_;refine Af mp (O7 om om) pt ?_;refine V' (Ch lk lk om om) pt ?_;refine ms<|wk'<|Ab<|Ah<|?_;refine w_lp (ι:=Nat×Int×Int) (λ⟨k,m,r⟩=>[(3,iv r),(5,iv m)]++rn' 23 12) (λ⟨k,m,r⟩=>[]) (λ⟨k,m,r⟩=>moUp 12 y 1 (n+719162-bef y)=moUp k y m r/\1<=m/\m+k=13/\0<=r/\cum y m+r<365+lp y) (λ⟨k,m,r⟩=>k) (⟨12,1,n+719162-bef y⟩) (by exact⟨rfl,by omega,by omega,by omega,by rw[jL];omega⟩) ?_;rintro⟨k,m,r⟩ hi2;try simp only[sm',Nat.reduceAdd]
 obtain⟨hm1,hm2,hm3,hm4,hm5⟩:=hi2;have hm12:m<=12:=by
  rcases Int.lt_or_le 12 m with e | e
  .have:m=13:=by omega
   subst this;rw[mV] at hm5;omega
  exact e
 have hcs:=O3 (y:=y) (m:=m) hm2 hm12;have hcb:=Yl (y:=y) (m:=m) hm2 om;have hml:=H5 y m;refine Ab<|wm<|mw<|mw<|?_;refine Af mp (I4 om om hm2 hm12) pt ?_;refine Vw (Gz lk lk)<|sn'<|?_;refine cd' lk (λhc2=>?_) (λhc2=>?_)
 .obtain⟨j,rfl⟩ : ∃ j,k=j+1:=⟨k-1,by omega⟩;refine za<|Ah<|wm<|mw<|mw<|?_;refine Af mp (I4 om om hm2 hm12) pt ?_;refine V' (Ch lk lk om om) pt ?_;refine ms<|Aq<|mw<|?_;refine ad<|mw<|Am<|Aw<|Az<|?_;refine lT' (⟨j,m+1,r-mlen y m⟩) (by (try dsimp only);exact⟨by rw[hm1,moUp,if_pos hc2],by omega,by omega,by omega,by omega⟩)
 have hmm:moUp 12 y 1 (n+719162-bef y)=(m,r):=by rw[hm1];cases k with
  | zero=>rfl
  | succ j=>rw[moUp,if_neg hc2]
 refine Bd<|As<|As<|Bp<|An<|wm<|mw<|mw<|?_;refine ad<|Vw (Bb (Fu cw cw cw))<|E' (Ai lk cv gx rfl nb rfl Bo hs0) ptn<|sr<|Ad (rs1 (rr_c gt gx (ld1 Ap rfl)))<|rT'<|?_;have hdo:De n=(y,m,r+1):=by simp only[De,hyy,hmm]
 rw[hdo]
def of_a {n:Int}:Ac 135 [iv n] h (.tup [dateA (if -719162<=n/\n<=2932896 then De n else (0,0,0)),iv (if -719162<=n/\n<=2932896 then 0 else 3)]):=by
 refine tI' k135 λN hn _ _ hbd=>?_;simp only[tb'] at hbd ⊢;refine wr'<|E' (Bz hl0 ha0) pt<|ms<|Ab<|wm<|Af mp0 (pM) pt<|Af mp0 (last_a) pt<|Af mp (Fo) pt<|Vw (Bj lk)<|?_;refine sn' ?_;refine Bg lk (λhc1=>?_) (λhc1=>?_)
 .have hno:¬(-719162<=n/\n<=2932896):=by unfold wi at hc1;simp at hc1;omega
  refine wr'<|Vw (Bb Jl)<|E' (Ai lk cv gx rfl nb rfl Bo hs0) ptn<|mr<|Ag<|Ad (rsn (rm1 (rr_c gt gx (ld1 Ap rfl)) (rm1 (rr_t gt) rm0)))<|rT'<|?_;rw[if_neg hno,if_neg hno]
 have hyes : -719162<=n/\n<=2932896:=by unfold wi at hc1;simp at hc1;omega
 refine za<|wm<|Af mp (date_a hyes.1 hyes.2) pt<|E' (Ai lk cv gx rfl nb rfl Bo hs0) ptn<|mr<|Ad (rsn (rm1 (rr_c gt gx (ld1 Ap rfl)) (rm1 (rr_t gt) rm0)))<|rT'<|?_;rw[if_pos hyes,if_pos hyes]
end
end Go.Proofs.YtfcecekilahfiaaGreatDoor
section
namespace Go.Proofs.YtfcecekilahfiaaGreatDoor
open Go.Ab Civ
section
def Gi {a0 a1 c0:AV}{l:List AV}:setCells (a0::a1::l) 1 [c0]=a0::c0::l:=rfl
def Lj {a0 a1 a2 c0:AV}{l:List AV}:setCells (a0::a1::a2::l) 2 [c0]=a0::a1::c0::l:=rfl
end
def k300:=Kx 300 []
def k273:=Kx 273 []
def k272:=Kx 272 [.e [] 23 []]
def k236:=Kx 236 [.e [] 10 []]
def k309:=Kx 309 []
def k295:=Kx 295 []
def k220:=Kx 220 [.e [] 7 []]
def k144:=Kx 144 []
def k145:=Kx 145 []
def k296:=Kx 296 []
def k297:=Kx 297 []
def k261:=Kx 261 [.e [] 14 []]
namespace Civ
def fwd (n k:Int):Int:=n+(k-wd n)%7
def bwd (n k:Int):Int:=n-(wd n-k)%7
def kR {n k j:Int}(h0:0<=j) (h1:j<=(k-wd n)%7) (hk:0<=k/\k<=6):wd (n+j)=k↔j=(k-wd n)%7:=by unfold wd at *;omega
def kS {n k j:Int}(h0:0<=j) (h1:j<=(wd n-k)%7) (hk:0<=k/\k<=6):wd (n-j)=k↔j=(wd n-k)%7:=by unfold wd at *;omega
def Dt (y m kind wk n:Int):Int :=
 if ¬(1<=y/\y<=9999)\/¬(1<=m/\m<=12) then 3
 else if ¬(1<=kind/\kind<=4) then 7
 else if ¬(0<=wk/\wk<=6)\/kind=1/\wk≠0 then 3
 else if kind=2/\n≠0\/kind≠2/\¬(1<=n/\n<=mlen y m) then 3
 else 0
def Gl (y m kind wk n:Int):Int :=
 if kind=2 then bwd (num y m (mlen y m)) wk else if kind=3 then fwd (num y m n) wk else if kind=4 then bwd (num y m n) wk else num y m n
def onV (y m kind wk n:Int):(Int×Int×Int)×Int :=
 if Dt y m kind wk n≠0 then ((0,0,0),Dt y m kind wk n)
 else if -719162<=Gl y m kind wk n/\Gl y m kind wk n<=2932896 then (De (Gl y m kind wk n),0) else ((0,0,0),3)
def formE_bd (y m kind wk n:Int):0<=Dt y m kind wk n/\Dt y m kind wk n<=7:=by
 unfold Dt;repeat' split
 all_goals omega
def To {y m kind wk n k:Int}(h:Dt y m kind wk n=k) (hk:k≠0):onV y m kind wk n=((0,0,0),k):=by
 unfold onV;rw[h,if_pos hk]
def Qw {y m kind wk n k:Int}(h:Dt y m kind wk n=0) (hk:Gl y m kind wk n=k):onV y m kind wk n=if -719162<=k/\k<=2932896 then (De k,0) else ((0,0,0),3):=by
 unfold onV;rw[h,if_neg (by simp),hk]
def aF (y m d:Int):num y m d=num y m 1+d-1:=by unfold num;omega
def V5 {y m:Int}(hy:1<=y/\y<=20000) (hm:1<=m/\m<=12) : -8000000<=num y m 1/\num y m 1<=8000000:=by
 have:=bef_bd hy.1 hy.2;have:=Yl (y:=y) (m:=m) hm.1 om;unfold num;omega
def num_ref1 {y m d:Int}(hm:3<=m) (hm2:m<=12):y/400*146097+y%400*365+y%400/4-y%400/100+(153*(m-3)+2)/5+d-1-719468=num y m d:=by
 have:=lp_iff y;unfold num cum bef;rw[if_neg om,this];split <;> omega
def num_ref2 {y m d:Int}(hm:1<=m) (hm2:m<3):(y-1)/400*146097+(y-1)%400*365+(y-1)%400/4-(y-1)%400/100+(153*(m-3+12)+2)/5+d-1-719468=num y m d:=by
 unfold num cum bef;rw[if_pos om];omega
def lX (y:Int):num y 1 1=bef y-719162:=by unfold num;rw[jL];omega
def X7 {y m k wk n:Int}(h:Dt y m k wk n=0):(1<=y/\y<=9999)/\(1<=m/\m<=12)/\(1<=k/\k<=4)/\(0<=wk/\wk<=6)/\(k=1->wk=0)/\(k=2->n=0)/\(k≠2->1<=n/\n<=mlen y m):=by
 unfold Dt at h;repeat' split at h
 all_goals omega
end Civ
def Zn {n:Int}{h:AH}:Ac 300 [iv n] h (iv (wd n)):=by
 have hb1 : -6<=n.tmod 7/\n.tmod 7<=6:=by rw[Zp];split <;> omega
 have hb2 : -6<=(n.tmod 7+4).tmod 7/\(n.tmod 7+4).tmod 7<=6:=by rw[Zp];split <;> omega
 refine tI' k300 λN hn _ _ hbd=>?_;simp only[tb'] at hbd ⊢;refine wk'<|wm<|?_;refine V' (bU lk lki om) pt ?_;refine ad<|V' (bU lk lki om) pt ?_;refine ad<|V' (bU lk lki om) pt ?_;refine mr<|Ad rz<|rT'<|?_;exact ivx (wd_go n)
def toward_f {n k:Int}{h:AH}(h0 : -100000000<=n) (h1:n<=100000000) (hk:0<=k/\k<=6):Ac 273 [iv n,iv k,iv 1] h (iv (fwd n k)):=by
 refine tI' k273 λN hn _ _ hbd=>?_;simp only[tb'] at hbd ⊢;refine wk'<|Ab<|Ah<|?_;refine It (ι:=Nat) (λ(j:Nat)=>[(0,iv (n+j))]++rn' 7 7) (λ(j:Nat)=>[]) (λ(j:Nat)=>(j:Int)<=(k-wd n)%7) (λ(j:Nat)=>7-j) (0) (by have:=wd_bd n;omega) (by try simp only[sm',Nat.reduceAdd];exact ALe.same (by repeat (first | exact wk0 | refine wka ?_ | refine wk1 rfl ?_ | refine wk1 (by first | rfl | exact ivx (by simp)) ?_)) rfl) ?_;rintro j hi1;try simp only[sm',Nat.reduceAdd]
 have hwf:=kR (n:=n) (k:=k) (j:=j) om hi1 hk;refine Ab<|wm<|Af mp (Zn) pt<|mw<|Vw (Ca lk lk)<|sn'<|?_;refine cd' lk (λhc1=>?_) (λhc1=>?_)
 .have hj:¬(j:Int)=(k-wd n)%7:=λe=>hc1 (hwf.2 e);refine za<|Ah<|Aq<|mw<|mw<|?_;refine V' (Du lk lk om om) pt ?_;refine mw<|Am<|Aw<|Az<|?_;refine lU' (j+1) (by (try dsimp only);omega) (by refine zz ?_;exact ALe.same (by repeat (first | exact wk0 | refine wka ?_ | refine wk1 rfl ?_ | refine wk1 (by first | rfl | exact ivx om) ?_)) rfl)
 have hj:=hwf.1 (Decidable.of_not_not hc1);refine Bd<|As<|As<|Bp<|An<|wm<|mr<|Ad rz<|rT'<|?_;refine ivx ?_;unfold fwd;omega
def fG {n k:Int}{h:AH}(h0 : -100000000<=n) (h1:n<=100000000) (hk:0<=k/\k<=6):Ac 273 [iv n,iv k,iv (-1)] h (iv (bwd n k)):=by
 refine tI' k273 λN hn _ _ hbd=>?_;simp only[tb'] at hbd ⊢;refine wk'<|Ab<|Ah<|?_;refine It (ι:=Nat) (λ(j:Nat)=>[(0,iv (n-j))]++rn' 7 7) (λ(j:Nat)=>[]) (λ(j:Nat)=>(j:Int)<=(wd n-k)%7) (λ(j:Nat)=>7-j) (0) (by have:=wd_bd n;omega) (by try simp only[sm',Nat.reduceAdd];exact ALe.same (by repeat (first | exact wk0 | refine wka ?_ | refine wk1 rfl ?_ | refine wk1 (by first | rfl | exact ivx (by simp)) ?_)) rfl) ?_;rintro j hi1;try simp only[sm',Nat.reduceAdd]
 have hwf:=kS (n:=n) (k:=k) (j:=j) om hi1 hk;refine Ab<|wm<|Af mp (Zn) pt<|mw<|Vw (Ca lk lk)<|sn'<|?_;refine cd' lk (λhc1=>?_) (λhc1=>?_)
 .have hj:¬(j:Int)=(wd n-k)%7:=λe=>hc1 (hwf.2 e);refine za<|Ah<|Aq<|mw<|mw<|?_;refine V' (Du lk lk om om) pt ?_;refine mw<|Am<|Aw<|Az<|?_;refine lU' (j+1) (by (try dsimp only);omega) (by refine zz ?_;exact ALe.same (by repeat (first | exact wk0 | refine wka ?_ | refine wk1 rfl ?_ | refine wk1 (by first | rfl | exact ivx om) ?_)) rfl)
 have hj:=hwf.1 (Decidable.of_not_not hc1);refine Bd<|As<|As<|Bp<|An<|wm<|mr<|Ad rz<|rT'<|?_;refine ivx ?_;unfold bwd;omega
def Dl {n a b:Int}:wi n a b=true↔a<=n/\n<=b:=by unfold wi;simp
def Ev {n a b:Int}:wi n a b=false↔¬(a<=n/\n<=b):=by rw[<-Dl];simp
def form_a {y m k wk n:Int}{h:AH}:Ac 272 [iv y,iv m,.agg [iv k,iv wk,iv n]] h (iv (Dt y m k wk n)):=by
 refine tI' k272 λN hn _ _ hbd=>?_;simp only[tb'] at hbd ⊢;refine wr'<|E' (Bq cv rfl hl0 ha0) pt<|ms<|Ab<|Ah<|wm<|Af mp (Fo) pt<|Vw (Bj lk)<|mw<|?_;refine Cz (t:=11) gt pt pt (λhg11=>?_) (λhg11=>?_)
 .refine so<|so<|so<|Vw (Ar lk lkb)<|ms<|Cx lk<|wo<|?_;refine Au<|Ag<|Ad rz<|rT'<|?_;refine ivx ?_;unfold Dt;simp only[Bool.not_eq_true',Bool.not_eq_false',Dl,Ev,decide_eq_true_eq,decide_eq_false_iff_not] at *;repeat' split
  all_goals omega
 refine sd<|mw<|sd<|Af mp (Fo) pt<|sd<|Vw (Bj lk)<|Vw (Ao lk lk)<|ms<|?_;refine Bg lk (λhc1=>?_) (λhc1=>?_)
 .refine wo<|Au<|Ag<|Ad rz<|rT'<|?_;refine ivx ?_;unfold Dt;simp only[Bool.not_eq_true',Bool.not_eq_false',Dl,Ev,decide_eq_true_eq,decide_eq_false_iff_not] at *;repeat' split
  all_goals omega
 refine wr'<|fq<|Vw (Aa lk gx gt0)<|Af mp (Fo) pt<|Vw (Bj lk)<|ms<|?_;refine Bg lk (λhc2=>?_) (λhc2=>?_)
 .refine wo<|Au<|Ag<|Ad rz<|rT'<|?_;refine ivx ?_;unfold Dt;simp only[Bool.not_eq_true',Bool.not_eq_false',Dl,Ev,decide_eq_true_eq,decide_eq_false_iff_not] at *;repeat' split
  all_goals omega
 refine wr'<|fq<|Vw (Aa lk gx gt1)<|Af mp (Fo) pt<|Vw (Bj lk)<|mw<|?_;refine Cz (t:=26) gt pt pt (λhg26=>?_) (λhg26=>?_)
 .refine so<|so<|so<|so<|s_nu gt pt<|s_nu gt pt<|s_nu gt pt<|so<|Vw (Ar lk lkb)<|ms<|Cx lk<|Ab<|?_;refine Aq<|mr<|Au<|Ag<|Ad rz<|rT'<|?_;refine ivx ?_;unfold Dt;simp only[Bool.not_eq_true',Bool.not_eq_false',Dl,Ev,decide_eq_true_eq,decide_eq_false_iff_not] at *;repeat' split
  all_goals omega
 refine sd<|fq<|sd<|Vw (Aa lk gx gt0)<|sd<|Vw (Cy lk lki)<|sd<|mw<|?_;refine sp' (t:=30) gt pt pt (λhg30=>?_) (λhg30=>?_)
 .refine sd<|fq<|sd<|Vw (Aa lk gx gt1)<|sd<|Vw (Ca lk lki)<|sd<|Vw (Ar lk lk)<|Vw (Ao lk lk)<|ms<|?_;refine cd' lk (λhc3=>?_) (λhc3=>?_)
  .refine wo<|Au<|Ag<|Ad rz<|rT'<|?_;refine ivx ?_;unfold Dt;simp only[Bool.not_eq_true',Bool.not_eq_false',Dl,Ev,decide_eq_true_eq,decide_eq_false_iff_not] at *;repeat' split
   all_goals omega
  refine Ab<|Bl<|dg<|Dw (Aa lk gx gt0)<|Dw (Cy lk lki)<|Dw vm<|?_;refine dq' (t:=40) gt pt pt (λhg40=>?_) (λhg40=>?_)
  .refine dO<|dg<|dO<|Dw (Aa lk gx gt2)<|dO<|Dw (Ca lk lki)<|Dw (Ar lk lk)<|Dw vm<|?_;refine dq' (t:=45) gt pt pt (λhg45=>?_) (λhg45=>?_)
   .refine dn<|dn<|dn<|dn<|d_nu gt pt<|d_nu gt pt<|d_nu gt pt<|d_nu gt pt<|d_nu gt pt<|d_nu gt pt<|d_nu gt pt<|dn<|Dw (Ar lk lkb)<|Dw vm<|?_;refine Bi ?_;refine B9 ?_;refine sn'<|Cx lk<|wo<|Au<|Ag<|Ad rz<|rT'<|?_;refine ivx ?_;unfold Dt;simp only[Bool.not_eq_true',Bool.not_eq_false',Dl,Ev,decide_eq_true_eq,decide_eq_false_iff_not] at *;repeat' split
    all_goals omega
   refine dO<|dg<|dO<|Dw (Aa lk gx gt0)<|dO<|Dw (Ca lk lki)<|dO<|Dw vm<|?_;refine dq' (t:=49) gt pt pt (λhg49=>?_) (λhg49=>?_)
   .refine dO<|dg<|dO<|Dw (Aa lk gx gt2)<|dO<|Dw vm<|dO<|Dw vm<|dO<|?_;have hym:(1<=y/\y<=9999)/\(1<=m/\m<=12):=by simp only[Bool.not_eq_true',Bool.not_eq_false',Dl,Ev] at *;omega
    refine Br mp (λhE hX=>I4 om om hym.2.1 hym.2.2) pt ?_;refine d_do gt ?_;refine Br mp (λhE hX=>Fo) pt ?_;refine dO<|Dw (Bj lk)<|dO<|Dw (Ar lk lk)<|Dw (Ao lk lk)<|Dw vm<|Bi<|?_;refine B9 ?_;refine sn' ?_;refine Bg lk (λhc4=>?_) (λhc4=>?_)
    .refine wo<|Au<|Ag<|Ad rz<|rT'<|?_;refine ivx ?_;unfold Dt;simp only[Bool.not_eq_true',Bool.not_eq_false',Dl,Ev,decide_eq_true_eq,decide_eq_false_iff_not] at *;repeat' split
     all_goals omega
    refine Be<|Aw<|An<|wo<|Ad rz<|rT'<|?_;refine ivx ?_;unfold Dt;simp only[Bool.not_eq_true',Bool.not_eq_false',Dl,Ev,decide_eq_true_eq,decide_eq_false_iff_not] at *;repeat' split
    all_goals omega
   refine dn<|dn<|dn<|dn<|dn<|dn<|dn<|dO<|Dw (Ao lk lkb)<|Dw (Ao lk lk)<|Dw vm<|Bi<|?_;refine B9 ?_;refine sn'<|Cf lk<|Be<|Aw<|An<|wo<|Ad rz<|rT'<|?_;refine ivx ?_;unfold Dt;simp only[Bool.not_eq_true',Bool.not_eq_false',Dl,Ev,decide_eq_true_eq,decide_eq_false_iff_not] at *;repeat' split
   all_goals omega
  refine dn<|dn<|dn<|Dw (Ao lk lkb)<|Dw vm<|dO<|dg<|dO<|Dw (Aa lk gx gt0)<|dO<|Dw (Ca lk lki)<|dO<|Dw vm<|?_;refine dq' (t:=49) gt pt pt (λhg49=>?_) (λhg49=>?_)
  .refine dO<|dg<|dO<|Dw (Aa lk gx gt2)<|dO<|Dw vm<|dO<|Dw vm<|dO<|?_;have hym:(1<=y/\y<=9999)/\(1<=m/\m<=12):=by simp only[Bool.not_eq_true',Bool.not_eq_false',Dl,Ev] at *;omega
   refine Br mp (λhE hX=>I4 om om hym.2.1 hym.2.2) pt ?_;refine d_do gt ?_;refine Br mp (λhE hX=>Fo) pt ?_;refine dO<|Dw (Bj lk)<|dO<|Dw (Ar lk lk)<|Dw (Ao lk lk)<|Dw vm<|Bi<|?_;refine B9 ?_;refine sn' ?_;refine Bg lk (λhc4=>?_) (λhc4=>?_)
   .refine wo<|Au<|Ag<|Ad rz<|rT'<|?_;refine ivx ?_;unfold Dt;simp only[Bool.not_eq_true',Bool.not_eq_false',Dl,Ev,decide_eq_true_eq,decide_eq_false_iff_not] at *;repeat' split
    all_goals omega
   refine Be<|Aw<|An<|wo<|Ad rz<|rT'<|?_;refine ivx ?_;unfold Dt;simp only[Bool.not_eq_true',Bool.not_eq_false',Dl,Ev,decide_eq_true_eq,decide_eq_false_iff_not] at *;repeat' split
   all_goals omega
  refine dn<|dn<|dn<|dn<|dn<|dn<|dn<|dO<|Dw (Ao lk lkb)<|Dw (Ao lk lk)<|Dw vm<|Bi<|?_;refine B9 ?_;refine sn'<|Cf lk<|Be<|Aw<|An<|wo<|Ad rz<|rT'<|?_;refine ivx ?_;unfold Dt;simp only[Bool.not_eq_true',Bool.not_eq_false',Dl,Ev,decide_eq_true_eq,decide_eq_false_iff_not] at *;repeat' split
  all_goals omega
 refine so<|so<|so<|sd<|Vw (Ao lk lkb)<|Vw (Ao lk lk)<|ms<|Cf lk<|Ab<|Bl<|dg<|Dw (Aa lk gx gt0)<|?_;refine Dw (Cy lk lki)<|Dw vm<|?_;refine dq' (t:=40) gt pt pt (λhg40=>?_) (λhg40=>?_)
 .refine dO<|dg<|dO<|Dw (Aa lk gx gt2)<|dO<|Dw (Ca lk lki)<|Dw (Ar lk lk)<|Dw vm<|?_;refine dq' (t:=45) gt pt pt (λhg45=>?_) (λhg45=>?_)
  .refine dn<|dn<|dn<|dn<|d_nu gt pt<|d_nu gt pt<|d_nu gt pt<|d_nu gt pt<|d_nu gt pt<|d_nu gt pt<|d_nu gt pt<|dn<|Dw (Ar lk lkb)<|Dw vm<|?_;refine Bi ?_;refine B9 ?_;refine sn'<|Cx lk<|wo<|Au<|Ag<|Ad rz<|rT'<|?_;refine ivx ?_;unfold Dt;simp only[Bool.not_eq_true',Bool.not_eq_false',Dl,Ev,decide_eq_true_eq,decide_eq_false_iff_not] at *;repeat' split
   all_goals omega
  refine dO<|dg<|dO<|Dw (Aa lk gx gt0)<|dO<|Dw (Ca lk lki)<|dO<|Dw vm<|?_;refine dq' (t:=49) gt pt pt (λhg49=>?_) (λhg49=>?_)
  .refine dO<|dg<|dO<|Dw (Aa lk gx gt2)<|dO<|Dw vm<|dO<|Dw vm<|dO<|?_;have hym:(1<=y/\y<=9999)/\(1<=m/\m<=12):=by simp only[Bool.not_eq_true',Bool.not_eq_false',Dl,Ev] at *;omega
   refine Br mp (λhE hX=>I4 om om hym.2.1 hym.2.2) pt ?_;refine d_do gt ?_;refine Br mp (λhE hX=>Fo) pt ?_;refine dO<|Dw (Bj lk)<|dO<|Dw (Ar lk lk)<|Dw (Ao lk lk)<|Dw vm<|Bi<|?_;refine B9 ?_;refine sn' ?_;refine Bg lk (λhc4=>?_) (λhc4=>?_)
   .refine wo<|Au<|Ag<|Ad rz<|rT'<|?_;refine ivx ?_;unfold Dt;simp only[Bool.not_eq_true',Bool.not_eq_false',Dl,Ev,decide_eq_true_eq,decide_eq_false_iff_not] at *;repeat' split
    all_goals omega
   refine Be<|Aw<|An<|wo<|Ad rz<|rT'<|?_;refine ivx ?_;unfold Dt;simp only[Bool.not_eq_true',Bool.not_eq_false',Dl,Ev,decide_eq_true_eq,decide_eq_false_iff_not] at *;repeat' split
   all_goals omega
  refine dn<|dn<|dn<|dn<|dn<|dn<|dn<|dO<|Dw (Ao lk lkb)<|Dw (Ao lk lk)<|Dw vm<|Bi<|?_;refine B9 ?_;refine sn'<|Cf lk<|Be<|Aw<|An<|wo<|Ad rz<|rT'<|?_;refine ivx ?_;unfold Dt;simp only[Bool.not_eq_true',Bool.not_eq_false',Dl,Ev,decide_eq_true_eq,decide_eq_false_iff_not] at *;repeat' split
  all_goals omega
 refine dn<|dn<|dn<|Dw (Ao lk lkb)<|Dw vm<|dO<|dg<|dO<|Dw (Aa lk gx gt0)<|dO<|Dw (Ca lk lki)<|dO<|Dw vm<|?_;refine dq' (t:=49) gt pt pt (λhg49=>?_) (λhg49=>?_)
 .refine dO<|dg<|dO<|Dw (Aa lk gx gt2)<|dO<|Dw vm<|dO<|Dw vm<|dO<|?_;have hym:(1<=y/\y<=9999)/\(1<=m/\m<=12):=by simp only[Bool.not_eq_true',Bool.not_eq_false',Dl,Ev] at *;omega
  refine Br mp (λhE hX=>I4 om om hym.2.1 hym.2.2) pt ?_;refine d_do gt ?_;refine Br mp (λhE hX=>Fo) pt ?_;refine dO<|Dw (Bj lk)<|dO<|Dw (Ar lk lk)<|Dw (Ao lk lk)<|Dw vm<|Bi<|?_;refine B9 ?_;refine sn' ?_;refine Bg lk (λhc4=>?_) (λhc4=>?_)
  .refine wo<|Au<|Ag<|Ad rz<|rT'<|?_;refine ivx ?_;unfold Dt;simp only[Bool.not_eq_true',Bool.not_eq_false',Dl,Ev,decide_eq_true_eq,decide_eq_false_iff_not] at *;repeat' split
   all_goals omega
  refine Be<|Aw<|An<|wo<|Ad rz<|rT'<|?_;refine ivx ?_;unfold Dt;simp only[Bool.not_eq_true',Bool.not_eq_false',Dl,Ev,decide_eq_true_eq,decide_eq_false_iff_not] at *;repeat' split
  all_goals omega
 refine dn<|dn<|dn<|dn<|dn<|dn<|dn<|dO<|Dw (Ao lk lkb)<|Dw (Ao lk lk)<|Dw vm<|Bi<|?_;refine B9 ?_;refine sn'<|Cf lk<|Be<|Aw<|An<|wo<|Ad rz<|rT'<|?_;refine ivx ?_;unfold Dt;simp only[Bool.not_eq_true',Bool.not_eq_false',Dl,Ev,decide_eq_true_eq,decide_eq_false_iff_not] at *;repeat' split
 all_goals omega
def on_a {y m k wk n:Int}{h:AH}:Ac 236 [iv y,iv m,.agg [iv k,iv wk,iv n]] h (.tup [.agg [iv (onV y m k wk n).1.1,iv (onV y m k wk n).1.2.1,iv (onV y m k wk n).1.2.2],iv (onV y m k wk n).2]):=by
 have hfb:=formE_bd y m k wk n;refine tI' k236 λN hn _ _ hbd=>?_;simp only[tb'] at hbd ⊢;refine wr'<|E' (Bq cv rfl hl0 ha0) pt<|E' (Bz hl1 ha1) pt<|ms<|Ab<|wm<|mw<|Vw (Ak lk gx Ap rfl)<|Af mp (form_a) pt<|?_;refine ms<|wm<|Vw (Ca lk lki)<|sn'<|?_;refine cd' lk (λhc1=>?_) (λhc1=>?_)
 .have hv:=To (y:=y) (m:=m) (kind:=k) (wk:=wk) (n:=n) rfl hc1;refine wr'<|Vw (Bb Jl)<|mw<|E' (Ai lk cv gx rfl nb rfl Bo hs1) ptn<|mr<|Ag<|Ad (rsn (rm1 (rr_c gt gx (ld1 Ap rfl)) (rm1 (rr_t gt) rm0)))<|rT'<|?_;rw[hv]
 have he:Dt y m k wk n=0:=Decidable.of_not_not hc1;obtain⟨hy,hm,hk,hw,hk1,hk2,hn3⟩:=X7 he;have hnb:=V5 (y:=y) (m:=m) ⟨hy.1,by omega⟩ hm;have hml:=H5 y m;have hn':0<=n/\n<=31:=by by_cases e:k=2 <;> simp_all <;> omega
 refine za<|wm<|mw<|Vw (Bb (Fu cw cw cw))<|?_;refine Af mp (Se om om om om om om) pt ?_;refine ms<|wm<|fq<|Vw (Aa lk gx gt2)<|?_;refine V' (Du lk lk om om) pt ?_;refine V' (Ch lk lki om om) pt ?_;refine ms<|Ab<|wr'<|fq<|Vw (Aa lk gx gt0)<|sn'<|Ah<|wr'<|Vw (Cy lk lki)<|?_;refine ms<|?_;refine cd' lk (λhc2=>?_) (λhc2=>?_)
 .have hd:Gl y m k wk n=bwd (num y m 1+mlen y m-1) wk:=by unfold Gl;rw[if_pos hc2,aF y m (mlen y m)]
  refine Bl<|Dw vm<|Dw vm<|Dw vm<|?_;refine Br mp (λhE hX=>I4 om om hm.1 hm.2) pt ?_;refine D' (Du lk lk om om) pt ?_;refine D' (Ch lk lki om om) pt ?_;refine dg<|Dw (Aa lk gx gt1)<|?_;refine Br mp (λhE hX=>fG om om hw) pt ?_;refine Dw vm<|Bi<|?_;refine B9 ?_;refine Am<|Aw<|An<|wm<|Af mp (of_a) pt<|Vw (B7 lk gt)<|Vw (B7 lk gt)<|E' (Ai lk cv gx rfl nb rfl Bo hs1) ptn<|mr<|?_;refine Ad (rsn (rm1 (rr_c gt gx (ld1 Ap rfl)) (rm1 (rr_t gt) rm0)))<|rT'<|?_;rw[Qw he hd];split <;> rfl
 refine wr'<|Vw (Cy lk lki)<|ms<|?_;refine cd' lk (λhc3=>?_) (λhc3=>?_)
 .have hd:Gl y m k wk n=fwd (num y m 1+n-1) wk:=by unfold Gl;rw[if_neg hc2,if_pos hc3,aF y m n]
  refine Aq<|mw<|fq<|Vw (Aa lk gx gt1)<|?_;refine Af mp (toward_f om om hw) pt ?_;refine mw<|Am<|Aw<|An<|wm<|Af mp (of_a) pt<|Vw (B7 lk gt)<|Vw (B7 lk gt)<|E' (Ai lk cv gx rfl nb rfl Bo hs1) ptn<|ms<|?_;refine C4<|Ad (rsn (rm1 (rr_c gt gx (ld1 Ap rfl)) (rm1 (rr_t gt) rm0)))<|rT'<|?_;rw[Qw he hd];split <;> rfl
 refine wr'<|Vw (Cy lk lki)<|ms<|?_;refine cd' lk (λhc4=>?_) (λhc4=>?_)
 .have hd:Gl y m k wk n=bwd (num y m 1+n-1) wk:=by unfold Gl;rw[if_neg hc2,if_neg hc3,if_pos hc4,aF y m n]
  refine Aq<|mw<|fq<|Vw (Aa lk gx gt1)<|?_;refine Af mp (fG om om hw) pt ?_;refine mw<|Am<|Aw<|An<|wm<|Af mp (of_a) pt<|Vw (B7 lk gt)<|Vw (B7 lk gt)<|E' (Ai lk cv gx rfl nb rfl Bo hs1) ptn<|ms<|?_;refine C4<|Ad (rsn (rm1 (rr_c gt gx (ld1 Ap rfl)) (rm1 (rr_t gt) rm0)))<|rT'<|?_;rw[Qw he hd];split <;> rfl
 have hd:Gl y m k wk n=num y m 1+n-1:=by unfold Gl;rw[if_neg hc2,if_neg hc3,if_neg hc4,aF y m n]
 refine Be<|Aw<|An<|wm<|Af mp (of_a) pt<|Vw (B7 lk gt)<|Vw (B7 lk gt)<|E' (Ai lk cv gx rfl nb rfl Bo hs1) ptn<|mr<|?_;refine Ad (rsn (rm1 (rr_c gt gx (ld1 Ap rfl)) (rm1 (rr_t gt) rm0)))<|rT'<|?_;rw[Qw he hd];split <;> rfl
def Er {n a b:Int}{h:AH}:Ac 80 [iv n,iv a,iv b] h (bv (wi n a b)):=Lq
def Pu {y:Int}{h:AH}(h0:0<=y):Ac 309 [iv y] h (bv (Qi y)):=by
 refine tI' k309 λN hn _ _ hbd=>?_;simp only[tb'] at hbd ⊢;refine wk'<|wm<|?_;refine V' (Lm lk lki om om) pt ?_;refine Vw (Cy lk lki)<|mw<|?_;refine sp' (t:=6) gt pt pt (λhg6=>?_) (λhg6=>?_)
 .refine so<|so<|so<|so<|s_nu gt pt<|s_nu gt pt<|s_nu gt pt<|so<|Vw (Ar lk lkb)<|mr<|Ad rz<|?_;refine rT' ?_;refine bvx ?_;unfold Qi;rw[Bool.eq_iff_iff];simp at *;omega
 refine sd<|mw<|sd<|?_;refine V' (Lm lk lki om om) pt ?_;refine sd<|Vw (Cy lk lki)<|sd<|mw<|?_;refine sp' (t:=10) gt pt pt (λhg10=>?_) (λhg10=>?_)
 .refine sd<|mw<|sd<|?_;refine V' (Lm lk lki om om) pt ?_;refine sd<|Vw (Ca lk lki)<|sd<|Vw (Ar lk lk)<|Vw (Ao lk lk)<|mr<|Ad rz<|rT'<|?_;refine bvx ?_;unfold Qi;rw[Bool.eq_iff_iff];simp at *;omega
 refine so<|so<|so<|sd<|Vw (Ao lk lkb)<|Vw (Ao lk lk)<|mr<|Ad rz<|rT'<|?_;refine bvx ?_;unfold Qi;rw[Bool.eq_iff_iff];simp at *;omega
def fO {y m:Int}{h:AH}(h0:0<=y):Ac 295 [iv y,iv m] h (iv (mlen y m)):=by
 refine tI' k295 λN hn _ _ hbd=>?_;simp only[tb'] at hbd ⊢;refine wk'<|Ab<|wk'<|Ah<|Ab<|Ab<|?_;refine Aq<|Vw (Cy lk lki)<|ms<|?_;refine cd' lk (λhc1=>?_) (λhc1=>?_)
 .refine za<|?_;refine cd' lk (λhc4=>?_) (λhc4=>?_)
  .refine wo<|Au<|Ag<|Ad rz<|rT'<|?_;refine ivx ?_;unfold mlen lp;simp_all
  refine wr'<|Vw (Cy lk lki)<|ms<|?_;refine cd' lk (λhc5=>?_) (λhc5=>?_)
  .refine Ab<|wm<|Af mp (Pu h0) pt<|sn'<|?_;refine Bg lk (λhc6=>?_) (λhc6=>?_)
   .refine wo<|Ag<|Au<|Ag<|Ad rz<|rT'<|?_;refine ivx ?_;unfold mlen lp;simp_all
   refine za<|wo<|Au<|Ag<|Ad rz<|rT'<|?_;refine ivx ?_;unfold mlen lp;simp_all
  refine Be<|Aw<|An<|wo<|Ad rz<|rT'<|?_;refine ivx ?_;unfold mlen lp;simp_all
 refine wr'<|Vw (Cy lk lki)<|ms<|?_;refine cd' lk (λhc2=>?_) (λhc2=>?_)
 .refine za<|?_;refine cd' lk (λhc4=>?_) (λhc4=>?_)
  .refine wo<|Au<|Ag<|Ad rz<|rT'<|?_;refine ivx ?_;unfold mlen lp;simp_all
  refine wr'<|Vw (Cy lk lki)<|ms<|?_;refine cd' lk (λhc5=>?_) (λhc5=>?_)
  .refine Ab<|wm<|Af mp (Pu h0) pt<|sn'<|?_;refine Bg lk (λhc6=>?_) (λhc6=>?_)
   .refine wo<|Ag<|Au<|Ag<|Ad rz<|rT'<|?_;refine ivx ?_;unfold mlen lp;simp_all
   refine za<|wo<|Au<|Ag<|Ad rz<|rT'<|?_;refine ivx ?_;unfold mlen lp;simp_all
  refine Be<|Aw<|An<|wo<|Ad rz<|rT'<|?_;refine ivx ?_;unfold mlen lp;simp_all
 refine wr'<|Vw (Cy lk lki)<|ms<|?_;refine cd' lk (λhc3=>?_) (λhc3=>?_)
 .refine za<|?_;refine cd' lk (λhc4=>?_) (λhc4=>?_)
  .refine wo<|Au<|Ag<|Ad rz<|rT'<|?_;refine ivx ?_;unfold mlen lp;simp_all
  refine wr'<|Vw (Cy lk lki)<|ms<|?_;refine cd' lk (λhc5=>?_) (λhc5=>?_)
  .refine Ab<|wm<|Af mp (Pu h0) pt<|sn'<|?_;refine Bg lk (λhc6=>?_) (λhc6=>?_)
   .refine wo<|Ag<|Au<|Ag<|Ad rz<|rT'<|?_;refine ivx ?_;unfold mlen lp;simp_all
   refine za<|wo<|Au<|Ag<|Ad rz<|rT'<|?_;refine ivx ?_;unfold mlen lp;simp_all
  refine Be<|Aw<|An<|wo<|Ad rz<|rT'<|?_;refine ivx ?_;unfold mlen lp;simp_all
 refine Aq<|Vw (Cy lk lki)<|ms<|?_;refine cd' lk (λhc4=>?_) (λhc4=>?_)
 .refine wo<|Au<|Ag<|Ad rz<|rT'<|?_;refine ivx ?_;unfold mlen lp;simp_all
 refine wr'<|Vw (Cy lk lki)<|ms<|?_;refine cd' lk (λhc5=>?_) (λhc5=>?_)
 .refine Ab<|wm<|Af mp (Pu h0) pt<|sn'<|?_;refine Bg lk (λhc6=>?_) (λhc6=>?_)
  .refine wo<|Ag<|Au<|Ag<|Ad rz<|rT'<|?_;refine ivx ?_;unfold mlen lp;simp_all
  refine za<|wo<|Au<|Ag<|Ad rz<|rT'<|?_;refine ivx ?_;unfold mlen lp;simp_all
 refine Be<|Aw<|An<|wo<|Ad rz<|rT'<|?_;refine ivx ?_;unfold mlen lp;simp_all
def Ik {y m d:Int}{h:AH}(y0:1<=y) (y1:y<=20000) (m0:1<=m) (m1:m<=12) (d0 : -1000<=d) (d1:d<=1000):Ac 220 [.agg [iv y,iv m,iv d]] h (iv (num y m d)):=by
 refine tI' k220 λN hn _ _ hbd=>?_;simp only[tb'] at hbd ⊢;refine wr'<|E' (Bq cv rfl hl0 ha0) pt<|ms<|Ab<|Bl<|dg<|Dw (Aa lk gx gt0)<|dg<|Dw (Aa lk gx gt1)<|?_;refine D' (Ch lk lki om om) pt ?_;refine Dw vm<|Dw vm<|Bi<|?_;refine B9 ?_;refine sn'<|Ab<|wm<|Vw (Bm lk lki)<|sn'<|?_;refine cd' lk (λhc1=>?_) (λhc1=>?_)
 .refine wm<|?_;refine V' (Ch lk lki om om) pt ?_;refine ms<|Aq<|mw<|?_;refine ad<|ms<|wm<|?_;refine V' (Mj lk lki om om om) pt ?_;refine V' (J8 lk lki om om) pt ?_;refine mv' lk pt ?_;refine V' (Lm lk lki om om) pt ?_;refine V' (J8 lk lki om om) pt ?_;refine V' (Du lk lk om om) pt ?_;refine mv' lk pt ?_;refine V' (Lm lk lki om om) pt ?_;refine V' (Mj lk lki om om om) pt ?_;refine V' (Du lk lk om om) pt ?_;refine mv' lk pt ?_;refine V' (Lm lk lki om om) pt ?_;refine V' (Mj lk lki om om om) pt ?_;refine V' (Ch lk lk om om) pt ?_;refine ms<|wm<|mw<|?_;refine V' (J8 lki lk om om) pt ?_;refine ad<|V' (Mj lk lki om om om) pt ?_;refine V' (Du lk lk om om) pt ?_;refine fq<|Vw (Aa lk gx gt2)<|?_;refine V' (Du lk lk om om) pt ?_;refine V' (Ch lk lki om om) pt ?_;refine V' (Ch lk lki om om) pt ?_;refine mr<|Ad rz<|rT'<|?_;refine ivx ?_;rw[<-num_ref2 m0 om]
 refine za<|wm<|?_;refine V' (Mj lk lki om om om) pt ?_;refine V' (J8 lk lki om om) pt ?_;refine mv' lk pt ?_;refine V' (Lm lk lki om om) pt ?_;refine V' (J8 lk lki om om) pt ?_;refine V' (Du lk lk om om) pt ?_;refine mv' lk pt ?_;refine V' (Lm lk lki om om) pt ?_;refine V' (Mj lk lki om om om) pt ?_;refine V' (Du lk lk om om) pt ?_;refine mv' lk pt ?_;refine V' (Lm lk lki om om) pt ?_;refine V' (Mj lk lki om om om) pt ?_;refine V' (Ch lk lk om om) pt ?_;refine ms<|wm<|mw<|?_;refine V' (J8 lki lk om om) pt ?_;refine ad<|V' (Mj lk lki om om om) pt ?_;refine V' (Du lk lk om om) pt ?_;refine fq<|Vw (Aa lk gx gt2)<|?_;refine V' (Du lk lk om om) pt ?_;refine V' (Ch lk lki om om) pt ?_;refine V' (Ch lk lki om om) pt ?_;refine mr<|Ad rz<|rT'<|?_;refine ivx ?_;rw[<-num_ref1 om m1]
def fR {h:AH}:Ac 144 [] h (iv (-719162)):=by
 refine tI' k144 λN hn _ _ hbd=>?_;simp only[tb'] at hbd ⊢;refine wk'<|wr'<|Vw (Bb (Fu cw cw cw))<|?_;refine Af mp (Ik om om om om om om) pt ?_;refine mr<|Ad rz<|rT'<|?_;exact ivx (by decide)
def oO {h:AH}:Ac 145 [] h (iv 2932896):=by
 refine tI' k145 λN hn _ _ hbd=>?_;simp only[tb'] at hbd ⊢;refine wk'<|wr'<|Vw (Bb (Fu cw cw cw))<|?_;refine Af mp (Ik om om om om om om) pt ?_;refine mr<|Ad rz<|rT'<|?_;exact ivx (by decide)
def lF {n:Int}{h:AH}:Ac 296 [iv n] h (iv (wd n)):=by
 have hb1 : -6<=n.tmod 7/\n.tmod 7<=6:=by rw[Zp];split <;> omega
 refine tI' k296 λN hn _ _ hbd=>?_;simp only[tb'] at hbd ⊢;refine wk'<|wm<|?_;refine V' (bU lk lki om) pt ?_;refine ms<|Ab<|wm<|Vw (Bm lk lki)<|sn'<|?_;refine cd' lk (λhc1=>?_) (λhc1=>?_)
 .refine Aq<|mw<|?_;refine ad<|ms<|wm<|?_;refine ad<|V' (Lm lk lki om om) pt ?_;refine mr<|Ad rz<|rT'<|?_;refine ivx ?_;unfold wd;rw[Zp] at *;split at * <;> omega
 refine za<|wm<|?_;refine ad<|V' (Lm lk lki om om) pt ?_;refine mr<|Ad rz<|rT'<|?_;refine ivx ?_;unfold wd;rw[Zp] at *;split at * <;> omega
def sG {n:Int}{h:AH}(h0 : -719162<=n) (h1:n<=2932896):Ac 297 [iv n] h (dateA (De n)):=by
 refine tI' k297 λN hn _ _ hbd=>?_;simp only[tb'] at hbd ⊢;refine wr'<|E' (Bz hl0 ha0) pt<|sn'<|wm<|ms<|Ab<|Ah<|?_;refine w_lp (ι:=Int×Int) (λ⟨y,z⟩=>[(3,iv y),(4,iv z),(5,.any)]++rn' 7 15) (λ⟨y,z⟩=>[]) (λ⟨y,z⟩=>1<=y/\y<z/\z<=10000/\num y 1 1<=n/\n<num z 1 1) (λ⟨y,z⟩=>(z-y).toNat) (⟨1,10000⟩) (by exact⟨by omega,by omega,by omega,by rw[lX,bef_1];omega,by rw[lX,Iq];omega⟩) ?_;rintro⟨y,z⟩ hi1;try simp only[sm',Nat.reduceAdd]
 obtain⟨hy,hyz,hz,hn1,hn2⟩:=hi1;refine Ab<|wm<|mw<|?_;refine V' (Ch lk lk om om) pt ?_;refine Vw (C7 lk lki)<|sn'<|?_;refine cd' lk (λhc1=>?_) (λhc1=>?_)
 .refine za<|Ah<|wm<|mw<|?_;refine V' (Du lk lk om om) pt ?_;refine V' (Mj lk lki om om om) pt ?_;refine ms<|wm<|Vw (Bb (Fu cw cw cw))<|?_;refine Af mp (Ik om om om om om om) pt ?_;refine mw<|Vw (Gy lk lk)<|sn'<|?_;refine cd' lk (λhc2=>?_) (λhc2=>?_)
  .refine Aq<|mw<|mw<|Am<|Aw<|Az<|?_;refine lU' (⟨(y+z)/2,z⟩) (by (try dsimp only);exact⟨by omega,by omega,by omega,by omega,by omega⟩) (by refine zz ?_;exact ALe.same (by repeat (first | exact wk0 | refine wka ?_ | refine wk1 rfl ?_ | refine wk1 (by first | rfl | exact ivx om | (simp;done)) ?_)) rfl)
  refine Aq<|mw<|mw<|Am<|Aw<|Az<|?_;refine lU' (⟨y,(y+z)/2⟩) (by (try dsimp only);exact⟨by omega,by omega,by omega,by omega,by omega⟩) (by refine zz ?_;exact ALe.same (by repeat (first | exact wk0 | refine wka ?_ | refine wk1 rfl ?_ | refine wk1 (by first | rfl | exact ivx om | (simp;done)) ?_)) rfl)
 obtain rfl:z=y+1:=by omega
 have hup:num y 12 1+mlen y 12=num (y+1) 1 1:=by rw[lX,M9];unfold num cum mlen;simp;omega
 refine Bd<|As<|As<|Bp<|An<|wm<|Vw (Bb (Fu cw cw cw))<|E' (Bz hl1 ha1) pt<|E' (Ai lk cv gx rfl nb rfl Bo hs1) ptn<|sn'<|Ab<|?_;refine Ah ?_;refine w_lp (ι:=Int) (λ(m:Int)=>[]++rn' 24 8) (λ(m:Int)=>[(1,.mk 0 60 3 [iv y,iv m,iv 1])]) (λ(m:Int)=>1<=m/\m<=12/\n<num y m 1+mlen y m) (λ(m:Int)=>m.toNat) (12) (by exact⟨by omega,by omega,by rw[hup];exact hn2⟩) ?_;rintro m hi2;try simp only[sm',Nat.reduceAdd]
 obtain⟨hm0,hm1,hn3⟩:=hi2;refine Ab<|wr'<|Vw (Ak lk gx Ap rfl)<|?_;refine Af mp (Ik om om om om om om) pt ?_;refine mw<|Vw (C7 lk lk)<|sn'<|?_;refine cd' lk (λhc3=>?_) (λhc3=>?_)
 .have hm2:2<=m:=by
   rcases Int.lt_or_le m 2 with c | c
   .obtain rfl:m=1:=by omega
    omega
   exact c
  have hst:num y (m-1) 1+mlen y (m-1)=num y m 1:=by have:=O3 (y:=y) (m:=m-1) om om;rw[show m-1+1=m by omega] at this;unfold num;omega
  refine za<|Ah<|Aq<|fq<|Vw (Aa lk gx gt1)<|?_;refine V' (Ch lk lki om om) pt ?_;refine fq<|E' (Ai lk cv gx rfl nb rfl Gi hs1) ptn<|Am<|Aw<|Az<|?_;refine lT' (m-1) (by (try dsimp only);exact⟨by omega,by omega,by rw[hst];exact hc3⟩)
 have hd:Db y m (n-num y m 1+1)=true:=by
  have h1:=Tp (E8.2 ⟨hy,by omega,hm0,hm1,by omega,by have:=H5 y m;omega⟩:Db y m 1=true);rw[E8];omega
 have hdn:num y m (n-num y m 1+1)=n:=by unfold num;omega
 have hde:=uD hd hdn;have hnb:=V5 (y:=y) (m:=m) ⟨hy,by omega⟩ ⟨hm0,hm1⟩;refine Bd<|As<|As<|Bp<|An<|wm<|Vw (Ak lk gx Ap rfl)<|?_;refine Af mp (Ik om om om om om om) pt ?_;refine V' (Ch lk lk om om) pt ?_;refine ad<|fq<|E' (Ai lk cv gx rfl nb rfl Lj hs1) ptn<|sn'<|wr'<|Vw (Ak lk gx Ap rfl)<|E' (Ai lk cv gx rfl nb rfl Bo hs0) ptn<|sr<|Ad (rs1 (rr_c gt gx (ld1 Ap rfl)))<|rT'<|?_;rw[hde]
def onSt (y m k n:Int):Int:=num y m 1-1+if k=2 then mlen y m else n
def onGo (k wk s:Int) (j:Nat):Int:=if k=3 then s+j else s-j
def Mm (k wk s:Int):Int:=if k<=1 then 0 else if k=3 then (wk-wd s)%7 else (wd s-wk)%7
def Sa (k wk s:Int):0<=Mm k wk s/\Mm k wk s<=6:=by
 unfold Mm;repeat' split
 all_goals omega
def onGo_go {k wk s:Int}{j:Nat}(hw:0<=wk/\wk<=6) (hj:(j:Int)<=Mm k wk s) (h:j<7/\1<k/\wd (onGo k wk s j)≠wk):(j:Int)+1<=Mm k wk s:=by
 have h1:=kR (n:=s) (k:=wk) (j:=j) om;have h2:=kS (n:=s) (k:=wk) (j:=j) om;unfold Mm onGo at *;rw[if_neg om] at hj ⊢;split at hj <;> rename_i h3
 .simp only[h3,if_true] at h ⊢;have:=h1 hj hw;omega
 simp only[h3,if_false] at h ⊢;have:=h2 hj hw;omega
def onGo_end {y m k wk n:Int}{j:Nat}(hk:1<=k/\k<=4) (hw:0<=wk/\wk<=6) (hj:(j:Int)<=Mm k wk (onSt y m k n)) (h:¬(j<7/\1<k/\wd (onGo k wk (onSt y m k n) j)≠wk)):Gl y m k wk n=onGo k wk (onSt y m k n) j:=by
 have hb:=Sa k wk (onSt y m k n);have h1:=kR (n:=onSt y m k n) (k:=wk) (j:=j) om;have h2:=kS (n:=onSt y m k n) (k:=wk) (j:=j) om;have e1:=aF y m n;have e2:=aF y m (mlen y m);have h5:k=1\/k=2\/k=3\/k=4:=by omega
 rcases h5 with rfl | rfl | rfl | rfl
 .simp only[Mm,onGo,onSt,Gl,fwd,bwd] at *;simp at hj ⊢;omega
 .simp only[Mm,onGo,onSt,Gl,fwd,bwd] at *;simp at hj h h1 h2 ⊢;rw[show num y m (mlen y m)=num y m 1-1+mlen y m by omega];omega
 .simp only[Mm,onGo,onSt,Gl,fwd,bwd] at *;simp at hj h h1 h2 ⊢;rw[show num y m n=num y m 1-1+n by omega];omega
 simp only[Mm,onGo,onSt,Gl,fwd,bwd] at *;simp at hj h h1 h2 ⊢;rw[show num y m n=num y m 1-1+n by omega];omega
def onSt_bd {y m k n:Int}(hy:1<=y/\y<=20000) (hm:1<=m/\m<=12) (hn:k≠2->1<=n/\n<=mlen y m) : -8000010<=onSt y m k n/\onSt y m k n<=8000040:=by
 have h1:=V5 hy hm;have h2:=H5 y m;unfold onSt;split
 .omega
 have:=hn (by assumption);omega
def onGo_bd {k wk s:Int}{j:Nat}(h:(j:Int)<=Mm k wk s):s-6<=onGo k wk s j/\onGo k wk s j<=s+6:=by
 have:=Sa k wk s;unfold onGo;split <;> omega
def wiB {n a b:Int}:wi n a b=decide (a<=n/\n<=b):=by unfold wi;rw[Bool.decide_and]
def ron_a {y m k wk n:Int}{h:AH}:Ac 261 [iv y,iv m,.agg [iv k,iv wk,iv n]] h (.tup [.agg [iv (onV y m k wk n).1.1,iv (onV y m k wk n).1.2.1,iv (onV y m k wk n).1.2.2],iv (onV y m k wk n).2]):=by
 refine tI' k261 λN hn _ _ hbd=>?_;simp only[tb'] at hbd ⊢;refine wr'<|E' (Bq cv rfl hl0 ha0) pt<|E' (Bz hl1 ha1) pt<|ms<|Ab<|?_;refine L9 (ι:=Unit) (λ(u_:Unit)=>[(18,bv (decide (¬(1<=y/\y<=9999)\/¬(1<=m/\m<=12))))]++rn' 11 7) (λ(u_:Unit)=>[]) (λ(u_:Unit)=>True) ?_ ?_
 .try simp only[sm',Nat.reduceAdd]
  refine Aq<|mw<|Af mp (Er) pt<|Vw (Bj lk)<|mw<|?_;refine Cz (t:=14) gt pt pt (λhg14=>?_) (λhg14=>?_)
  .refine so<|so<|so<|Vw (Ar lk lkb)<|Am<|Az<|?_;exact cT' (()) (by trivial) (by refine zz ?_;exact ALe.same (by repeat (first | exact wk0 | refine wka ?_ | refine wk1 rfl ?_ | refine wk1 (by first | rfl | exact bvx (by first | (simp_all [wiB];done) | (rw[Bool.eq_iff_iff];simp_all [wiB];omega) | (rw[Bool.eq_iff_iff];simp_all [wiB];done))) ?_)) rfl)
  refine sd<|mw<|sd<|Af mp (Er) pt<|sd<|Vw (Bj lk)<|Vw (Ao lk lk)<|Am<|Az<|?_;exact cT' (()) (by trivial) (by refine zz ?_;exact ALe.same (by repeat (first | exact wk0 | refine wka ?_ | refine wk1 rfl ?_ | refine wk1 (by first | rfl | exact bvx (by first | (simp_all [wiB];done) | (rw[Bool.eq_iff_iff];simp_all [wiB];omega) | (rw[Bool.eq_iff_iff];simp_all [wiB];done))) ?_)) rfl)
 rintro u_ hq2;try simp only[sm',Nat.reduceAdd]
 refine cd' lk (λhc1=>?_) (λhc1=>?_)
 .have hv:=To (y:=y) (m:=m) (kind:=k) (wk:=wk) (n:=n) (k:=3) (by unfold Dt;rw[if_pos hc1]) om;refine wr'<|Vw (Bb Jl)<|E' (Ai lk cv gx rfl nb rfl Bo hs1) ptn<|mr<|Ag<|Ad (rsn (rm1 (rr_c gt gx (ld1 Ap rfl)) (rm1 (rr_t gt) rm0)))<|rT'<|?_;rw[hv]
 have hym:(1<=y/\y<=9999)/\(1<=m/\m<=12):=by omega
 refine za<|Ab<|wr'<|fq<|Vw (Aa lk gx gt0)<|Af mp (Er) pt<|Vw (Bj lk)<|sn'<|?_;refine Bg lk (λhc2=>?_) (λhc2=>?_)
 .have hk:¬(1<=k/\k<=4):=by have h9:=hc2;simp[wiB] at h9;omega
  have hv:=To (y:=y) (m:=m) (kind:=k) (wk:=wk) (n:=n) (k:=7) (by unfold Dt;rw[if_neg hc1,if_pos hk]) om;refine wr'<|Vw (Bb Jl)<|E' (Ai lk cv gx rfl nb rfl Bo hs1) ptn<|mr<|Ag<|Ad (rsn (rm1 (rr_c gt gx (ld1 Ap rfl)) (rm1 (rr_t gt) rm0)))<|rT'<|?_;rw[hv]
 have hk:1<=k/\k<=4:=by have h9:=hc2;simp[wiB] at h9;omega
 refine za<|Ab<|?_;refine L9 (ι:=Unit) (λ(u_:Unit)=>[(38,bv (decide (¬(0<=wk/\wk<=6)\/k=1/\wk≠0)))]++rn' 25 13) (λ(u_:Unit)=>[]) (λ(u_:Unit)=>True) ?_ ?_
 .try simp only[sm',Nat.reduceAdd]
  refine Aq<|fq<|Vw (Aa lk gx gt1)<|Af mp (Er) pt<|Vw (Bj lk)<|mw<|?_;refine Cz (t:=29) gt pt pt (λhg29=>?_) (λhg29=>?_)
  .refine so<|so<|so<|so<|s_nu gt pt<|s_nu gt pt<|s_nu gt pt<|so<|Vw (Ar lk lkb)<|Am<|Az<|?_;exact cT' (()) (by trivial) (by refine zz ?_;exact ALe.same (by repeat (first | exact wk0 | refine wka ?_ | refine wk1 rfl ?_ | refine wk1 (by first | rfl | exact bvx (by first | (simp_all [wiB];done) | (rw[Bool.eq_iff_iff];simp_all [wiB];omega) | (rw[Bool.eq_iff_iff];simp_all [wiB];done))) ?_)) rfl)
  refine sd<|fq<|sd<|Vw (Aa lk gx gt0)<|sd<|Vw (Cy lk lki)<|sd<|mw<|?_;refine sp' (t:=33) gt pt pt (λhg33=>?_) (λhg33=>?_)
  .refine sd<|fq<|sd<|Vw (Aa lk gx gt1)<|sd<|Vw (Ca lk lki)<|sd<|Vw (Ar lk lk)<|Vw (Ao lk lk)<|Am<|Az<|?_;exact cT' (()) (by trivial) (by refine zz ?_;exact ALe.same (by repeat (first | exact wk0 | refine wka ?_ | refine wk1 rfl ?_ | refine wk1 (by first | rfl | exact bvx (by first | (simp_all [wiB];done) | (rw[Bool.eq_iff_iff];simp_all [wiB];omega) | (rw[Bool.eq_iff_iff];simp_all [wiB];done))) ?_)) rfl)
  refine so<|so<|so<|sd<|Vw (Ao lk lkb)<|Vw (Ao lk lk)<|Am<|Az<|?_;exact cT' (()) (by trivial) (by refine zz ?_;exact ALe.same (by repeat (first | exact wk0 | refine wka ?_ | refine wk1 rfl ?_ | refine wk1 (by first | rfl | exact bvx (by first | (simp_all [wiB];done) | (rw[Bool.eq_iff_iff];simp_all [wiB];omega) | (rw[Bool.eq_iff_iff];simp_all [wiB];done))) ?_)) rfl)
 rintro u_ hq8;try simp only[sm',Nat.reduceAdd]
 refine cd' lk (λhc3=>?_) (λhc3=>?_)
 .have hv:=To (y:=y) (m:=m) (kind:=k) (wk:=wk) (n:=n) (k:=3) (by unfold Dt;rw[if_neg hc1,if_neg om,if_pos hc3]) om;refine wr'<|Vw (Bb Jl)<|E' (Ai lk cv gx rfl nb rfl Bo hs1) ptn<|mr<|Ag<|Ad (rsn (rm1 (rr_c gt gx (ld1 Ap rfl)) (rm1 (rr_t gt) rm0)))<|rT'<|?_;rw[hv]
 refine za<|wm<|mw<|?_;refine Af mp (fO om) pt ?_;refine ms<|Ab<|?_;refine L9 (ι:=Unit) (λ(u_:Unit)=>[(62,bv (decide (k=2/\n≠0\/k≠2/\¬(1<=n/\n<=mlen y m))))]++rn' 43 19) (λ(u_:Unit)=>[]) (λ(u_:Unit)=>True) ?_ ?_
 .try simp only[sm',Nat.reduceAdd]
  refine Aq<|fq<|Vw (Aa lk gx gt0)<|Vw (Cy lk lki)<|mw<|?_;refine sp' (t:=46) gt pt pt (λhg46=>?_) (λhg46=>?_)
  .refine sd<|fq<|sd<|Vw (Aa lk gx gt2)<|sd<|Vw (Ca lk lki)<|Vw (Ar lk lk)<|mw<|?_;refine sp' (t:=51) gt pt pt (λhg51=>?_) (λhg51=>?_)
   .refine so<|so<|so<|so<|s_nu gt pt<|s_nu gt pt<|s_nu gt pt<|s_nu gt pt<|s_nu gt pt<|so<|Vw (Ar lk lkb)<|Am<|Az<|?_;exact cT' (()) (by trivial) (by refine zz ?_;exact ALe.same (by repeat (first | exact wk0 | refine wka ?_ | refine wk1 rfl ?_ | refine wk1 (by first | rfl | exact bvx (by first | (simp_all [wiB];done) | (rw[Bool.eq_iff_iff];simp_all [wiB];omega) | (rw[Bool.eq_iff_iff];simp_all [wiB];done))) ?_)) rfl)
   refine sd<|fq<|sd<|Vw (Aa lk gx gt0)<|sd<|Vw (Ca lk lki)<|sd<|mw<|?_;refine sp' (t:=55) gt pt pt (λhg55=>?_) (λhg55=>?_)
   .refine sd<|fq<|sd<|Vw (Aa lk gx gt2)<|sd<|mw<|sd<|Af mp (Er) pt<|sd<|Vw (Bj lk)<|sd<|Vw (Ar lk lk)<|Vw (Ao lk lk)<|Am<|?_;refine Az ?_;exact cT' (()) (by trivial) (by refine zz ?_;exact ALe.same (by repeat (first | exact wk0 | refine wka ?_ | refine wk1 rfl ?_ | refine wk1 (by first | rfl | exact bvx (by first | (simp_all [wiB];done) | (rw[Bool.eq_iff_iff];simp_all [wiB];omega) | (rw[Bool.eq_iff_iff];simp_all [wiB];done))) ?_)) rfl)
   refine so<|so<|so<|so<|so<|sd<|Vw (Ao lk lkb)<|Vw (Ao lk lk)<|Am<|Az<|?_;exact cT' (()) (by trivial) (by refine zz ?_;exact ALe.same (by repeat (first | exact wk0 | refine wka ?_ | refine wk1 rfl ?_ | refine wk1 (by first | rfl | exact bvx (by first | (simp_all [wiB];done) | (rw[Bool.eq_iff_iff];simp_all [wiB];omega) | (rw[Bool.eq_iff_iff];simp_all [wiB];done))) ?_)) rfl)
  refine so<|so<|so<|Vw (Ao lk lkb)<|mw<|sd<|fq<|sd<|Vw (Aa lk gx gt0)<|sd<|Vw (Ca lk lki)<|sd<|mw<|?_;refine sp' (t:=55) gt pt pt (λhg55=>?_) (λhg55=>?_)
  .refine sd<|fq<|sd<|Vw (Aa lk gx gt2)<|sd<|mw<|sd<|Af mp (Er) pt<|sd<|Vw (Bj lk)<|sd<|Vw (Ar lk lk)<|Vw (Ao lk lk)<|Am<|?_;refine Az ?_;exact cT' (()) (by trivial) (by refine zz ?_;exact ALe.same (by repeat (first | exact wk0 | refine wka ?_ | refine wk1 rfl ?_ | refine wk1 (by first | rfl | exact bvx (by first | (simp_all [wiB];done) | (rw[Bool.eq_iff_iff];simp_all [wiB];omega) | (rw[Bool.eq_iff_iff];simp_all [wiB];done))) ?_)) rfl)
  refine so<|so<|so<|so<|so<|sd<|Vw (Ao lk lkb)<|Vw (Ao lk lk)<|Am<|Az<|?_;exact cT' (()) (by trivial) (by refine zz ?_;exact ALe.same (by repeat (first | exact wk0 | refine wka ?_ | refine wk1 rfl ?_ | refine wk1 (by first | rfl | exact bvx (by first | (simp_all [wiB];done) | (rw[Bool.eq_iff_iff];simp_all [wiB];omega) | (rw[Bool.eq_iff_iff];simp_all [wiB];done))) ?_)) rfl)
 rintro u_ hq12;try simp only[sm',Nat.reduceAdd]
 refine cd' lk (λhc4=>?_) (λhc4=>?_)
 .have hv:=To (y:=y) (m:=m) (kind:=k) (wk:=wk) (n:=n) (k:=3) (by unfold Dt;rw[if_neg hc1,if_neg om,if_neg hc3,if_pos hc4]) om;refine wr'<|Vw (Bb Jl)<|E' (Ai lk cv gx rfl nb rfl Bo hs1) ptn<|mr<|Ag<|Ad (rsn (rm1 (rr_c gt gx (ld1 Ap rfl)) (rm1 (rr_t gt) rm0)))<|rT'<|?_;rw[hv]
 have he:Dt y m k wk n=0:=by unfold Dt;rw[if_neg hc1,if_neg om,if_neg hc3,if_neg hc4]
 have hw:0<=wk/\wk<=6:=by omega
 have hsb:=onSt_bd (y:=y) (m:=m) (k:=k) (n:=n) ⟨hym.1.1,by omega⟩ hym.2 om;have hnb:=V5 (y:=y) (m:=m) ⟨hym.1.1,by omega⟩ hym.2;have hml:=H5 y m;have hn':0<=n/\n<=31:=by omega
 refine za<|wm<|mw<|Vw (Bb (Fu cw cw cw))<|?_;refine Af mp (Ik om om om om om om) pt ?_;refine V' (Ch lk lki om om) pt ?_;refine ms<|?_;refine L9 (ι:=Unit) (λ(u_:Unit)=>[(9,iv (onSt y m k n))]++rn' 69 17) (λ(u_:Unit)=>[]) (λ(u_:Unit)=>True) ?_ ?_
 .try simp only[sm',Nat.reduceAdd]
  refine wr'<|fq<|Vw (Aa lk gx gt0)<|sn'<|Ah<|wr'<|Vw (Cy lk lki)<|ms<|?_;refine cd' lk (λhc5=>?_) (λhc5=>?_)
  .refine Aq<|mw<|fq<|Vw (Aa lk gx gt2)<|?_;refine V' (Du lk lk om om) pt ?_;refine mw<|Am<|Aw<|Az<|?_;exact cT' (()) (by trivial) (by refine zz ?_;exact ALe.same (by repeat (first | exact wk0 | refine wka ?_ | refine wk1 rfl ?_ | refine wk1 (by first | rfl | exact ivx (by unfold onSt;simp_all) | exact ivx (by unfold onSt;rw[if_neg om])) ?_)) rfl)
  refine wr'<|Vw (Cy lk lki)<|ms<|?_;refine cd' lk (λhc6=>?_) (λhc6=>?_)
  .refine Aq<|mw<|mw<|?_;refine V' (Du lk lk om om) pt ?_;refine mw<|Am<|Aw<|Az<|?_;exact cT' (()) (by trivial) (by refine zz ?_;exact ALe.same (by repeat (first | exact wk0 | refine wka ?_ | refine wk1 rfl ?_ | refine wk1 (by first | rfl | exact ivx (by unfold onSt;simp_all) | exact ivx (by unfold onSt;rw[if_neg om])) ?_)) rfl)
  refine Aq<|mw<|fq<|Vw (Aa lk gx gt2)<|?_;refine V' (Du lk lk om om) pt ?_;refine mw<|Am<|Aw<|Az<|?_;exact cT' (()) (by trivial) (by refine zz ?_;exact ALe.same (by repeat (first | exact wk0 | refine wka ?_ | refine wk1 rfl ?_ | refine wk1 (by first | rfl | exact ivx (by unfold onSt;simp_all) | exact ivx (by unfold onSt;rw[if_neg om])) ?_)) rfl)
 rintro u_ hq19;try simp only[sm',Nat.reduceAdd]
 refine Ab<|wk'<|Ah<|?_;refine It (ι:=Nat) (λ(j:Nat)=>[(9,iv (onGo k wk (onSt y m k n) j)),(10,iv (j:Int))]++rn' 86 23) (λ(j:Nat)=>[]) (λ(j:Nat)=>(j:Int)<=Mm k wk (onSt y m k n)) (λ(j:Nat)=>7-j) (0) (by exact (Sa _ _ _).1) (by try simp only[sm',Nat.reduceAdd];exact ALe.same (by repeat (first | exact wk0 | refine wka ?_ | refine wk1 rfl ?_ | refine wk1 (by first | rfl | exact ivx (by unfold onGo;simp)) ?_)) rfl) ?_;rintro j hi1;try simp only[sm',Nat.reduceAdd]
 have hgb:=onGo_bd hi1;have hfb:=Sa k wk (onSt y m k n);refine Ab ?_;refine L9 (ι:=Unit) (λ(u_:Unit)=>[(99,bv (decide (j<7/\1<k/\wd (onGo k wk (onSt y m k n) j)≠wk)))]++rn' 86 13) (λ(u_:Unit)=>[]) (λ(u_:Unit)=>True) ?_ ?_
 .try simp only[sm',Nat.reduceAdd]
  refine Bl<|Dw vm<|Dw (Bm lk lki)<|Dw vm<|?_;refine dq' (t:=88) gt pt pt (λhg88=>?_) (λhg88=>?_)
  .refine dO<|dg<|dO<|Dw (Aa lk gx gt0)<|dO<|Dw (C7 lk lki)<|Dw (Ar lk lk)<|Dw vm<|?_;refine dq' (t:=93) gt pt pt (λhg93=>?_) (λhg93=>?_)
   .refine dO<|Dw vm<|dO<|?_;refine Br mp (λhE hX=>lF) pt ?_;refine dO<|dg<|dO<|Dw (Aa lk gx gt1)<|dO<|Dw (Ca lk lk)<|Dw (Ar lk lk)<|Bi<|?_;refine B9 ?_;refine Am<|Az<|?_;exact cT' (()) (by trivial) (by refine zz ?_;exact ALe.same (by repeat (first | exact wk0 | refine wka ?_ | refine wk1 rfl ?_ | refine wk1 (by first | rfl | exact bvx (by first | (simp_all [wiB];done) | (rw[Bool.eq_iff_iff];simp_all [wiB];omega) | (rw[Bool.eq_iff_iff];simp_all [wiB];done))) ?_)) rfl)
   refine dn<|dn<|dn<|dn<|dn<|Dw (Ao lk lkb)<|Bi<|?_;refine B9 ?_;refine Am<|Az<|?_;exact cT' (()) (by trivial) (by refine zz ?_;exact ALe.same (by repeat (first | exact wk0 | refine wka ?_ | refine wk1 rfl ?_ | refine wk1 (by first | rfl | exact bvx (by first | (simp_all [wiB];done) | (rw[Bool.eq_iff_iff];simp_all [wiB];omega) | (rw[Bool.eq_iff_iff];simp_all [wiB];done))) ?_)) rfl)
  refine dn<|dn<|dn<|Dw (Ao lk lkb)<|Dw vm<|dn<|dn<|dn<|dn<|dn<|Dw (Ao lk lkb)<|Bi<|?_;refine B9 ?_;refine Am<|Az<|?_;exact cT' (()) (by trivial) (by refine zz ?_;exact ALe.same (by repeat (first | exact wk0 | refine wka ?_ | refine wk1 rfl ?_ | refine wk1 (by first | rfl | exact bvx (by first | (simp_all [wiB];done) | (rw[Bool.eq_iff_iff];simp_all [wiB];omega) | (rw[Bool.eq_iff_iff];simp_all [wiB];done))) ?_)) rfl)
 rintro u_ hq21;try simp only[sm',Nat.reduceAdd]
 refine cd' lk (λhc7=>?_) (λhc7=>?_)
 .have hgo:=onGo_go hw hi1 hc7;refine za<|Ab<|Ah<|wr'<|fq<|Vw (Aa lk gx gt0)<|Vw (Cy lk lki)<|sn'<|?_;refine cd' lk (λhc8=>?_) (λhc8=>?_)
  .refine Aq<|mw<|?_;refine ad<|mw<|Am<|Aw<|An<|Aq<|mw<|?_;refine ad<|mw<|Am<|Az<|?_;refine lU' (j+1) (by (try dsimp only);omega) (by refine zz ?_;exact ALe.same (by repeat (first | exact wk0 | refine wka ?_ | refine wk1 rfl ?_ | refine wk1 (by first | rfl | exact ivx (by unfold onGo;simp_all;omega) | exact ivx om) ?_)) rfl)
  refine Aq<|mw<|?_;refine V' (Ch lk lki om om) pt ?_;refine mw<|Am<|Aw<|An<|Aq<|mw<|?_;refine ad<|mw<|Am<|Az<|?_;refine lU' (j+1) (by (try dsimp only);omega) (by refine zz ?_;exact ALe.same (by repeat (first | exact wk0 | refine wka ?_ | refine wk1 rfl ?_ | refine wk1 (by first | rfl | exact ivx (by unfold onGo;simp_all;omega) | exact ivx om) ?_)) rfl)
 have hd:=onGo_end hk hw hi1 hc7;rw[<-hd];refine Bd<|As<|As<|Bp<|An<|Ab<|wm<|Af mp0 (fR) pt<|Af mp0 (oO) pt<|Af mp (Er) pt<|Vw (Bj lk)<|Am<|?_;refine An ?_;refine Bg lk (λhc9=>?_) (λhc9=>?_)
 .have hr:¬(-719162<=Gl y m k wk n/\Gl y m k wk n<=2932896):=by have h9:=hc9;simp[wiB] at h9;omega
  refine wr'<|Vw (Bb Jl)<|E' (Ai lk cv gx rfl nb rfl Bo hs1) ptn<|mr<|Ag<|Ad (rsn (rm1 (rr_c gt gx (ld1 Ap rfl)) (rm1 (rr_t gt) rm0)))<|rT'<|?_;rw[Qw he rfl,if_neg hr]
 have hr : -719162<=Gl y m k wk n/\Gl y m k wk n<=2932896:=by have h9:=hc9;simp[wiB] at h9;omega
 refine za<|wm<|Af mp (sG hr.1 hr.2) pt<|E' (Ai lk cv gx rfl nb rfl Bo hs1) ptn<|mr<|Ad (rsn (rm1 (rr_c gt gx (ld1 Ap rfl)) (rm1 (rr_t gt) rm0)))<|rT'<|?_;rw[Qw he rfl,if_pos hr]
end Go.Proofs.YtfcecekilahfiaaGreatDoor
end
namespace Go.Proofs.YtfcecekilahfiaaGreatDoor
open Go.Ab
variable {h:AH}{a0 a1 a10 a2 a3 a4 a5 a6 a7 a8 a9 c0 c1 c2 c3 c4:AV}{f1 f2:Bool}{s:ByteArray}{d0 e0 e1:Ent}{f:FuncId}{n:Int}{caps l:List AV}{k:List Lnk}{i:Nat}
section
open Go.Ab Go.RowKit
def k235:=Kx 235 []
def k237:=Kx 237 []
def k126:=Kx 126 []
def k68:=Kx 68 []
def k234:=Kx 234 []
def k274:=Kx 274 []
def Fj {a b:Int}:Ac 235 [iv n,iv a,iv b] h (bv (wi n a b)):=by
 refine tI' k235 λN hn _ _ hbd=>?_;simp only[tb'] at hbd ⊢;refine wk'<|wm<|mw<|Vw (Gz lk lk)<|mw<|?_;refine sp' (t:=10) gt pt pt (λhg10=>?_) (λhg10=>?_)
 .refine sd<|mw<|sd<|mw<|sd<|Vw (Gy lk lk)<|Vw (Ar lk lk)<|mr<|Ad rz<|rT'<|?_;refine bvx ?_;unfold wi;rw[Bool.eq_iff_iff];simp;omega
 refine so<|so<|so<|Vw (Ao lk lkb)<|mr<|Ad rz<|rT'<|?_;refine bvx ?_;unfold wi;rw[Bool.eq_iff_iff];simp;omega
def clkB (n:Int) (wall:Bool):Bool:=wi n 1 3&&(wall||decide (n≠1))
def Sy {b:Bool}:Ac 237 [iv n,bv b] h (bv (clkB n b)):=by
 refine tI' k237 λN hn _ _ hbd=>?_;simp only[tb'] at hbd ⊢;refine wk'<|wm<|Af mp (Fj) pt<|mw<|?_;refine Cz (t:=7) gt pt pt (λhg7=>?_) (λhg7=>?_)
 .refine sd<|mw<|sd<|mw<|?_;refine Cz (t:=9) gt pt pt (λhg9=>?_) (λhg9=>?_)
  .refine so<|so<|sd<|Vw (Ar lk lkb)<|Vw (Ar lk lk)<|mr<|Ad rz<|rT'<|?_;refine bvx ?_;unfold clkB;simp_all
  refine sd<|mw<|sd<|Vw (Ca lk lki)<|sd<|Vw (Ao lk lk)<|Vw (Ar lk lk)<|mr<|Ad rz<|rT'<|?_;refine bvx ?_;unfold clkB;simp_all
 refine so<|so<|s_nu gt pt<|s_nu gt pt<|so<|Vw (Ao lk lkb)<|mr<|Ad rz<|rT'<|?_;refine bvx ?_;unfold clkB;simp_all
def Uu (n:Int):Bool:=letB n||digB n||decide (0<=Lib.indexByte [95,45,47,43] n.toNat.toUInt8)
def indexN_a :Ac 128 [sv (bA [95,45,47,43]),uv n] h (iv (Lib.indexByte [95,45,47,43] n.toNat.toUInt8)):=iK
def name1_a :Ac 126 [uv n] h (bv (Uu n)):=by
 refine tI' k126 λN hn _ _ hbd=>?_;simp only[tb'] at hbd ⊢;refine wk'<|wm<|Af mp (Sm) pt<|mw<|?_;refine Cz (t:=5) gt pt pt (λhg5=>?_) (λhg5=>?_)
 .refine so<|so<|Vw (Ar lk lkb)<|mw<|so<|so<|so<|Vw (Ar lk lkb)<|mr<|Ad rz<|rT'<|?_;refine bvx ?_;unfold Uu;rw[Bool.eq_iff_iff];simp_all
 refine sd<|mw<|sd<|Af mp (pX) pt<|Vw (Ao lk lk)<|mw<|?_;refine Cz (t:=9) gt pt pt (λhg9=>?_) (λhg9=>?_)
 .refine so<|so<|so<|Vw (Ar lk lkb)<|mr<|Ad rz<|rT'<|?_;refine bvx ?_;unfold Uu;rw[Bool.eq_iff_iff];simp_all
 refine sd<|mw<|sd<|Af mp (indexN_a) pt<|sd<|Vw (Gz lk lki)<|Vw (Ao lk lk)<|mr<|Ad rz<|rT'<|?_;refine bvx ?_;unfold Uu;rw[Bool.eq_iff_iff];simp_all
def D3 (s:ByteArray):Bool:=decide (s.size≠0)&&decide (s.size<=24)&&letB (Dy s 0).toNat&&allB Uu s
def Qy (hs:s.size<=maxLen):Ac 68 [sv s] h (bv (D3 s)):=by
 have hm:s.size<=9223372036854775807:=by simpa [maxLen] using hs
 have hem:=Yi (f:=s);refine tI' k68 λN hn _ _ hbd=>?_;simp only[tb'] at hbd ⊢;refine wk'<|wm<|Vw (H7 lk lks)<|mw<|?_;refine sp' (t:=5) gt pt pt (λhg5=>?_) (λhg5=>?_)
 .have hne:s.size≠0:=λe=>hg5 (hem.2 e);refine sd<|mw<|sd<|Vw (E6 lk)<|sd<|Vw (Gy lk lki)<|Vw (Ar lk lk)<|mw<|?_;refine sp' (t:=10) gt pt pt (λhg10=>?_) (λhg10=>?_)
  .refine sd<|mw<|sd<|?_;refine V' (v_ix lk lki om om) pt ?_;refine sd<|Af mp (Sm) pt<|Vw (Ar lk lk)<|mw<|?_;refine Cz (t:=15) gt pt pt (λhg15=>?_) (λhg15=>?_)
   .refine sd<|mw<|sd<|?_;refine Af mp (all_a (λ_ _=>name1_a) hs) pt ?_;refine Vw (Ar lk lk)<|mr<|Ad rz<|rT'<|?_;refine bvx ?_;unfold D3;simp_all <;> (try intros) <;> omega
   refine so<|so<|Vw (Ao lk lkb)<|mr<|Ad rz<|rT'<|?_;refine bvx ?_;unfold D3;simp_all <;> (try intros) <;> omega
  refine so<|so<|so<|Vw (Ao lk lkb)<|mw<|so<|so<|Vw (Ao lk lkb)<|mr<|Ad rz<|rT'<|?_;refine bvx ?_;unfold D3;simp_all <;> (try intros) <;> omega
 refine so<|so<|so<|Vw (Ao lk lkb)<|mw<|so<|so<|so<|Vw (Ao lk lkb)<|mw<|so<|so<|Vw (Ao lk lkb)<|mw<|?_;refine sr<|Ad rz<|rT'<|?_;refine bvx ?_;unfold D3;simp_all <;> (try intros) <;> omega
def Mr (s:ByteArray):Bool:=decide (s.size<=24)&&allB letB s
def tO (hs:s.size<=maxLen):Ac 234 [sv s] h (bv (Mr s)):=by
 have hm:s.size<=9223372036854775807:=by simpa [maxLen] using hs
 refine tI' k234 λN hn _ _ hbd=>?_;simp only[tb'] at hbd ⊢;refine wk'<|wm<|Vw (E6 lk)<|Vw (Gy lk lki)<|mw<|?_;refine sp' (t:=6) gt pt pt (λhg6=>?_) (λhg6=>?_)
 .refine sd<|mw<|sd<|?_;refine Af mp (all_a (λ_ _=>Sm) hs) pt ?_;refine Vw (Ar lk lk)<|mr<|Ad rz<|rT'<|?_;refine bvx ?_;unfold Mr;simp_all <;> (try intros) <;> omega
 refine so<|so<|Vw (Ao lk lkb)<|mr<|Ad rz<|rT'<|?_;refine bvx ?_;unfold Mr;simp_all <;> (try intros) <;> omega
abbrev cutL (s:ByteArray) (p:Bs):Bs×Bs×Bool:=Lib.cut (aB s) p
def E0 (s:ByteArray):Bool:=if s.size=0\/24<s.size then false else
 if (cutL s [47]).2.2=true then decide (bA (cutL s [47]).1≠⟨#[]⟩)&&decide (bA (cutL s [47]).2.1≠⟨#[]⟩)&&allB Ec (bA (cutL s [47]).1)&&allB Ec (bA (cutL s [47]).2.1)
 else allB Ec (bA (cutL s [37,115]).1)&&allB Ec (bA (cutL s [37,115]).2.1)
def Sx {p:Bs}:(cutL s p).1.length<=s.size/\(cutL s p).2.1.length<=s.size:=by
 unfold cutL Lib.cut;split
 .simp only[List.length_take,List.length_drop,aB_len];omega
 simp[aB_len]
def cut1_a (hz:s.size<=24):Ac 301 [sv s,sv (bA [47])] h (.tup [sv (bA (cutL s [47]).1),sv (bA (cutL s [47]).2.1),bv (cutL s [47]).2.2]):=cut_a om
def cut2_a (hz:s.size<=24):Ac 301 [sv s,sv (bA [37,115])] h (.tup [sv (bA (cutL s [37,115]).1),sv (bA (cutL s [37,115]).2.1),bv (cutL s [37,115]).2.2]):=cut_a om
def iU (hs:s.size<=maxLen):Ac 274 [sv s] h (bv (E0 s)):=by
 have hm:s.size<=9223372036854775807:=by simpa [maxLen] using hs
 have hem:=Yi (f:=s);have k1:=Sx (s:=s) (p:=[47]);have k2:=Sx (s:=s) (p:=[37,115]);refine tI' k274 λN hn _ _ hbd=>?_;simp only[tb'] at hbd ⊢;refine wk'<|Ab<|wm<|Vw (J6 lk lks)<|mw<|?_;refine sp' (t:=8) gt pt pt (λhg8=>?_) (λhg8=>?_)
 .have hB:E0 s=false:=if_pos (.inl (hem.1 hg8));refine so<|so<|so<|Vw (Ar lk lkb)<|sn'<|Cx lk<|wo<|Ag<|?_;refine Ad rz<|rT'<|?_;rw[hB]
 refine sd<|mw<|sd<|Vw (E6 lk)<|sd<|Vw (C7 lk lki)<|Vw (Ao lk lk)<|sn'<|?_;refine cd' lk (λhc1=>?_) (λhc1=>?_)
 .have hB:E0 s=false:=if_pos (.inr om);refine wo<|Ag<|Ad rz<|rT'<|?_;rw[hB]
 have hB:E0 s=if (cutL s [47]).2.2=true then decide (bA (cutL s [47]).1≠⟨#[]⟩)&&decide (bA (cutL s [47]).2.1≠⟨#[]⟩)&&allB Ec (bA (cutL s [47]).1)&&allB Ec (bA (cutL s [47]).2.1) else allB Ec (bA (cutL s [37,115]).1)&&allB Ec (bA (cutL s [37,115]).2.1):=if_neg (by have:s.size≠0:=λe=>hg8 (hem.2 e);omega)
 have hz:s.size<=24:=by omega
 refine za<|wm<|Af mp (cut1_a hz) pt<|mw<|Vw (B7 lk gt)<|Vw (B7 lk gt)<|Vw (B7 lk gt)<|mw<|mw<|mw<|Am<|?_;refine An<|Ab<|wk'<|?_;refine cd' lk (λhc2=>?_) (λhc2=>?_)
 .rw[if_pos hc2] at hB;refine wm<|Vw (H7 lk lks)<|mw<|?_;refine sp' (t:=22) gt pt pt (λhg22=>?_) (λhg22=>?_)
  .refine sd<|mw<|sd<|Vw (H7 lk lks)<|Vw (Ar lk lk)<|mw<|?_;refine sp' (t:=26) gt pt pt (λhg26=>?_) (λhg26=>?_)
   .refine sd<|mw<|sd<|?_;refine Af mp (R6 (by rw[Qb];unfold maxLen;omega)) pt ?_;refine Vw (Ar lk lk)<|mw<|?_;refine Cz (t:=30) gt pt pt (λhg30=>?_) (λhg30=>?_)
    .refine sd<|mw<|sd<|?_;refine Af mp (R6 (by rw[Qb];unfold maxLen;omega)) pt ?_;refine Vw (Ar lk lk)<|mr<|Ag<|Ad rz<|rT'<|?_;rw[hB];refine bvx ?_;simp_all
    refine so<|so<|Vw (Ao lk lkb)<|mr<|Ag<|Ad rz<|rT'<|?_;rw[hB];refine bvx ?_;simp_all
   refine so<|so<|Vw (Ao lk lkb)<|mw<|so<|so<|Vw (Ao lk lkb)<|mr<|Ag<|Ad rz<|rT'<|?_;rw[hB];refine bvx ?_;simp_all
  refine so<|so<|Vw (Ao lk lkb)<|mw<|so<|so<|Vw (Ao lk lkb)<|mw<|so<|so<|Vw (Ao lk lkb)<|ms<|?_;refine C4<|Ag<|Ad rz<|rT'<|?_;rw[hB];refine bvx ?_;simp_all
 rw[if_neg (by rw[hc2];simp)] at hB;refine za<|wm<|Af mp (cut2_a hz) pt<|mw<|Vw (B7 lk gt)<|Vw (B7 lk gt)<|Vw (B7 lk gt)<|mw<|ms<|?_;refine wm<|?_;refine Af mp (R6 (by rw[Qb];unfold maxLen;omega)) pt ?_;refine mv' lk pt ?_;refine Cz (t:=42) gt pt pt (λhg42=>?_) (λhg42=>?_)
 .refine sd<|mw<|sd<|?_;refine Af mp (R6 (by rw[Qb];unfold maxLen;omega)) pt ?_;refine Vw (Ar lk lk)<|mr<|Ad rz<|rT'<|?_;rw[hB];refine bvx ?_;simp_all
 refine so<|so<|Vw (Ao lk lkb)<|mr<|Ad rz<|rT'<|?_;rw[hB];refine bvx ?_;simp_all
end
section
open Go.Ab Civ
abbrev Nam:=ByteArray×Tab
abbrev Rel:=List Nam×List Lnk
abbrev NPt:=ByteArray×Pat
abbrev Upd:=List ByteArray×List Nam×List NPt×List Lnk
def rel0:Rel:=([],[])
def upd0:Upd:=([],[],[],[])
def E3 (p:Option ByteArray) (nm:ByteArray):Bool:=match p with
 | none=>true
 | some q=>ltS q nm
def chkN:Option ByteArray->List Nam->Int
 | _,[]=>0
 | p,n::l=>if D3 n.1=false then 1 else if Bw n.2≠0 then Bw n.2 else if E3 p n.1=false then 4 else chkN (some n.1) l
def chkL (t:List Nam):Option ByteArray->List Lnk->Int
 | _,[]=>0
 | p,l::ls=>if D3 l.2=false then 1 else if E3 p l.2=false then 4 else if hasN t l.2=true then 6 else if hasN t l.1=false then 5 else chkL t (some l.2) ls
def Cb (r:Rel):Int:=if 20<r.1.length\/20<r.2.length then 2 else if chkN none r.1≠0 then chkN none r.1 else chkL r.1 none r.2
def G3 {α:Type}(f:α->ByteArray) (l:List α):Nat->Option ByteArray
 | 0=>none
 | i+1=>(l[i]?).map f
def Jh {α:Type}{f:α->ByteArray}{l:List α}(h:i<l.length):G3 f l (i+1)=some (f l[i]):=by
 show (l[i]?).map f=_;rw[List.getElem?_eq_getElem h];rfl
def qJ {p:Option ByteArray}{l:List Nam}(h:i<l.length):chkN p (l.drop i)=if D3 l[i].1=false then 1 else if Bw l[i].2≠0 then Bw l[i].2 else if E3 p l[i].1=false then 4 else chkN (G3 (·.1) l (i+1)) (l.drop (i+1)):=by
 rw[List.drop_eq_getElem_cons h,Jh h];rfl
def qM {t:List Nam}{p:Option ByteArray}{l:List Lnk}(h:i<l.length):chkL t p (l.drop i)=if D3 l[i].2=false then 1 else if E3 p l[i].2=false then 4 else if hasN t l[i].2=true then 6 else if hasN t l[i].1=false then 5 else chkL t (G3 (·.2) l (i+1)) (l.drop (i+1)):=by
 rw[List.drop_eq_getElem_cons h,Jh h];rfl
def eI : ∀ {l:List Nam}{p:Option ByteArray},chkN p l=0->(∀ n∈l,D3 n.1=true/\Bw n.2=0)/\risN l /\ ∀ n∈l,E3 p n.1=true
 | [],_,_=>⟨λn hn=>(by cases hn),.nil,λn hn=>(by cases hn)⟩
 | m::l,p,h=>by
  rw[chkN] at h;split at h
  .cases h
  rename_i h1;split at h
  .rename_i h2;exact absurd h h2
  rename_i h2;split at h
  .cases h
  rename_i h3;obtain⟨a,b,c⟩:=eI h;have h3':E3 p m.1=true:=by simpa using h3
  refine⟨λn hn=>?_,List.pairwise_cons.2 ⟨c,b⟩,λn hn=>?_⟩
  .rcases List.mem_cons.1 hn with rfl | hn
   .exact⟨by simpa using h1,Decidable.of_not_not h2⟩
   .exact a n hn
  .rcases List.mem_cons.1 hn with rfl | hn
   .exact h3'
   .have:=c n hn;cases p with
    | none=>rfl
    | some q=>exact Qz h3' this
def qI : ∀ {l:List Nam}{p:Option ByteArray},(∀ n∈l,D3 n.1=true/\Bw n.2=0)->risN l->(∀ n∈l,E3 p n.1=true)->chkN p l=0
 | [],_,_,_,_=>rfl
 | m::l,p,h1,h2,h3=>by
  obtain⟨a,b⟩:=h1 m (by simp);rw[chkN,if_neg (by simp[a]),if_neg (by simp[b]),if_neg (by simp[h3 m (by simp)])];exact qI (λn hn=>h1 n (by simp[hn])) (Kj h2) λn hn=>Ij h2 hn
def risL2 (l:List Lnk):Prop:=l.Pairwise λa b=>ltS a.2 b.2=true
def qK {t:List Nam} : ∀ {l:List Lnk}{p:Option ByteArray},chkL t p l=0->(∀ n∈l,D3 n.2=true/\hasN t n.2=false/\hasN t n.1=true)/\risL2 l /\ ∀ n∈l,E3 p n.2=true
 | [],_,_=>⟨λn hn=>(by cases hn),.nil,λn hn=>(by cases hn)⟩
 | m::l,p,h=>by
  rw[chkL] at h;split at h
  .cases h
  rename_i h1;split at h
  .cases h
  rename_i h2;split at h
  .cases h
  rename_i h3;split at h
  .cases h
  rename_i h4;obtain⟨a,b,c⟩:=qK h;have h3':E3 p m.2=true:=by simpa using h2
  refine⟨λn hn=>?_,List.pairwise_cons.2 ⟨c,b⟩,λn hn=>?_⟩
  .rcases List.mem_cons.1 hn with rfl | hn
   .exact⟨by simpa using h1,by simpa using h3,by simpa using h4⟩
   .exact a n hn
  .rcases List.mem_cons.1 hn with rfl | hn
   .exact h3'
   .have:=c n hn;cases p with
    | none=>rfl
    | some q=>exact Qz h3' this
def qL {t:List Nam} : ∀ {l:List Lnk}{p:Option ByteArray},(∀ n∈l,D3 n.2=true/\hasN t n.2=false/\hasN t n.1=true)->risL2 l->(∀ n∈l,E3 p n.2=true)->chkL t p l=0
 | [],_,_,_,_=>rfl
 | m::l,p,h1,h2,h3=>by
  obtain⟨a,b,c⟩:=h1 m (by simp);rw[chkL,if_neg (by simp[a]),if_neg (by simp[h3 m (by simp)]),if_neg (by simp[b]),if_neg (by simp[c])];exact qL (λn hn=>h1 n (by simp[hn])) (List.pairwise_cons.1 h2).2 (List.pairwise_cons.1 h2).1
def uJ {r:Rel}(h:Cb r=0):r.1.length<=20/\r.2.length<=20/\chkN none r.1=0/\chkL r.1 none r.2=0:=by
 unfold Cb at h;split at h
 .cases h
 rename_i h1;split at h
 .rename_i h2;exact absurd h h2
 rename_i h2;exact⟨by omega,by omega,Decidable.of_not_not h2,h⟩
def E9 {r:Rel}(h:Cb r=0):r.1.length<=20/\r.2.length<=20/\(∀ n∈r.1,D3 n.1=true/\Bw n.2=0)/\risN r.1/\(∀ n∈r.2,D3 n.2=true/\hasN r.1 n.2=false/\hasN r.1 n.1=true)/\risL2 r.2:=by
 obtain⟨h1,h2,h3,h4⟩:=uJ h;obtain⟨a,b,_⟩:=eI h3;obtain⟨c,d,_⟩:=qK h4;exact⟨h1,h2,a,b,c,d⟩
def updV (r:Rel) (u:Upd):Rel×Int :=
 if (C1 r.1 u.1).2≠0 then (rel0,(C1 r.1 u.1).2)
 else if (Dg patE patV (C1 r.1 u.1).1 u.2.2.1).2≠0 then (rel0,(Dg patE patV (C1 r.1 u.1).1 u.2.2.1).2)
 else if (Fy (Dg patE patV (C1 r.1 u.1).1 u.2.2.1).1 u.2.1).2≠0 then (rel0,(Fy (Dg patE patV (C1 r.1 u.1).1 u.2.2.1).1 u.2.1).2)
 else if Cb ((Fy (Dg patE patV (C1 r.1 u.1).1 u.2.2.1).1 u.2.1).1,u.2.2.2)≠0 then (rel0,Cb ((Fy (Dg patE patV (C1 r.1 u.1).1 u.2.2.1).1 u.2.1).1,u.2.2.2))
 else (((Fy (Dg patE patV (C1 r.1 u.1).1 u.2.2.1).1 u.2.1).1,u.2.2.2),0)
def Rh (r:Rel) (u:Upd):Rel×Int:=if Cb r≠0 then (rel0,Cb r) else updV r u
def betU (r s:Rel):Upd:=(betD r.1 s.1,betP r.1 s.1,betT D9 r.1 s.1,s.2)
def Nz (r s:Rel):Upd×Int:=if Cb r≠0 then (upd0,Cb r) else if Cb s≠0 then (upd0,Cb s) else (betU r s,0)
def tgtR (k:List Lnk) (nm:ByteArray):ByteArray:=match k[k.findIdx λl=>decide (l.2=nm)]? with
 | some l=>l.1
 | none=>nm
def Hu (r:Rel) (nm:ByteArray):Tab×Int:=if Cb r≠0 then (Ga,Cb r) else match B4 r.1 (tgtR r.2 nm) with
 | none=>(Ga,5)
 | some t=>(t,0)
def leadR {r s:Rel}(hr:Cb r=0) (hs:Cb s=0):updV r (betU r s)=(s,0):=by
 obtain⟨_,_,a3,a4,_,_⟩:=E9 hr;obtain⟨_,_,b3,b4,_,_⟩:=E9 hs;obtain⟨h1,h2,h3,h4⟩:=leadN (pe:=patE) (pv:=patV) (pd:=D9) a4 b4 λt u ⟨x,hx,hy⟩=>by
  have c1:=(a3 _ (F4 hx)).2;have c2:=(b3 _ (F4 hy)).2;have hd:=diffE_of c1 c2;obtain⟨k1,k2⟩:=leads hd;have eP:J2 t u=D9 t u:=if_pos hd;have e1:appE t (J2 t u)=patE t (J2 t u):=by unfold appE;rw[if_neg (by simpa using c1)]
  have e2:appV t (J2 t u)=patV t (J2 t u):=by unfold appV;rw[if_neg (by simpa using c1)]
  rw[e1,eP] at k1;rw[e2,eP] at k2;exact⟨k1,k2⟩
 unfold updV betU;dsimp only;rw[if_neg (by simpa using h1),if_neg (by simpa using h2),if_neg (by simpa using h3),h4,if_neg (by simpa using hs)]
end
open Go.Ab
variable {r:Rel}
section
open Go.Ab Go.RowKit Civ
attribute [local simp] Eb Fi E5 Dn
section
def Y3 :((a0::a1::a2::a3::a4::a5::a6::l).drop 4).take 3=[a4,a5,a6]:=rfl
def Nv :((a0::a1::a2::a3::a4::a5::a6::a7::a8::a9::l).drop 5).take 5=[a5,a6,a7,a8,a9]:=rfl
def L6 {τ:Operand->AV}:Cm τ [] [(iv 0),(iv 0),(iv 0),(iv 0),(iv 0)]=some [(iv 0),(iv 0),(iv 0),(iv 0),(iv 0)]:=rfl
def Jr {a0 b0:Int}{a1 b1:Int}{a2 b2:Int}{a3 b3:Int}{a4 b4:Int}:Ei [.int,.int,.int,.int,.int] [iv a0,iv a1,iv a2,iv a3,iv a4] [iv b0,iv b1,iv b2,iv b3,iv b4]=some (decide (a0=b0/\a1=b1/\a2=b2/\a3=b3/\a4=b4)):=by
 simp only[Ei,K7,if_true,Ko,Option.some.injEq];simp only[Bool.decide_and,Bool.and_true];try (congr 1 <;> simp)
 try rfl
def Jk :((a0::a1::a2::a3::a4::a5::a6::a7::l).drop 5).take 3=[a5,a6,a7]:=rfl
def Fx :(a0::a1::a2::a3::a4::a5::a6::a7::a8::a9::l).take 10=[a0,a1,a2,a3,a4,a5,a6,a7,a8,a9]:=rfl
def Gc {c5 c6 c7 c8 c9:AV}:setCells (a0::a1::a2::a3::a4::a5::a6::a7::a8::a9::l) 0 [c0,c1,c2,c3,c4,c5,c6,c7,c8,c9]=c0::c1::c2::c3::c4::c5::c6::c7::c8::c9::l:=rfl
def L5 :((a0::a1::a2::a3::a4::a5::a6::a7::a8::a9::l).drop 0).take 10=[a0,a1,a2,a3,a4,a5,a6,a7,a8,a9]:=rfl
def Jj :(a0::a1::a2::a3::a4::a5::a6::a7::a8::a9::a10::l).take 11=[a0,a1,a2,a3,a4,a5,a6,a7,a8,a9,a10]:=rfl
def Pf {c5 c6 c7 c8 c9 c10:AV}:setCells (a0::a1::a2::a3::a4::a5::a6::a7::a8::a9::a10::l) 0 [c0,c1,c2,c3,c4,c5,c6,c7,c8,c9,c10]=c0::c1::c2::c3::c4::c5::c6::c7::c8::c9::c10::l:=rfl
def Pe :((a0::a1::a2::a3::a4::a5::a6::a7::a8::a9::a10::l).drop 0).take 11=[a0,a1,a2,a3,a4,a5,a6,a7,a8,a9,a10]:=rfl
def Ce :(a0::a1::l).take 2=[a0,a1]:=rfl
def Cc :setCells (a0::a1::l) 0 [c0,c1]=c0::c1::l:=rfl
def B1 :((a0::a1::l).drop 0).take 2=[a0,a1]:=rfl
end
def k159:=Kx 159 []
def k163:=Kx 163 []
def c238:AC:=(Sr [Oo 2 (.box 166 10 (t 0)),Mc 4 0] (.seq (.block 0 (Sr [Fa 8 1 2,Ld 9 8,Oo 10 (.bin .neq (t 9) (.const (.string ⟨#[]⟩))),Mv 11 10,Ot 12 11 (.fa 1 (t 2)),Ot 13 11 (.load false 1 (t 12)),Ot 14 11 (.call (.func 68) [(t 13)]),Ot 15 11 (.un .not (t 14)),Oo 16 (.pick (t 11) (t 15) (.const (.bool false))),Mv 17 16,Of 18 17 (.fa 3 (t 2)),Of 19 17 (.load false 1 (t 18)),Of 20 17 (.call (.func 274) [(t 19)]),Of 21 17 (.un .not (t 20)),Oo 22 (.pick (t 17) (.const (.bool true)) (t 21)),Mv 7 22] (Cd 7 (Sr [Mc 4 1] .ret) (Sr [Fa 24 0 2,Ld 25 24,Cl 26 235 [(t 25),(.const (.int .i64 (-64800))),(Ci 64800)],Oo 27 (.un .not (t 26)),Mv 28 27,Of 29 28 (.fa 2 (t 2)),Of 30 28 (.load false 1 (t 29)),Of 31 28 (.call (.func 235) [(t 30),(Ci 0),(Ci 10800)]),Of 32 28 (.un .not (t 31)),Oo 33 (.pick (t 28) (.const (.bool true)) (t 32)),Mv 23 33] (Cd 23 (Sr [Mc 4 3] .ret) (Sr [Fa 35 1 2,Ld 36 35,Oo 37 (.bin .neq (t 36) (.const (.string ⟨#[]⟩))),Mv 38 37,Ot 39 38 (.fa 2 (t 2)),Ot 40 38 (.load false 1 (t 39)),Ot 41 38 (.bin .neq (t 40) (Ci 0)),Oo 42 (.pick (t 38) (t 41) (.const (.bool false))),Mv 34 42] (Cd 34 (Sr [Mc 4 1] .ret) (Sr [Fa 44 4 2,Ld 45 44,Mv 46 1,Oo 47 (.eqb true (t 45) (t 46)),Mv 43 47] (Cd 43 (Sr [Mc 4 4] .ret) (Sr [Fa 49 4 2,Ld 50 49,Mv 48 50] (Cd 48 (.seq (Sr [Fa 51 5 2,Oo 52 (.load true 5 (t 51)),Oo 53 (.build [(iv 0),(iv 0),(iv 0),(iv 0),(iv 0)] []),Oo 54 (.eqs true [.int,.int,.int,.int,.int] (t 52) (t 53))] (Cd 54 (Sr [Mc 4 1] .ret) .skip)) (Sr [Mc 4 0] .ret)) .skip))))))))))) (.seq (Sr [Fa 56 5 2,Fa 57 0 56,Oo 58 (.load true 3 (t 57)),Cl 59 56 [(t 58)],Mv 55 59,Ex 60 55 0,Ex 61 55 1,Mv 5 60,Mv 6 61] (Sr [Mv 62 6,Bc 63 .neq 62 0] (Cd 63 (Sr [Mv 64 6,Mv 4 64] .ret) .skip))) (.seq (.block 1 (Sr [Fa 66 5 2,Fa 67 3 66,Ld 68 67,Cl 69 235 [(t 68),(Ci 0),(Ci 172800)],Oo 70 (.un .not (t 69)),Mv 65 70] (Cd 65 (Sr [Mc 4 3] .ret) (Sr [Fa 72 5 2,Fa 73 4 72,Ld 74 73,Cl 75 237 [(t 74),(.const (.bool false))],Oo 76 (.un .not (t 75)),Mv 71 76] (Cd 71 (Sr [Mc 4 7] .ret) .skip))))) (Sr [Mc 4 0] .ret)))))
def k238:Em Tryz.prog 238=some ⟨c238,[(.tmp 4)],77⟩:=by kernel_rfl
def k161:=Kx 161 []
def k158:=Kx 158 []
def k160:=Kx 160 []
def k162:=Kx 162 []
def k157:=Kx 157 []
def k102:=Kx 102 []
def Dd (r:Rul):Int :=
 if ¬(D3 r.1=true/\Mr r.2.2.2.2.2.2.2.2=true) then 1
 else if r.2.1<1900\/r.2.1>r.2.2.1\/r.2.2.1>2100\/¬wi r.2.2.2.1 1 12=true then 3
 else if (onV 2001 r.2.2.2.1 r.2.2.2.2.1.1 r.2.2.2.2.1.2.1 r.2.2.2.2.1.2.2).2≠0 then (onV 2001 r.2.2.2.1 r.2.2.2.2.1.1 r.2.2.2.2.1.2.1 r.2.2.2.2.1.2.2).2
 else if ¬wi r.2.2.2.2.2.1 0 172800=true then 3
 else if ¬clkB r.2.2.2.2.2.2.1 true=true then 7
 else if ¬wi r.2.2.2.2.2.2.2.1 0 10800=true then 3 else 0
def On (l:Lnk):Int:=if ¬(D3 l.1=true/\D3 l.2=true) then 1 else 0
def link_b {a b:ByteArray}(ha:a.size<=maxLen) (hb:b.size<=maxLen):Ac 163 [.agg [sv a,sv b]] h (iv (On (a,b))):=by
 refine tI' k163 λN hn _ _ hbd=>?_;simp only[tb'] at hbd ⊢;refine wr'<|E' (Bq cv rfl hl0 ha0) pt<|ms<|Ab<|wr'<|fq<|Vw (Aa lk gx gt0)<|Af mp (Qy ha) pt<|Vw (Bj lk)<|mw<|?_;refine Cz (t:=7) gt pt pt (λhg7=>?_) (λhg7=>?_)
 .refine so<|so<|so<|so<|Vw (Ar lk lkb)<|sn'<|Cx lk<|wo<|?_;refine Ag<|Ad rz<|rT'<|?_;rw[show On (a,b)=1 by unfold On;simp_all]
 refine sd<|fq<|sd<|Vw (Aa lk gx gt1)<|sd<|Af mp (Qy hb) pt<|sd<|Vw (Bj lk)<|Vw (Ao lk lk)<|sn'<|?_;refine Bg lk (λhc1=>?_) (λhc1=>?_)
 .refine wo<|Ag<|Ad rz<|rT'<|?_;rw[show On (a,b)=1 by unfold On;simp_all]
 refine za<|wo<|Ad rz<|rT'<|?_;rw[show On (a,b)=0 by unfold On;simp_all]
def rule_b {nm lt:ByteArray}{f t m k w a c s:Int}(hn:nm.size<=maxLen) (hl:lt.size<=maxLen):Ac 159 [.agg [sv nm,iv f,iv t,iv m,iv k,iv w,iv n,iv a,iv c,iv s,sv lt]] h (iv (Dd (nm,f,t,m,(k,w,n),a,c,s,lt))):=by
 have hnm:=hn;clear hn;refine tI' k159 λN hn _ _ hbd=>?_;simp only[tb'] at hbd ⊢;refine wr'<|E' (Bq cv rfl hl0 ha0) pt<|ms<|Ab<|Ah<|wr'<|fq<|Vw (Aa lk gx gt0)<|Af mp (Qy hnm) pt<|Vw (Bj lk)<|?_;refine mv' lk pt ?_;refine Cz (t:=10) gt pt pt (λhg10=>?_) (λhg10=>?_)
 .refine so<|so<|so<|so<|Vw (Ar lk lkb)<|ms<|Cx lk<|wk'<|?_;refine C4<|Au<|Ag<|Ad rz<|rT'<|?_;rw[show Dd (nm,f,t,m,(k,w,n),a,c,s,lt)=1 by unfold Dd;simp_all]
 refine sd<|fq<|sd<|Vw (Aa lk gx gt10)<|sd<|Af mp (tO hl) pt<|sd<|Vw (Bj lk)<|Vw (Ao lk lk)<|ms<|?_;refine Bg lk (λhc1=>?_) (λhc1=>?_)
 .refine wo<|Au<|Ag<|Ad rz<|rT'<|?_;rw[show Dd (nm,f,t,m,(k,w,n),a,c,s,lt)=1 by unfold Dd;simp_all]
 have h1:D3 nm=true/\Mr lt=true:=by simp_all
 have hR:Dd (nm,f,t,m,(k,w,n),a,c,s,lt)=if f<1900\/f>t\/t>2100\/¬wi m 1 12=true then 3 else if (onV 2001 m k w n).2≠0 then (onV 2001 m k w n).2 else if ¬wi a 0 172800=true then 3 else if ¬clkB c true=true then 7 else if ¬wi s 0 10800=true then 3 else 0:=if_neg (by simp[h1])
 refine wr'<|fq<|Vw (Aa lk gx gt1)<|Vw (Bm lk lki)<|mw<|?_;refine sp' (t:=20) gt pt pt (λhg20=>?_) (λhg20=>?_)
 .rw[if_pos (.inl om)] at hR;refine so<|so<|so<|so<|so<|Vw (Ar lk lkb)<|mw<|so<|so<|so<|Vw (Ar lk lkb)<|mw<|so<|so<|?_;refine so<|so<|Vw (Ar lk lkb)<|ms<|Cx lk<|wo<|Au<|?_;refine Ag<|Ad rz<|rT'<|?_;rw[hR]
 refine sd<|fq<|sd<|Vw (Aa lk gx gt1)<|sd<|fq<|sd<|Vw (Aa lk gx gt2)<|sd<|Vw (C7 lk lk)<|Vw (Ao lk lk)<|mw<|?_;refine sp' (t:=27) gt pt pt (λhg27=>?_) (λhg27=>?_)
 .rw[if_pos (.inr (.inl om))] at hR;refine so<|so<|so<|Vw (Ar lk lkb)<|mw<|so<|so<|so<|so<|Vw (Ar lk lkb)<|ms<|Cx lk<|?_;refine wo<|Au<|Ag<|Ad rz<|rT'<|?_;rw[hR]
 refine sd<|fq<|sd<|Vw (Aa lk gx gt2)<|sd<|Vw (C7 lk lki)<|Vw (Ao lk lk)<|mw<|?_;refine sp' (t:=32) gt pt pt (λhg32=>?_) (λhg32=>?_)
 .rw[if_pos (.inr (.inr (.inl om)))] at hR;refine so<|so<|so<|so<|Vw (Ar lk lkb)<|ms<|Cx lk<|wk'<|?_;refine C4<|Au<|Ag<|Ad rz<|rT'<|?_;rw[hR]
 refine sd<|fq<|sd<|Vw (Aa lk gx gt3)<|sd<|Af mp (Fj) pt<|sd<|Vw (Bj lk)<|Vw (Ao lk lk)<|ms<|?_;refine Bg lk (λhc2=>?_) (λhc2=>?_)
 .rw[if_pos (.inr (.inr (.inr (by simpa using hc2))))] at hR;refine wo<|Au<|Ag<|Ad rz<|rT'<|?_;rw[hR]
 have hw2:wi m 1 12=true:=by simpa using hc2
 have h2:¬(f<1900\/f>t\/t>2100\/¬wi m 1 12=true):=by rw[hw2];simp;omega
 rw[if_neg h2] at hR;refine Be<|Aw<|An<|Ab<|wr'<|fq<|Vw (Aa lk gx gt3)<|fq<|Vw (Ak lk gx Y3 rfl)<|Af mp (on_a) pt<|mw<|Vw (B7 lk gt)<|Vw (B7 lk gt)<|?_;refine E' (Bz hl1 ha1) pt<|E' (Ai lk cv gx rfl nb rfl Bo hs1) ptn<|ms<|wm<|Vw (Ca lk lki)<|sn'<|?_;refine cd' lk (λhc3=>?_) (λhc3=>?_)
 .rw[if_pos hc3] at hR;refine wm<|mr<|Ag<|Ad rz<|rT'<|?_;rw[hR]
 rw[if_neg hc3] at hR;refine za<|Ab<|Ah<|wr'<|fq<|Vw (Aa lk gx gt7)<|Af mp (Fj) pt<|Vw (Bj lk)<|ms<|?_;refine Bg lk (λhc4=>?_) (λhc4=>?_)
 .rw[if_pos (by simpa using hc4)] at hR;refine wo<|Au<|Ag<|Ad rz<|rT'<|?_;rw[hR]
 rw[if_neg (by simpa using hc4)] at hR;refine wr'<|fq<|Vw (Aa lk gx gt8)<|Af mp (Sy) pt<|Vw (Bj lk)<|ms<|?_;refine Bg lk (λhc5=>?_) (λhc5=>?_)
 .rw[if_pos (by simpa using hc5)] at hR;refine wo<|Au<|Ag<|Ad rz<|rT'<|?_;rw[hR]
 rw[if_neg (by simpa using hc5)] at hR;refine wr'<|fq<|Vw (Aa lk gx gt9)<|Af mp (Fj) pt<|Vw (Bj lk)<|ms<|?_;refine Bg lk (λhc6=>?_) (λhc6=>?_)
 .rw[if_pos (by simpa using hc6)] at hR;refine wo<|Au<|Ag<|Ad rz<|rT'<|?_;rw[hR]
 rw[if_neg (by simpa using hc6)] at hR;refine Be<|Aw<|An<|wo<|Ad rz<|rT'<|?_;rw[hR]
def Wa {y m d:Int}:Ac 56 [.agg [iv y,iv m,iv d]] h (.tup [iv (if Db y m d=true then num y m d else 0),iv (if Db y m d=true then 0 else 3)]):=days_a
def eraE (sh:Int) (rl:ByteArray) (sa:Int) (fm:ByteArray) (op:Bool) (y m d a c:Int) (last:Bool):Int :=
 if (rl≠⟨#[]⟩/\¬D3 rl=true)\/¬E0 fm=true then 1
 else if ¬wi sh (-64800) 64800=true\/¬wi sa 0 10800=true then 3
 else if rl≠⟨#[]⟩/\sa≠0 then 1
 else if op≠last then 4
 else if op=true then (if ¬(y=0/\m=0/\d=0/\a=0/\c=0) then 1 else 0)
 else if ¬Db y m d=true then 3
 else if ¬wi a 0 172800=true then 3
 else if ¬clkB c false=true then 7 else 0
def era_b {rl fm:ByteArray}{sh sa y m d a c:Int}{op last:Bool}(hrl:rl.size<=maxLen) (hfm:fm.size<=maxLen):Ac 238 [.agg [iv sh,sv rl,iv sa,sv fm,bv op,iv y,iv m,iv d,iv a,iv c],bv last] h (iv (eraE sh rl sa fm op y m d a c last)):=by
 refine tI' k238 λN hn _ _ hbd=>?_;simp only[tb'] at hbd ⊢;refine wr'<|E' (Bq cv rfl hl0 ha0) pt<|ms<|Ab<|Ah<|wr'<|fq<|Vw (Aa lk gx gt1)<|Vw (H7 lk lks)<|mw<|?_;refine sp' (t:=11) gt pt pt (λhg11=>?_) (λhg11=>?_)
 .refine sd<|fq<|sd<|Vw (Aa lk gx gt1)<|sd<|Af mp (Qy hrl) pt<|sd<|Vw (Bj lk)<|Vw (Ar lk lk)<|mw<|?_;refine Cz (t:=17) gt pt pt (λhg17=>?_) (λhg17=>?_)
  .refine so<|so<|so<|so<|Vw (Ar lk lkb)<|ms<|Cx lk<|wk'<|?_;refine C4<|Au<|Ag<|Ad rz<|rT'<|?_;refine ivx ?_;unfold eraE;simp_all
  refine sd<|fq<|sd<|Vw (Aa lk gx gt3)<|sd<|Af mp (iU hfm) pt<|sd<|Vw (Bj lk)<|Vw (Ao lk lk)<|ms<|?_;refine Bg lk (λhc1=>?_) (λhc1=>?_)
  .refine wo<|Au<|Ag<|Ad rz<|rT'<|?_;refine ivx ?_;unfold eraE;simp_all
  refine wr'<|fq<|Vw (Aa lk gx gt0)<|Af mp (Fj) pt<|Vw (Bj lk)<|mw<|?_;refine Cz (t:=28) gt pt pt (λhg28=>?_) (λhg28=>?_)
  .refine so<|so<|so<|so<|Vw (Ar lk lkb)<|ms<|Cx lk<|wk'<|?_;refine C4<|Au<|Ag<|Ad rz<|rT'<|?_;refine ivx ?_;unfold eraE;simp_all
  refine sd<|fq<|sd<|Vw (Aa lk gx gt2)<|sd<|Af mp (Fj) pt<|sd<|Vw (Bj lk)<|Vw (Ao lk lk)<|ms<|?_;refine Bg lk (λhc2=>?_) (λhc2=>?_)
  .refine wo<|Au<|Ag<|Ad rz<|rT'<|?_;refine ivx ?_;unfold eraE;simp_all
  refine wr'<|fq<|Vw (Aa lk gx gt1)<|Vw (H7 lk lks)<|mw<|?_;refine sp' (t:=38) gt pt pt (λhg38=>?_) (λhg38=>?_)
  .refine sd<|fq<|sd<|Vw (Aa lk gx gt2)<|sd<|Vw (Ca lk lki)<|Vw (Ar lk lk)<|ms<|?_;refine cd' lk (λhc3=>?_) (λhc3=>?_)
   .refine wo<|Au<|Ag<|Ad rz<|rT'<|?_;refine ivx ?_;unfold eraE;simp_all
   refine wr'<|fq<|Vw (Aa lk gx gt4)<|mw<|Vw (bV lk lk)<|ms<|?_;refine cd' lk (λhc4=>?_) (λhc4=>?_)
   .refine wo<|Au<|Ag<|Ad rz<|rT'<|?_;refine ivx ?_;unfold eraE;simp_all
   refine wr'<|fq<|Vw (Aa lk gx gt4)<|ms<|?_;refine Bg lk (λhc5=>?_) (λhc5=>?_)
   .refine Ab<|wr'<|fq<|Vw (Ak lk gx Nv rfl)<|Vw (Bb L6)<|Vw (Ma lk lk Jr)<|sn'<|?_;refine cd' lk (λhc6=>?_) (λhc6=>?_)
    .refine wo<|Ag<|Au<|Ag<|Ad rz<|rT'<|?_;refine ivx ?_;unfold eraE;simp_all
    refine za<|wo<|Au<|Ag<|Ad rz<|rT'<|?_;refine ivx ?_;unfold eraE;simp_all
   refine Be<|Aw<|An<|Ab<|wr'<|fq<|Vw (Df lk)<|Vw (Ak lk gx Jk rfl)<|Af mp (Wa) pt<|mw<|Vw (B7 lk gt)<|Vw (B7 lk gt)<|mw<|?_;refine ms<|wm<|Vw (Ca lk lki)<|sn'<|?_;refine cd' lk (λhc7=>?_) (λhc7=>?_)
   .refine wm<|mr<|Ag<|Ad rz<|rT'<|?_;refine ivx ?_;unfold eraE;simp_all
   refine za<|Ab<|Ah<|wr'<|fq<|Vw (Df lk)<|Vw (Aa lk gx gt8)<|Af mp (Fj) pt<|Vw (Bj lk)<|ms<|?_;refine Bg lk (λhc8=>?_) (λhc8=>?_)
   .refine wo<|Au<|Ag<|Ad rz<|rT'<|?_;refine ivx ?_;unfold eraE;simp_all
   refine wr'<|fq<|Vw (Df lk)<|Vw (Aa lk gx gt9)<|Af mp (Sy) pt<|Vw (Bj lk)<|ms<|?_;refine Bg lk (λhc9=>?_) (λhc9=>?_)
   .refine wo<|Au<|Ag<|Ad rz<|rT'<|?_;refine ivx ?_;unfold eraE;simp_all
   refine Be<|Aw<|An<|wo<|Ad rz<|rT'<|?_;refine ivx ?_;unfold eraE;simp_all
  refine so<|so<|so<|Vw (Ao lk lkb)<|ms<|Cf lk<|wr'<|fq<|Vw (Aa lk gx gt4)<|mw<|Vw (bV lk lk)<|?_;refine ms<|?_;refine cd' lk (λhc4=>?_) (λhc4=>?_)
  .refine wo<|Au<|Ag<|Ad rz<|rT'<|?_;refine ivx ?_;unfold eraE;simp_all
  refine wr'<|fq<|Vw (Aa lk gx gt4)<|ms<|?_;refine Bg lk (λhc5=>?_) (λhc5=>?_)
  .refine Ab<|wr'<|fq<|Vw (Ak lk gx Nv rfl)<|Vw (Bb L6)<|Vw (Ma lk lk Jr)<|sn'<|?_;refine cd' lk (λhc6=>?_) (λhc6=>?_)
   .refine wo<|Ag<|Au<|Ag<|Ad rz<|rT'<|?_;refine ivx ?_;unfold eraE;simp_all
   refine za<|wo<|Au<|Ag<|Ad rz<|rT'<|?_;refine ivx ?_;unfold eraE;simp_all
  refine Be<|Aw<|An<|Ab<|wr'<|fq<|Vw (Df lk)<|Vw (Ak lk gx Jk rfl)<|Af mp (Wa) pt<|mw<|Vw (B7 lk gt)<|Vw (B7 lk gt)<|mw<|?_;refine ms<|wm<|Vw (Ca lk lki)<|sn'<|?_;refine cd' lk (λhc7=>?_) (λhc7=>?_)
  .refine wm<|mr<|Ag<|Ad rz<|rT'<|?_;refine ivx ?_;unfold eraE;simp_all
  refine za<|Ab<|Ah<|wr'<|fq<|Vw (Df lk)<|Vw (Aa lk gx gt8)<|Af mp (Fj) pt<|Vw (Bj lk)<|ms<|?_;refine Bg lk (λhc8=>?_) (λhc8=>?_)
  .refine wo<|Au<|Ag<|Ad rz<|rT'<|?_;refine ivx ?_;unfold eraE;simp_all
  refine wr'<|fq<|Vw (Df lk)<|Vw (Aa lk gx gt9)<|Af mp (Sy) pt<|Vw (Bj lk)<|ms<|?_;refine Bg lk (λhc9=>?_) (λhc9=>?_)
  .refine wo<|Au<|Ag<|Ad rz<|rT'<|?_;refine ivx ?_;unfold eraE;simp_all
  refine Be<|Aw<|An<|wo<|Ad rz<|rT'<|?_;refine ivx ?_;unfold eraE;simp_all
 refine so<|so<|so<|so<|Vw (Ao lk lkb)<|mw<|sd<|fq<|sd<|Vw (Aa lk gx gt3)<|sd<|Af mp (iU hfm) pt<|sd<|Vw (Bj lk)<|?_;refine Vw (Ao lk lk)<|ms<|?_;refine Bg lk (λhc1=>?_) (λhc1=>?_)
 .refine wo<|Au<|Ag<|Ad rz<|rT'<|?_;refine ivx ?_;unfold eraE;simp_all
 refine wr'<|fq<|Vw (Aa lk gx gt0)<|Af mp (Fj) pt<|Vw (Bj lk)<|mw<|?_;refine Cz (t:=28) gt pt pt (λhg28=>?_) (λhg28=>?_)
 .refine so<|so<|so<|so<|Vw (Ar lk lkb)<|ms<|Cx lk<|wk'<|?_;refine C4<|Au<|Ag<|Ad rz<|rT'<|?_;refine ivx ?_;unfold eraE;simp_all
 refine sd<|fq<|sd<|Vw (Aa lk gx gt2)<|sd<|Af mp (Fj) pt<|sd<|Vw (Bj lk)<|Vw (Ao lk lk)<|ms<|?_;refine Bg lk (λhc2=>?_) (λhc2=>?_)
 .refine wo<|Au<|Ag<|Ad rz<|rT'<|?_;refine ivx ?_;unfold eraE;simp_all
 refine wr'<|fq<|Vw (Aa lk gx gt1)<|Vw (H7 lk lks)<|mw<|?_;refine sp' (t:=38) gt pt pt (λhg38=>?_) (λhg38=>?_)
 .refine sd<|fq<|sd<|Vw (Aa lk gx gt2)<|sd<|Vw (Ca lk lki)<|Vw (Ar lk lk)<|ms<|?_;refine cd' lk (λhc3=>?_) (λhc3=>?_)
  .refine wo<|Au<|Ag<|Ad rz<|rT'<|?_;refine ivx ?_;unfold eraE;simp_all
  refine wr'<|fq<|Vw (Aa lk gx gt4)<|mw<|Vw (bV lk lk)<|ms<|?_;refine cd' lk (λhc4=>?_) (λhc4=>?_)
  .refine wo<|Au<|Ag<|Ad rz<|rT'<|?_;refine ivx ?_;unfold eraE;simp_all
  refine wr'<|fq<|Vw (Aa lk gx gt4)<|ms<|?_;refine Bg lk (λhc5=>?_) (λhc5=>?_)
  .refine Ab<|wr'<|fq<|Vw (Ak lk gx Nv rfl)<|Vw (Bb L6)<|Vw (Ma lk lk Jr)<|sn'<|?_;refine cd' lk (λhc6=>?_) (λhc6=>?_)
   .refine wo<|Ag<|Au<|Ag<|Ad rz<|rT'<|?_;refine ivx ?_;unfold eraE;simp_all
   refine za<|wo<|Au<|Ag<|Ad rz<|rT'<|?_;refine ivx ?_;unfold eraE;simp_all
  refine Be<|Aw<|An<|Ab<|wr'<|fq<|Vw (Df lk)<|Vw (Ak lk gx Jk rfl)<|Af mp (Wa) pt<|mw<|Vw (B7 lk gt)<|Vw (B7 lk gt)<|mw<|?_;refine ms<|wm<|Vw (Ca lk lki)<|sn'<|?_;refine cd' lk (λhc7=>?_) (λhc7=>?_)
  .refine wm<|mr<|Ag<|Ad rz<|rT'<|?_;refine ivx ?_;unfold eraE;simp_all
  refine za<|Ab<|Ah<|wr'<|fq<|Vw (Df lk)<|Vw (Aa lk gx gt8)<|Af mp (Fj) pt<|Vw (Bj lk)<|ms<|?_;refine Bg lk (λhc8=>?_) (λhc8=>?_)
  .refine wo<|Au<|Ag<|Ad rz<|rT'<|?_;refine ivx ?_;unfold eraE;simp_all
  refine wr'<|fq<|Vw (Df lk)<|Vw (Aa lk gx gt9)<|Af mp (Sy) pt<|Vw (Bj lk)<|ms<|?_;refine Bg lk (λhc9=>?_) (λhc9=>?_)
  .refine wo<|Au<|Ag<|Ad rz<|rT'<|?_;refine ivx ?_;unfold eraE;simp_all
  refine Be<|Aw<|An<|wo<|Ad rz<|rT'<|?_;refine ivx ?_;unfold eraE;simp_all
 refine so<|so<|so<|Vw (Ao lk lkb)<|ms<|Cf lk<|wr'<|fq<|Vw (Aa lk gx gt4)<|mw<|Vw (bV lk lk)<|?_;refine ms<|?_;refine cd' lk (λhc4=>?_) (λhc4=>?_)
 .refine wo<|Au<|Ag<|Ad rz<|rT'<|?_;refine ivx ?_;unfold eraE;simp_all
 refine wr'<|fq<|Vw (Aa lk gx gt4)<|ms<|?_;refine Bg lk (λhc5=>?_) (λhc5=>?_)
 .refine Ab<|wr'<|fq<|Vw (Ak lk gx Nv rfl)<|Vw (Bb L6)<|Vw (Ma lk lk Jr)<|sn'<|?_;refine cd' lk (λhc6=>?_) (λhc6=>?_)
  .refine wo<|Ag<|Au<|Ag<|Ad rz<|rT'<|?_;refine ivx ?_;unfold eraE;simp_all
  refine za<|wo<|Au<|Ag<|Ad rz<|rT'<|?_;refine ivx ?_;unfold eraE;simp_all
 refine Be<|Aw<|An<|Ab<|wr'<|fq<|Vw (Df lk)<|Vw (Ak lk gx Jk rfl)<|Af mp (Wa) pt<|mw<|Vw (B7 lk gt)<|Vw (B7 lk gt)<|mw<|?_;refine ms<|wm<|Vw (Ca lk lki)<|sn'<|?_;refine cd' lk (λhc7=>?_) (λhc7=>?_)
 .refine wm<|mr<|Ag<|Ad rz<|rT'<|?_;refine ivx ?_;unfold eraE;simp_all
 refine za<|Ab<|Ah<|wr'<|fq<|Vw (Df lk)<|Vw (Aa lk gx gt8)<|Af mp (Fj) pt<|Vw (Bj lk)<|ms<|?_;refine Bg lk (λhc8=>?_) (λhc8=>?_)
 .refine wo<|Au<|Ag<|Ad rz<|rT'<|?_;refine ivx ?_;unfold eraE;simp_all
 refine wr'<|fq<|Vw (Df lk)<|Vw (Aa lk gx gt9)<|Af mp (Sy) pt<|Vw (Bj lk)<|ms<|?_;refine Bg lk (λhc9=>?_) (λhc9=>?_)
 .refine wo<|Au<|Ag<|Ad rz<|rT'<|?_;refine ivx ?_;unfold eraE;simp_all
 refine Be<|Aw<|An<|wo<|Ad rz<|rT'<|?_;refine ivx ?_;unfold eraE;simp_all
abbrev eraX (x:Era) (last:Bool):Int:=eraE x.1 x.2.1 x.2.2.1 x.2.2.2.1 x.2.2.2.2.1 x.2.2.2.2.2.1.1 x.2.2.2.2.2.1.2.1 x.2.2.2.2.2.1.2.2 x.2.2.2.2.2.2.1 x.2.2.2.2.2.2.2 last
def Ql:List Era->Int
 | []=>0
 | x::xs=>if eraX x xs.isEmpty≠0 then eraX x xs.isEmpty else Ql xs
def N3 (z:Zon):Int:=if ¬D3 z.1=true\/z.2.length=0 then 1 else Ql z.2
def okEra (x:Era):Prop:=x.2.1.size<=maxLen/\x.2.2.2.1.size<=maxLen
def erasE_at {l:List Era}{k:Nat}(h:k<l.length):Ql (l.drop k)=if eraX l[k] (decide ((k:Int)=(l.length:Int)-1))≠0 then eraX l[k] (decide ((k:Int)=(l.length:Int)-1)) else Ql (l.drop (k+1)):=by
 have e:(l.drop (k+1)).isEmpty=decide ((k:Int)=(l.length:Int)-1):=by
  rw[Bool.eq_iff_iff,List.isEmpty_iff,List.drop_eq_nil_iff,decide_eq_true_iff];omega
 rw[List.drop_eq_getElem_cons h,Ql,e]
def zone_b {nm:ByteArray}{l:List Era}(hnm:nm.size<=maxLen) (hl : ∀ x∈l,okEra x):Ac 161 [.agg [sv nm,.sl l.length 10 false (rows eraC l)]] h (iv (N3 (nm,l))):=by
 refine tI' k161 λN hn hlt _ hbd=>?_;simp only[tb'] at hbd ⊢;refine wr'<|E' (Bq cv rfl hl0 ha0) pt<|ms<|Ab<|wr'<|fq<|Vw (Aa lk gx gt0)<|Af mp (Qy hnm) pt<|Vw (Bj lk)<|mw<|?_;refine Cz (t:=10) gt pt pt (λhg10=>?_) (λhg10=>?_)
 .have hZ:N3 (nm,l)=1:=if_pos (.inl (by simpa using hg10));refine so<|so<|so<|so<|Vw (Ar lk lkb)<|sn'<|Cx lk<|wo<|?_;refine Ag<|Ad rz<|rT'<|?_;rw[hZ]
 refine sd<|fq<|sd<|Vw (Aa lk gx gt1)<|sd<|Vw (Bf lk)<|sd<|Vw (Cy lk lki)<|Vw (Ao lk lk)<|sn'<|?_;refine cd' lk (λhc1=>?_) (λhc1=>?_)
 .have hZ:N3 (nm,l)=1:=if_pos (.inr (by show l.length=0;omega));refine wo<|Ag<|Ad rz<|rT'<|?_;rw[hZ]
 have hZ:N3 (nm,l)=Ql l:=if_neg (by rintro (h1 | h1);exact h1 (by simpa using hg10);exact hc1 (by show (l.length:Int)=0;have:l.length=0:=h1;omega));refine za<|Ab<|wr'<|fq<|Vw (Aa lk gx gt1)<|Vw (Bf lk)<|ms<|Ah<|?_;refine w_lp (ι:=Nat) (λ(k:Nat)=>[(19,iv (k:Int))]++rn' 2 4++rn' 20 16) (λ(k:Nat)=>[]) (λ(k:Nat)=>k<=l.length/\Ql l=Ql (l.drop k)) (λ(k:Nat)=>l.length-k) (0) (by exact⟨Nat.zero_le _,rfl⟩) ?_;rintro k hi1;try simp only[sm',Nat.reduceAdd]
 obtain⟨hk1,hk2⟩:=hi1;refine wr'<|Vw (Bm lk lk)<|sn'<|Ab<|?_;refine cd' lk (λhc2=>?_) (λhc2=>?_)
 .have hk:k<l.length:=by omega
  have ho:=hl _ (List.getElem_mem hk);rw[erasE_at hk] at hk2;refine za<|Ab<|Ah<|wm<|?_;refine V' (Bh lk lk F5 nb ro om ro rfl) pt ?_;refine Vw (Ax lk Fx rfl)<|E' (Bz hl1 ha1) pt<|mw<|E' (Ai lk cv gx rfl nb rfl Gc hs1) ptn<|sn'<|wr'<|Vw (Ak lk gx L5 rfl)<|mw<|fq<|Vw (Aa lk gx gt1)<|Vw (Bf lk)<|?_;refine V' (Ch lk lki om om) pt ?_;refine Vw (Cy lk lk)<|Af mp (era_b (last:=decide ((k:Int)=(l.length:Int)-1)) ho.1 ho.2) pt<|ms<|wm<|Vw (Ca lk lki)<|sn'<|?_;refine cd' lk (λhc3=>?_) (λhc3=>?_)
  .have hc3':eraX l[k] (decide ((k:Int)=(l.length:Int)-1))≠0:=hc3;rw[if_pos hc3'] at hk2;refine wm<|mr<|Au<|Ag<|Ag<|Au<|Ag<|Ad rz<|rT'<|?_;rw[hZ,hk2]
  have hc3':¬eraX l[k] (decide ((k:Int)=(l.length:Int)-1))≠0:=hc3;rw[if_neg hc3'] at hk2;refine Be<|Aw<|An<|Aq<|?_;refine ad<|mw<|Am<|Az<|?_;refine lU' (k+1) (by (try dsimp only);exact⟨by omega,hk2⟩) (by refine zz ?_;exact bk' 1 hn hlt)
 rw[List.drop_of_length_le om] at hk2;refine Bd<|As<|As<|Bp<|An<|wo<|Ad rz<|rT'<|?_;rw[hZ,hk2];rfl
def Dc {α:Type}(p:α->Int):List α->Int
 | []=>0
 | x::xs=>if p x≠0 then p x else Dc p xs
def Kn {α:Type}{p:α->Int}{l:List α}{k:Nat}(h:k<l.length):Dc p (l.drop k)=if p l[k]≠0 then p l[k] else Dc p (l.drop (k+1)):=by
 rw[List.drop_eq_getElem_cons h,Dc]
def mJ {p:Rul->Int}{l:List Rul}(hp : ∀ x∈l,∀ h:AH,ACalls Tryz.prog f [.agg (rulC x)] h λy h'=>h'=h/\y=.ret (iv (p x))) :Ac 158 [.sl l.length 11 false (rows rulC l),.v (.func (.func f) #[] #[])] h (iv (Dc p l)):=by
 refine tI' k158 λN hn hlt _ hbd=>?_;simp only[tb'] at hbd ⊢;refine wk'<|Ab<|wm<|Vw (Bf lk)<|ms<|Ah<|?_;refine w_lp (ι:=Nat) (λ(k:Nat)=>[(10,iv (k:Int)),(4,.any),(6,.any),(7,.any)]++rn' 11 10) (λ(k:Nat)=>[]) (λ(k:Nat)=>k<=l.length/\Dc p l=Dc p (l.drop k)) (λ(k:Nat)=>l.length-k) (0) (by exact⟨Nat.zero_le _,rfl⟩) ?_;rintro k hi1;try simp only[sm',Nat.reduceAdd]
 obtain⟨hk1,hk2⟩:=hi1;refine wr'<|Vw (Bm lk lk)<|sn'<|Ab<|?_;refine cd' lk (λhc1=>?_) (λhc1=>?_)
 .have hk:k<l.length:=by omega
  rw[Kn hk] at hk2;refine za<|Ab<|Ah<|wr'<|?_;refine V' (Bh lk lk Gk nb ro om ro rfl) pt ?_;refine Vw (Ax lk Jj rfl)<|E' (Bz hl0 ha0) pt<|E' (Ai lk cv gx rfl nb rfl Pf hs0) ptn<|sn'<|wm<|Vw (Ak lk gx Pe rfl)<|Nh lk mp (hp _ (List.getElem_mem hk) _) pt<|ms<|Ab<|?_;refine Aq<|mw<|Vw (Ca lk lki)<|sn'<|?_;refine cd' lk (λhc2=>?_) (λhc2=>?_)
  .rw[if_pos hc2] at hk2;refine wm<|mr<|Au<|Ag<|Ag<|Au<|Ag<|Ad rz<|rT'<|?_;rw[hk2]
  rw[if_neg hc2] at hk2;refine Be<|Aw<|An<|Aq<|?_;refine ad<|mw<|Am<|Az<|?_;refine lU' (k+1) (by (try dsimp only);exact⟨by omega,hk2⟩) (by refine zz ?_;exact bk' 0 hn hlt)
 rw[List.drop_of_length_le om] at hk2;refine Bd<|As<|As<|Bp<|An<|wo<|Ad rz<|rT'<|?_;rw[hk2];rfl
def mI {p:Zon->Int}{l:List Zon}(hp : ∀ x∈l,∀ h:AH,ACalls Tryz.prog f [.agg (zonC x)] h λy h'=>h'=h/\y=.ret (iv (p x))) :Ac 160 [.sl l.length 2 false (rows zonC l),.v (.func (.func f) #[] #[])] h (iv (Dc p l)):=by
 refine tI' k160 λN hn hlt _ hbd=>?_;simp only[tb'] at hbd ⊢;refine wk'<|Ab<|wm<|Vw (Bf lk)<|ms<|Ah<|?_;refine w_lp (ι:=Nat) (λ(k:Nat)=>[(10,iv (k:Int)),(4,.any),(6,.any),(7,.any)]++rn' 11 10) (λ(k:Nat)=>[]) (λ(k:Nat)=>k<=l.length/\Dc p l=Dc p (l.drop k)) (λ(k:Nat)=>l.length-k) (0) (by exact⟨Nat.zero_le _,rfl⟩) ?_;rintro k hi1;try simp only[sm',Nat.reduceAdd]
 obtain⟨hk1,hk2⟩:=hi1;refine wr'<|Vw (Bm lk lk)<|sn'<|Ab<|?_;refine cd' lk (λhc1=>?_) (λhc1=>?_)
 .have hk:k<l.length:=by omega
  rw[Kn hk] at hk2;refine za<|Ab<|Ah<|wr'<|?_;refine V' (Bh lk lk Ho nb ro om ro rfl) pt ?_;refine Vw (Ax lk Ce rfl)<|E' (Bz hl0 ha0) pt<|E' (Ai lk cv gx rfl nb rfl Cc hs0) ptn<|sn'<|wm<|Vw (Ak lk gx B1 rfl)<|Nh lk mp (hp _ (List.getElem_mem hk) _) pt<|ms<|Ab<|?_;refine Aq<|mw<|Vw (Ca lk lki)<|sn'<|?_;refine cd' lk (λhc2=>?_) (λhc2=>?_)
  .rw[if_pos hc2] at hk2;refine wm<|mr<|Au<|Ag<|Ag<|Au<|Ag<|Ad rz<|rT'<|?_;rw[hk2]
  rw[if_neg hc2] at hk2;refine Be<|Aw<|An<|Aq<|?_;refine ad<|mw<|Am<|Az<|?_;refine lU' (k+1) (by (try dsimp only);exact⟨by omega,hk2⟩) (by refine zz ?_;exact bk' 0 hn hlt)
 rw[List.drop_of_length_le om] at hk2;refine Bd<|As<|As<|Bp<|An<|wo<|Ad rz<|rT'<|?_;rw[hk2];rfl
def Yb {p:Lnk->Int}{l:List Lnk}(hp : ∀ x∈l,∀ h:AH,ACalls Tryz.prog f [.agg (lnkC x)] h λy h'=>h'=h/\y=.ret (iv (p x))) :Ac 162 [.sl l.length 2 false (rows lnkC l),.v (.func (.func f) #[] #[])] h (iv (Dc p l)):=by
 refine tI' k162 λN hn hlt _ hbd=>?_;simp only[tb'] at hbd ⊢;refine wk'<|Ab<|wm<|Vw (Bf lk)<|ms<|Ah<|?_;refine w_lp (ι:=Nat) (λ(k:Nat)=>[(10,iv (k:Int)),(4,.any),(6,.any),(7,.any)]++rn' 11 10) (λ(k:Nat)=>[]) (λ(k:Nat)=>k<=l.length/\Dc p l=Dc p (l.drop k)) (λ(k:Nat)=>l.length-k) (0) (by exact⟨Nat.zero_le _,rfl⟩) ?_;rintro k hi1;try simp only[sm',Nat.reduceAdd]
 obtain⟨hk1,hk2⟩:=hi1;refine wr'<|Vw (Bm lk lk)<|sn'<|Ab<|?_;refine cd' lk (λhc1=>?_) (λhc1=>?_)
 .have hk:k<l.length:=by omega
  rw[Kn hk] at hk2;refine za<|Ab<|Ah<|wr'<|?_;refine V' (Bh lk lk Da nb ro om ro rfl) pt ?_;refine Vw (Ax lk Ce rfl)<|E' (Bz hl0 ha0) pt<|E' (Ai lk cv gx rfl nb rfl Cc hs0) ptn<|sn'<|wm<|Vw (Ak lk gx B1 rfl)<|Nh lk mp (hp _ (List.getElem_mem hk) _) pt<|ms<|Ab<|?_;refine Aq<|mw<|Vw (Ca lk lki)<|sn'<|?_;refine cd' lk (λhc2=>?_) (λhc2=>?_)
  .rw[if_pos hc2] at hk2;refine wm<|mr<|Au<|Ag<|Ag<|Au<|Ag<|Ad rz<|rT'<|?_;rw[hk2]
  rw[if_neg hc2] at hk2;refine Be<|Aw<|An<|Aq<|?_;refine ad<|mw<|Am<|Az<|?_;refine lU' (k+1) (by (try dsimp only);exact⟨by omega,hk2⟩) (by refine zz ?_;exact bk' 0 hn hlt)
 rw[List.drop_of_length_le om] at hk2;refine Bd<|As<|As<|Bp<|An<|wo<|Ad rz<|rT'<|?_;rw[hk2];rfl
def Uw (s:Src):Bool:=s.2.1.any (λz=>decide (8<z.2.length))||decide (40<s.1.length)||decide (20<s.2.1.length)||decide (20<s.2.2.length)
def many_b {a:List Rul}{z:List Zon}{l:List Lnk}:Ac 157 [.agg [.sl a.length 11 false (rows rulC a),.sl z.length 2 false (rows zonC z),.sl l.length 2 false (rows lnkC l)]] h (bv (Uw (a,z,l))):=by
 refine tI' k157 λN hn hlt _ hbd=>?_;simp only[tb'] at hbd ⊢;refine wr'<|E' (Bq cv rfl hl0 ha0) pt<|ms<|Ab<|wr'<|fq<|Vw (Aa lk gx gt1)<|Vw (Bf lk)<|mw<|Am<|?_;refine An<|Ah<|?_;refine w_lp (ι:=Nat) (λ(k:Nat)=>[(8,iv (k:Int)),(2,.any),(4,.any)]++rn' 9 8) (λ(k:Nat)=>[]) (λ(k:Nat)=>k<=z.length/\(z.take k).any (λz=>decide (8<z.2.length))=false) (λ(k:Nat)=>z.length-k) (0) (by exact⟨Nat.zero_le _,rfl⟩) ?_;rintro k hi1;try simp only[sm',Nat.reduceAdd]
 obtain⟨hk1,hk2⟩:=hi1;refine wr'<|Vw (Bm lk lk)<|sn'<|Ab<|?_;refine cd' lk (λhc1=>?_) (λhc1=>?_)
 .have hk:k<z.length:=by omega
  refine za<|Ab<|Ah<|wr'<|?_;refine V' (Bh lk lk Ho nb ro om ro rfl) pt ?_;refine Vw (Ax lk Ce rfl)<|E' (Bz hl1 ha1) pt<|E' (Ai lk cv gx rfl nb rfl Cc hs1) ptn<|sn'<|wr'<|fq<|Vw (Aa lk gx gt1)<|?_;refine V' ((by first | exact Bf lk | exact Ej lk)) pt ?_;refine Vw (C7 lk lki)<|sn'<|?_;refine cd' lk (λhc2=>?_) (λhc2=>?_)
  .have hA:z.any (λz=>decide (8<z.2.length))=true:=List.any_eq_true.2 ⟨z[k],List.getElem_mem hk,decide_eq_true om⟩;refine wo<|Au<|Ag<|Ag<|Au<|Ag<|Ad rz<|rT'<|?_;refine bvx ?_;unfold Uw;rw[hA];simp
  refine Be<|Aw<|An<|Aq<|?_;refine ad<|mw<|Am<|Az<|?_;refine lU' (k+1) (by (try dsimp only);exact⟨by omega,by rw[List.take_succ_eq_append_getElem hk,List.any_append,hk2];simp;omega⟩) (by refine zz ?_;exact bk' 1 hn hlt)
 rw[List.take_of_length_le om] at hk2;refine Bd<|As<|As<|Bp<|An<|wr'<|fq<|Vw (Aa lk gx gt0)<|Vw (Bf lk)<|Vw (C7 lk lki)<|mw<|?_;refine sp' (t:=21) gt pt pt (λhg21=>?_) (λhg21=>?_)
 .refine so<|so<|so<|so<|Vw (Ar lk lkb)<|mw<|so<|so<|so<|so<|Vw (Ar lk lkb)<|ms<|?_;refine C4<|Ad rz<|rT'<|?_;refine bvx ?_;unfold Uw;rw[hk2];rw[Bool.eq_iff_iff];simp;omega
 refine sd<|fq<|sd<|Vw (Aa lk gx gt1)<|sd<|Vw (Bf lk)<|sd<|Vw (C7 lk lki)<|Vw (Ao lk lk)<|mw<|?_;refine sp' (t:=27) gt pt pt (λhg27=>?_) (λhg27=>?_)
 .refine so<|so<|so<|so<|Vw (Ar lk lkb)<|mr<|Ad rz<|rT'<|?_;refine bvx ?_;unfold Uw;rw[hk2];rw[Bool.eq_iff_iff];simp;omega
 refine sd<|fq<|sd<|Vw (Aa lk gx gt2)<|sd<|Vw (Bf lk)<|sd<|Vw (C7 lk lki)<|Vw (Ao lk lk)<|mr<|Ad rz<|?_;refine rT' ?_;refine bvx ?_;unfold Uw;rw[hk2];rw[Bool.eq_iff_iff];simp;omega
def Sb (s:Src):Prop:=(∀ r∈s.1,r.1.size<=maxLen/\r.2.2.2.2.2.2.2.2.size<=maxLen)/\(∀ z∈s.2.1,z.1.size<=maxLen /\ ∀ x∈z.2,okEra x) /\ ∀ l∈s.2.2,l.1.size<=maxLen/\l.2.size<=maxLen
def Gx (s:Src):Int:=if Uw s=true then 2 else if Dc Dd s.1≠0 then Dc Dd s.1 else if Dc N3 s.2.1≠0 then Dc N3 s.2.1 else Dc On s.2.2
def scheck_b {a:List Rul}{z:List Zon}{l:List Lnk}(hok:Sb (a,z,l)):Ac 102 [.agg [.sl a.length 11 false (rows rulC a),.sl z.length 2 false (rows zonC z),.sl l.length 2 false (rows lnkC l)]] h (iv (Gx (a,z,l))):=by
 have p1 : ∀ x∈a,∀ h:AH,ACalls Tryz.prog 159 [.agg (rulC x)] h λy h'=>h'=h/\y=.ret (iv (Dd x)):=λx hx h=>rule_b (hok.1 x hx).1 (hok.1 x hx).2;have p2 : ∀ x∈z,∀ h:AH,ACalls Tryz.prog 161 [.agg (zonC x)] h λy h'=>h'=h/\y=.ret (iv (N3 x)):=λx hx h=>zone_b (hok.2.1 x hx).1 (hok.2.1 x hx).2;have p3 : ∀ x∈l,∀ h:AH,ACalls Tryz.prog 163 [.agg (lnkC x)] h λy h'=>h'=h/\y=.ret (iv (On x)):=λx hx h=>link_b (hok.2.2 x hx).1 (hok.2.2 x hx).2;refine tI' k102 λN hn _ _ hbd=>?_;simp only[tb'] at hbd ⊢;refine wr'<|E' (Bq cv rfl hl0 ha0) pt<|ms<|Ab<|wr'<|Vw (Ak lk gx Ap rfl)<|Af mp (many_b) pt<|sn'<|?_;refine Bg lk (λhc1=>?_) (λhc1=>?_)
 .refine wo<|Ag<|Ad rz<|rT'<|?_;refine ivx ?_;unfold Gx;simp_all
 refine za<|wr'<|fq<|Vw (Aa lk gx gt0)<|Af mp (mJ p1) pt<|ms<|Ab<|wm<|?_;refine Vw (Cy lk lki)<|sn'<|?_;refine cd' lk (λhc2=>?_) (λhc2=>?_)
 .refine Aq<|fq<|Vw (Aa lk gx gt1)<|Af mp (mI p2) pt<|ms<|Ab<|wm<|Vw (Cy lk lki)<|sn'<|?_;refine cd' lk (λhc3=>?_) (λhc3=>?_)
  .refine Aq<|fq<|Vw (Aa lk gx gt2)<|Af mp (Yb p3) pt<|ms<|wm<|mr<|?_;refine Ad rz<|rT'<|?_;refine ivx ?_;unfold Gx;simp_all
  refine za<|wm<|mr<|Ad rz<|rT'<|?_;refine ivx ?_;unfold Gx;simp_all
 refine za<|Ab<|wm<|Vw (Cy lk lki)<|sn'<|?_;refine cd' lk (λhc3=>?_) (λhc3=>?_)
 .refine Aq<|fq<|Vw (Aa lk gx gt2)<|Af mp (Yb p3) pt<|ms<|wm<|mr<|?_;refine Ad rz<|rT'<|?_;refine ivx ?_;unfold Gx;simp_all
 refine za<|wm<|mr<|Ad rz<|rT'<|?_;refine ivx ?_;unfold Gx;simp_all
end
section
open Go.Ab
abbrev TS:=List ByteArray×Bool
def bind2 {α β:Type}(f:TS->α×TS) (k:α->TS->β×TS) (t:TS):β×TS:=k (f t).1 (f t).2
def ret2 {α:Type}(a:α) (t:TS):α×TS:=(a,t)
abbrev RM (α:Type):=List ByteArray->Option (α×List ByteArray)
def bindR {α β:Type}(f:RM α) (k:α->RM β):RM β:=λl=>match f l with
 | none=>none
 | some p=>k p.1 p.2
def retR {α:Type}(a:α):RM α:=λl=>some (a,l)
def Agr {α:Type}(f:TS->α×TS) (g:RM α):Prop := ∀ l,(f (l,true)).2.2=true/\match g l with
 | none=>(f (l,false)).2.2=true
 | some p=>f (l,false)=(p.1,p.2,false)
def Agr.bind {α β:Type}{f:TS->α×TS}{g:RM α}{k:α->TS->β×TS}{m:α->RM β}(h:Agr f g) (hk : ∀ a,Agr (k a) (m a)):Agr (bind2 f k) (bindR g m):=by
 have stay : ∀ (a:α) (t:TS),t.2=true->(k a t).2.2=true:=by
  rintro a ⟨l,b⟩ rfl;exact (hk a l).1
 intro l;refine⟨stay _ _ (h l).1,?_⟩;have h2:=(h l).2;unfold bindR bind2;revert h2;cases hg:g l with
 | none=>exact λh2=>stay _ _ h2
 | some p=>intro h2;simp only at h2;rw[h2];exact (hk p.1 p.2).2
def Agr.ret {α:Type}(a:α):Agr (ret2 a) (retR a):=λl=>⟨rfl,rfl⟩
end
section
open Go.Ab
def refN (n:Int):Bool:=letB n||digB n||decide (n=95)||decide (n=45)||decide (n=47)||decide (n=43)
def sY (c:UInt8):Uu c.toNat=refN c.toNat:=by
 have hc:((c.toNat:Int).toNat.toUInt8)=c:=by simp
 unfold Uu refN;rw[hc,<-Lib.contains_iff_indexByte];have e : ∀ x:UInt8,decide ((c.toNat:Int)=(x.toNat:Int))=(c==x):=by
  intro x;rw[Bool.eq_iff_iff,decide_eq_true_iff,beq_iff_eq];exact⟨λh=>UInt8.toNat_inj.1 om,λh=>by rw[h]⟩
 rw[show (95:Int)=((95:UInt8).toNat:Int) from rfl,show (45:Int)=((45:UInt8).toNat:Int) from rfl,show (47:Int)=((47:UInt8).toNat:Int) from rfl,show (43:Int)=((43:UInt8).toNat:Int) from rfl,e,e,e,e];simp[List.contains_cons,Bool.or_assoc] <;> rfl
end
section
open Go.Ab Go.RowKit Civ
def k77:=Kx 77 []
def k78:=Kx 78 []
def k36:=Kx 36 []
def k143:=Kx 143 []
def Oe (h0:0<=n) (h1:n<=255):Ac 77 [uv n] h (bv (letB n)):=by
 refine tI' k77 λN hn _ _ hbd=>?_;simp only[tb'] at hbd ⊢;refine wk'<|wm<|?_;refine V' (Vp lk om om) pt ?_;refine Af mp (Lq) pt<|mw<|?_;refine Cz (t:=6) gt pt pt (λhg6=>?_) (λhg6=>?_)
 .refine so<|so<|so<|Vw (Ar lk lkb)<|mr<|Ad rz<|rT'<|?_;refine bvx ?_;unfold wi at *;unfold letB;rw[Bool.eq_iff_iff];simp at *;omega
 refine sd<|mw<|sd<|?_;refine V' (Vp lk om om) pt ?_;refine sd<|Af mp (Lq) pt<|Vw (Ao lk lk)<|mr<|Ad rz<|rT'<|?_;refine bvx ?_;unfold wi at *;unfold letB;rw[Bool.eq_iff_iff];simp at *;omega
def Xb (h0:0<=n) (h1:n<=255):Ac 78 [uv n] h (bv (digB n)):=by
 refine tI' k78 λN hn _ _ hbd=>?_;simp only[tb'] at hbd ⊢;refine wk'<|wm<|?_;refine V' (Vp lk om om) pt ?_;refine Af mp (Lq) pt<|mr<|Ad rz<|rT'<|?_;refine bvx ?_;unfold wi digB;rw[Bool.eq_iff_iff];simp
def Wb (s:ByteArray) (k:Nat):(0:Int)<=((Dy s k).toNat:Int)/\((Dy s k).toNat:Int)<=255:=by
 have:=(Dy s k).toNat_lt;omega
def fQ (hs:s.size<=maxLen):Ac 143 [sv s] h (bv (allB Ec s)):=by
 have hm:s.size<=9223372036854775807:=by simpa [maxLen] using hs
 refine tI' k143 λN hn _ _ hbd=>?_;simp only[tb'] at hbd ⊢;refine wk'<|Ab<|wk'<|Ah<|?_;refine w_lp (ι:=Nat) (λ(k:Nat)=>[(3,iv (k:Int)),(2,.any)]++rn' 4 30) (λ(k:Nat)=>[]) (λ(k:Nat)=>k<=s.size /\ ∀ j (hj:j<s.size),j<k->Ec s[j].toNat=true) (λ(k:Nat)=>s.size-k) (0) (by exact⟨by omega,λj hj h0=>absurd h0 om⟩) ?_;rintro k hi1;try simp only[sm',Nat.reduceAdd]
 obtain⟨hk1,hk2⟩:=hi1;refine Ab<|wm<|mw<|Vw (E6 lk)<|Vw (Bm lk lk)<|sn'<|?_;refine cd' lk (λhc1=>?_) (λhc1=>?_)
 .have hk:k<s.size:=by omega
  have hb:=Wb s k;have hbk:Dy s k=s[k]:=Ji hk;refine za<|Ab<|Ah<|wm<|mw<|?_;refine V' (v_ix lk lk om om) pt ?_;refine Af mp (Oe hb.1 hb.2) pt<|Vw (Bj lk)<|mw<|?_;refine Cz (t:=15) gt pt pt (λhg15=>?_) (λhg15=>?_)
  .refine sd<|mw<|sd<|mw<|sd<|?_;refine V' (v_ix lk lk om om) pt ?_;refine sd<|Af mp (Xb hb.1 hb.2) pt<|sd<|Vw (Bj lk)<|Vw (Ar lk lk)<|mw<|?_;refine Cz (t:=22) gt pt pt (λhg22=>?_) (λhg22=>?_)
   .refine sd<|mw<|sd<|mw<|sd<|?_;refine V' (v_ix lk lk om om) pt ?_;refine sd<|Vw (Ca lk lki)<|Vw (Ar lk lk)<|mw<|?_;refine sp' (t:=28) gt pt pt (λhg28=>?_) (λhg28=>?_)
    .refine sd<|mw<|sd<|mw<|sd<|?_;refine V' (v_ix lk lk om om) pt ?_;refine sd<|Vw (Ca lk lki)<|Vw (Ar lk lk)<|sn'<|?_;refine cd' lk (λhc2=>?_) (λhc2=>?_)
     .refine wo<|Au<|Ag<|Ag<|Au<|Ag<|Ad rz<|rT'<|?_;refine bvx ?_;rw[eN (k:=k) hk (by rw[<-hbk];unfold Ec;simp at *;simp_all)]
     refine Be<|Aw<|An<|Aq<|mw<|?_;refine ad<|mw<|Am<|Az<|?_;refine lT' (k+1) (by (try dsimp only);refine⟨by omega,λj hj h0=>?_⟩;rcases Nat.lt_or_ge j k with e | e;exact hk2 j hj e;obtain rfl:j=k:=om;rw[<-hbk];unfold Ec;simp_all)
    refine so<|so<|so<|so<|Vw (Ao lk lkb)<|sn'<|Cf lk<|Be<|Aw<|An<|Aq<|mw<|?_;refine ad<|mw<|Am<|Az<|?_;refine lT' (k+1) (by (try dsimp only);refine⟨by omega,λj hj h0=>?_⟩;rcases Nat.lt_or_ge j k with e | e;exact hk2 j hj e;obtain rfl:j=k:=om;rw[<-hbk];unfold Ec;simp_all)
   refine so<|so<|so<|so<|Vw (Ao lk lkb)<|mw<|so<|so<|so<|so<|Vw (Ao lk lkb)<|sn'<|Cf lk<|?_;refine Be<|Aw<|An<|Aq<|mw<|?_;refine ad<|mw<|Am<|Az<|?_;refine lT' (k+1) (by (try dsimp only);refine⟨by omega,λj hj h0=>?_⟩;rcases Nat.lt_or_ge j k with e | e;exact hk2 j hj e;obtain rfl:j=k:=om;rw[<-hbk];unfold Ec;simp_all)
  refine so<|so<|so<|so<|so<|Vw (Ao lk lkb)<|mw<|so<|so<|so<|so<|Vw (Ao lk lkb)<|mw<|so<|?_;refine so<|so<|so<|Vw (Ao lk lkb)<|sn'<|Cf lk<|Be<|Aw<|An<|Aq<|mw<|?_;refine ad<|mw<|Am<|Az<|?_;refine lT' (k+1) (by (try dsimp only);refine⟨by omega,λj hj h0=>?_⟩;rcases Nat.lt_or_ge j k with e | e;exact hk2 j hj e;obtain rfl:j=k:=om;rw[<-hbk];unfold Ec;simp_all)
 refine Bd<|As<|As<|Bp<|An<|wo<|Ad rz<|rT'<|?_;refine bvx ?_;rw[Yy λj hj=>hk2 j hj om]
def Z0 (hs:s.size<=maxLen):Ac 36 [sv s] h (bv (D3 s)):=by
 have hm:s.size<=9223372036854775807:=by simpa [maxLen] using hs
 have hem:=Yi (f:=s);have hb0:=Wb s 0;refine tI' k36 λN hn _ _ hbd=>?_;simp only[tb'] at hbd ⊢;refine wk'<|Ab<|wm<|Vw (J6 lk lks)<|mw<|?_;refine sp' (t:=7) gt pt pt (λhg7=>?_) (λhg7=>?_)
 .refine so<|so<|so<|Vw (Ar lk lkb)<|mw<|so<|so<|so<|so<|Vw (Ar lk lkb)<|sn'<|Cx lk<|Ab<|?_;refine Aq<|mr<|Ag<|Ad rz<|rT'<|?_;refine bvx ?_;unfold D3;simp[hem.1 hg7]
 have hne:s.size≠0:=λe=>hg7 (hem.2 e);refine sd<|mw<|sd<|Vw (E6 lk)<|sd<|Vw (C7 lk lki)<|Vw (Ao lk lk)<|mw<|?_;refine sp' (t:=12) gt pt pt (λhg12=>?_) (λhg12=>?_)
 .refine so<|so<|so<|so<|Vw (Ar lk lkb)<|sn'<|Cx lk<|wo<|?_;refine Ag<|Ad rz<|rT'<|?_;refine bvx ?_;unfold D3;simp;omega
 refine sd<|mw<|sd<|?_;refine V' (v_ix lk lki om om) pt ?_;refine sd<|Af mp (Oe hb0.1 hb0.2) pt<|sd<|Vw (Bj lk)<|Vw (Ao lk lk)<|sn'<|?_;refine Bg lk (λhc1=>?_) (λhc1=>?_)
 .refine wo<|Ag<|Ad rz<|rT'<|?_;refine bvx ?_;unfold D3;simp_all
 have hz:s.size<=24:=by omega
 have hL:letB (Dy s 0).toNat=true:=by simpa using hc1
 refine za<|Ab<|wk'<|Ah<|?_;refine w_lp (ι:=Nat) (λ(k:Nat)=>[(3,iv (k:Int)),(2,.any),(4,.any)]++rn' 18 33) (λ(k:Nat)=>[]) (λ(k:Nat)=>k<=s.size /\ ∀ j (hj:j<s.size),j<k->Uu s[j].toNat=true) (λ(k:Nat)=>s.size-k) (0) (by exact⟨by omega,λj hj h0=>absurd h0 om⟩) ?_;rintro k hi1;try simp only[sm',Nat.reduceAdd]
 obtain⟨hk1,hk2⟩:=hi1;refine Ab<|wm<|mw<|Vw (E6 lk)<|Vw (Bm lk lk)<|sn'<|?_;refine cd' lk (λhc2=>?_) (λhc2=>?_)
 .have hk:k<s.size:=by omega
  have hb:=Wb s k;have hbk:Dy s k=s[k]:=Ji hk;have hR:=sY (Dy s k);refine za<|Ab<|Ah<|wm<|mw<|?_;refine V' (v_ix lk lk om om) pt ?_;refine ms<|wm<|Af mp (Oe hb.1 hb.2) pt<|Vw (Bj lk)<|mw<|?_;refine Cz (t:=30) gt pt pt (λhg30=>?_) (λhg30=>?_)
  .refine sd<|mw<|sd<|Af mp (Xb hb.1 hb.2) pt<|sd<|Vw (Bj lk)<|Vw (Ar lk lk)<|mw<|?_;refine Cz (t:=35) gt pt pt (λhg35=>?_) (λhg35=>?_)
   .refine sd<|mw<|sd<|Vw (Ca lk lki)<|Vw (Ar lk lk)<|mw<|?_;refine sp' (t:=39) gt pt pt (λhg39=>?_) (λhg39=>?_)
    .refine sd<|mw<|sd<|Vw (Ca lk lki)<|Vw (Ar lk lk)<|mw<|?_;refine sp' (t:=43) gt pt pt (λhg43=>?_) (λhg43=>?_)
     .refine sd<|mw<|sd<|Vw (Ca lk lki)<|Vw (Ar lk lk)<|mw<|?_;refine sp' (t:=47) gt pt pt (λhg47=>?_) (λhg47=>?_)
      .refine sd<|mw<|sd<|Vw (Ca lk lki)<|Vw (Ar lk lk)<|sn'<|?_;refine cd' lk (λhc3=>?_) (λhc3=>?_)
       .refine wo<|Au<|Ag<|Ag<|Au<|Ag<|Ad rz<|rT'<|?_;refine bvx ?_;unfold D3;rw[eN (k:=k) hk (by rw[<-hbk,hR];unfold refN;simp_all)];simp
       refine Be<|Aw<|An<|Aq<|mw<|?_;refine ad<|mw<|Am<|Az<|?_;refine lT' (k+1) (by (try dsimp only);refine⟨by omega,λj hj h0=>?_⟩;rcases Nat.lt_or_ge j k with e | e;exact hk2 j hj e;obtain rfl:j=k:=om;rw[<-hbk,hR];unfold refN;simp_all)
      refine so<|so<|Vw (Ao lk lkb)<|sn'<|Cf lk<|Be<|Aw<|An<|Aq<|mw<|?_;refine ad<|mw<|Am<|Az<|?_;refine lT' (k+1) (by (try dsimp only);refine⟨by omega,λj hj h0=>?_⟩;rcases Nat.lt_or_ge j k with e | e;exact hk2 j hj e;obtain rfl:j=k:=om;rw[<-hbk,hR];unfold refN;simp_all)
     refine so<|so<|Vw (Ao lk lkb)<|mw<|so<|so<|Vw (Ao lk lkb)<|sn'<|Cf lk<|Be<|Aw<|An<|Aq<|?_;refine mv' lk pt ?_;refine ad<|mw<|Am<|Az<|?_;refine lT' (k+1) (by (try dsimp only);refine⟨by omega,λj hj h0=>?_⟩;rcases Nat.lt_or_ge j k with e | e;exact hk2 j hj e;obtain rfl:j=k:=om;rw[<-hbk,hR];unfold refN;simp_all)
    refine so<|so<|Vw (Ao lk lkb)<|mw<|so<|so<|Vw (Ao lk lkb)<|mw<|so<|so<|Vw (Ao lk lkb)<|sn'<|Cf lk<|?_;refine Be<|Aw<|An<|Aq<|mw<|?_;refine ad<|mw<|Am<|Az<|?_;refine lT' (k+1) (by (try dsimp only);refine⟨by omega,λj hj h0=>?_⟩;rcases Nat.lt_or_ge j k with e | e;exact hk2 j hj e;obtain rfl:j=k:=om;rw[<-hbk,hR];unfold refN;simp_all)
   refine so<|so<|Vw (Ao lk lkb)<|mw<|so<|so<|Vw (Ao lk lkb)<|mw<|so<|so<|Vw (Ao lk lkb)<|mw<|so<|so<|?_;refine Vw (Ao lk lkb)<|sn'<|Cf lk<|Be<|Aw<|An<|Aq<|mw<|?_;refine ad<|mw<|Am<|Az<|?_;refine lT' (k+1) (by (try dsimp only);refine⟨by omega,λj hj h0=>?_⟩;rcases Nat.lt_or_ge j k with e | e;exact hk2 j hj e;obtain rfl:j=k:=om;rw[<-hbk,hR];unfold refN;simp_all)
  refine so<|so<|so<|Vw (Ao lk lkb)<|mw<|so<|so<|Vw (Ao lk lkb)<|mw<|so<|so<|Vw (Ao lk lkb)<|mw<|so<|?_;refine so<|Vw (Ao lk lkb)<|mw<|so<|so<|Vw (Ao lk lkb)<|sn'<|Cf lk<|Be<|Aw<|An<|Aq<|mw<|?_;refine ad<|mw<|Am<|Az<|?_;refine lT' (k+1) (by (try dsimp only);refine⟨by omega,λj hj h0=>?_⟩;rcases Nat.lt_or_ge j k with e | e;exact hk2 j hj e;obtain rfl:j=k:=om;rw[<-hbk,hR];unfold refN;simp_all)
 refine Bd<|As<|As<|Bp<|An<|wo<|Ad rz<|rT'<|?_;refine bvx ?_;unfold D3;rw[Yy λj hj=>hk2 j hj om,hL];simp[hne,hz]
end
section
open Go.Ab Civ
attribute [local simp] Cp
def k81:=Kx 81 []
def k82:=Kx 82 []
def k79:=Kx 79 []
def c37:AC:=(Sr [Oo 1 (.box 30 4 (t 0)),Mc 2 0] (.seq (Sr [Fa 8 3 1,Ld 9 8,Oo 10 (.len false (t 9)),Bc 11 .gtr 10 1000] (Cd 11 (Sr [Mc 2 2] .ret) .skip)) (Sr [Fa 12 0 1,Oo 13 (.load true 3 (t 12)),Cl 14 79 [(t 13)],Mv 3 14] (.seq (Sr [Mv 15 3,Bc 16 .neq 15 0] (Cd 16 (Sr [Mv 17 3,Mv 2 17] .ret) .skip)) (Sr [Fa 18 0 1,Oo 19 (.load true 3 (t 18)),Oo 4 (.new 27 3 [(iv 0),(iv 0),Ss]),⟨none,none,(.store 3 (t 4) (t 19))⟩] (.seq (Sr [Mc 5 0] (.block 0 (.loop (.seq (Sr [Mv 20 5,Fa 21 3 1,Ld 22 21,Oo 23 (.len false (t 22)),Bn 24 .lss 20 23] (Cd 24 .skip (.exit 0))) (.seq (.block 1 (Sr [Fa 27 3 1,Ld 28 27,Mv 29 5,Oo 30 (.ia 4 (t 28) (t 29)),Oo 31 (.load true 4 (t 30)),Oo 6 (.new 86 4 [(iv 0),(iv 0),(iv 0),Ss]),⟨none,none,(.store 4 (t 6) (t 31))⟩] (.seq (Sd [Fa 32 0 6,Ld 33 32,Cl 34 81 [],Cl 35 82 [],Cl 36 80 [(t 33),(t 34),(t 35)],Oo 37 (.un .not (t 36))] (Cd 37 (Sr [Mc 2 3] .ret) .skip)) (.seq (Sd [Mv 38 5,Bc 39 .gtr 38 0,Mv 40 39,Ot 41 40 (.fa 0 (t 6)),Ot 42 40 (.load false 1 (t 41)),Ot 43 40 (.fa 3 (t 1)),Ot 44 40 (.load false 1 (t 43)),Ot 45 40 (mt 5),Ot 46 40 (.bin .sub (t 45) (Ci 1)),Ot 47 40 (.ia 4 (t 44) (t 46)),Ot 48 40 (.fa 0 (t 47)),Ot 49 40 (.load false 1 (t 48)),Ot 50 40 (.bin .leq (t 42) (t 49)),Oo 51 (.pick (t 40) (t 50) (.const (.bool false)))] (Cd 51 (Sr [Mc 2 4] .ret) .skip)) (Sr [Fa 52 1 6,Oo 53 (.load true 3 (t 52)),Cl 54 79 [(t 53)],Mv 7 54] (.seq (Sr [Mv 55 7,Bc 56 .neq 55 0] (Cd 56 (Sr [Mv 57 7,Mv 2 57] .ret) .skip)) (.seq (Sr [Fa 58 1 6,Oo 59 (.load true 3 (t 58)),Oo 60 (.load true 3 (t 4)),Oo 61 (.eqs false [.int,.int,.str] (t 59) (t 60))] (Cd 61 (Sr [Mc 2 4] .ret) .skip)) (.reg [Fa 62 1 6,Oo 63 (.load true 3 (t 62)),⟨none,none,(.store 3 (t 4) (t 63))⟩])))))))) (.reg [Mv 25 5,Bc 26 .add 25 1,Mv 5 26])))))) (Sr [Mc 2 0] .ret)))))))
def k37:Em Tryz.prog 37=some ⟨c37,[(.tmp 2)],64⟩:=by kernel_rfl
def c23:AC:=(Sr [Oo 2 (.box 30 4 (t 0)),Oo 3 (.box 30 4 (t 1)),Mb 4 false] (.seq (Sr [Fa 6 0 2,Oo 7 (.load true 3 (t 6)),Fa 8 0 3,Oo 9 (.load true 3 (t 8)),Oo 10 (.eqs true [.int,.int,.str] (t 7) (t 9)),Mv 11 10,Of 12 11 (.fa 3 (t 2)),Of 13 11 (.load false 1 (t 12)),Of 14 11 (.len false (t 13)),Of 15 11 (.fa 3 (t 3)),Of 16 11 (.load false 1 (t 15)),Of 17 11 (.len false (t 16)),Of 18 11 (.bin .neq (t 14) (t 17)),Oo 19 (.pick (t 11) (.const (.bool true)) (t 18))] (Cd 19 (Sr [Mb 4 false] .ret) .skip)) (.seq (Sr [Mc 5 0] (.block 0 (.loop (.seq (Sr [Mv 20 5,Fa 21 3 2,Ld 22 21,Oo 23 (.len false (t 22)),Bn 24 .lss 20 23] (Cd 24 .skip (.exit 0))) (.seq (.block 1 (Sd [Fa 27 3 2,Ld 28 27,Mv 29 5,Oo 30 (.ia 4 (t 28) (t 29)),Oo 31 (.load true 4 (t 30)),Fa 32 3 3,Ld 33 32,Mv 34 5,Oo 35 (.ia 4 (t 33) (t 34)),Oo 36 (.load true 4 (t 35)),Oo 37 (.eqs true [.int,.int,.int,.str] (t 31) (t 36))] (Cd 37 (Sr [Mb 4 false] .ret) .skip))) (.reg [Mv 25 5,Bc 26 .add 25 1,Mv 5 26])))))) (Sr [Mb 4 true] .ret))))
def k23:Em Tryz.prog 23=some ⟨c23,[(.tmp 4)],38⟩:=by kernel_rfl
def tS (hs:s.size<=maxLen:=by first | assumption | omega):Ac 143 [sv s] h (bv (allB Ec s)):=fQ hs
def Qu :Ac 81 [] h (iv (-62135596800)):=by
 refine tI' k81 λN hn _ _ hbd=>?_;simp only[tb'] at hbd ⊢;refine wk'<|wr'<|Af mp0 (fR) pt<|?_;refine V' (J8 lk lki om om) pt ?_;exact mr<|Ad rz<|rT' rfl
def Zy :Ac 82 [] h (iv 253402300799):=by
 refine tI' k82 λN hn _ _ hbd=>?_;simp only[tb'] at hbd ⊢;refine wk'<|wr'<|Af mp0 (oO) pt<|?_;refine V' (J8 lk lki om om) pt ?_;refine V' (Du lk lki om om) pt ?_;exact mr<|Ad rz<|rT' rfl
def Hq {a b:Int}(hs:s.size<=maxLen:=by first | assumption | omega):Ac 79 [.agg [iv a,iv b,sv s]] h (iv (locE (a,b,s))):=by
 refine tI' k79 λN hn _ _ hbd=>?_;simp only[tb'] at hbd ⊢;refine wr'<|E' (Bq cv rfl hl0 ha0) pt<|ms<|Ab<|wr'<|fq<|Vw (Aa lk gx gt0)<|Af mp (Er) pt<|Vw (Bj lk)<|mw<|?_;refine Cz (t:=7) gt pt pt (λhg7=>?_) (λhg7=>?_)
 .refine so<|so<|so<|so<|Vw (Ar lk lkb)<|sn'<|Cx lk<|wo<|?_;refine Ag<|Ad rz<|rT'<|?_;refine ivx ?_;unfold locE;simp_all [wi];try omega
 refine sd<|fq<|sd<|Vw (Aa lk gx gt1)<|sd<|Af mp (Er) pt<|sd<|Vw (Bj lk)<|Vw (Ao lk lk)<|sn'<|?_;refine Bg lk (λhc1=>?_) (λhc1=>?_)
 .refine wo<|Ag<|Ad rz<|rT'<|?_;refine ivx ?_;unfold locE;simp_all [wi];try omega
 refine za<|Ab<|wr'<|fq<|Vw (Aa lk gx gt2)<|Vw (v_eqlE lk)<|mw<|?_;refine sp' (t:=16) gt pt pt (λhg16=>?_) (λhg16=>?_)
 .refine so<|so<|so<|so<|Vw (Ar lk lkb)<|mw<|so<|so<|so<|so<|Vw (Ar lk lkb)<|sn'<|Cx lk<|?_;refine wo<|Ag<|Ad rz<|rT'<|?_;refine ivx ?_;unfold locE;simp_all [wi];try omega
 refine sd<|fq<|sd<|Vw (Aa lk gx gt2)<|sd<|Vw (E6 lk)<|sd<|Vw (C7 lk lki)<|Vw (Ao lk lk)<|mw<|?_;refine sp' (t:=22) gt pt pt (λhg22=>?_) (λhg22=>?_)
 .refine so<|so<|so<|so<|Vw (Ar lk lkb)<|sn'<|Cx lk<|wo<|?_;refine Ag<|Ad rz<|rT'<|?_;refine ivx ?_;unfold locE;simp_all [wi];try omega
 refine sd<|fq<|sd<|Vw (Aa lk gx gt2)<|sd<|Af mp (tS) pt<|sd<|Vw (Bj lk)<|Vw (Ao lk lk)<|sn'<|?_;refine Bg lk (λhc2=>?_) (λhc2=>?_)
 .refine wo<|Ag<|Ad rz<|rT'<|?_;refine ivx ?_;unfold locE;simp_all [wi];try omega
 refine za<|wo<|Ad rz<|rT'<|?_;refine ivx ?_;unfold locE;simp_all [wi];try omega
def rcheck_a {a b:Int}{c:ByteArray}{l:List Chg}{full:Bool}(hs:c.size<=maxLen) (hl : ∀ x∈l,x.2.2.2.size<=maxLen) :
  Ac 37 [.agg [iv a,iv b,sv c,.sl l.length 4 full (rows chgC l)]] h (iv (Bw ((a,b,c),l))):=by
 refine tI' k37 λN hn hlt _ hbd=>?_;simp only[tb'] at hbd ⊢;refine wr'<|E' (Bq cv rfl hl0 ha0) pt<|ms<|Ab<|wr'<|fq<|Vw (Aa lk gx gt3)<|Vw (Bf lk)<|Vw (C7 lk lki)<|Am<|?_;refine An ?_;refine cd' lk (λhc1=>?_) (λhc1=>?_)
 .refine wo<|Ag<|Ad rz<|rT'<|?_;refine ivx ?_;rw[Bw,if_pos (by simp only;omega)]
 refine za<|wr'<|fq<|Vw (Ak lk gx Ap rfl)<|Af mp (Hq) pt<|ms<|Ab<|wm<|?_;refine Vw (Ca lk lki)<|sn'<|?_;refine cd' lk (λhc2=>?_) (λhc2=>?_)
 .refine wm<|mr<|Ag<|Ad rz<|rT'<|?_;refine ivx ?_;rw[Bw,if_neg (by simp only;omega),if_pos hc2]
 refine za<|?_;have hE:Bw ((a,b,c),l)=chk (-62135596801) (a,b,c) l:=by rw[Bw,if_neg (by simp only;omega),if_neg (by simpa using hc2)]
 refine wr'<|fq<|Vw (Ak lk gx Ap rfl)<|E' (Bz hl1 ha1) pt<|E' (Ai lk cv gx rfl nb rfl Bo hs1) ptn<|sn'<|Ab<|wk'<|?_;refine Ah ?_;refine w_lp (ι:=Nat×Int×Int×Int×ByteArray) (λ⟨k,wa,ws,wv,wn⟩=>[(5,iv (k:Int)),(2,.any),(6,.any),(7,.any)]++rn' 20 44) (λ⟨k,wa,ws,wv,wn⟩=>[(1,.mk 0 27 3 [iv ws,iv wv,sv wn])]) (λ⟨k,wa,ws,wv,wn⟩=>k<=l.length/\Bw ((a,b,c),l)=chk wa (ws,wv,wn) (l.drop k)/\(k=0->wa = -62135596801) /\ ∀ (h:0<k) (hk:k-1<l.length),wa=l[k-1].1) (λ⟨k,wa,ws,wv,wn⟩=>l.length-k) (⟨0,-62135596801,a,b,c⟩) (by exact⟨by omega,by rw[hE];simp,λ_=>rfl,λh=>absurd h om⟩) ?_;rintro⟨k,wa,ws,wv,wn⟩ hi1;try simp only[sm',Nat.reduceAdd]
 obtain⟨hk1,hk2,hk3,hk4⟩:=hi1;refine Ab<|wm<|fq<|Vw (Aa lk gx gt3)<|Vw (Bf lk)<|Vw (Bm lk lk)<|sn'<|?_;refine cd' lk (λhc3=>?_) (λhc3=>?_)
 .have hk:k<l.length:=by omega
  have hsz:l[k].2.2.2.size<=maxLen:=hl _ (List.getElem_mem hk);rw[List.drop_eq_getElem_cons hk] at hk2;refine za<|Ab<|Ah<|wr'<|fq<|Vw (Aa lk gx gt3)<|mw<|?_;refine V' (Bh lk lk Cg nb ro om ro rfl) pt ?_;refine Vw (Ax lk Bv rfl)<|E' (Bz hl2 ha2) pt<|E' (Ai lk cv gx rfl nb rfl Ay hs2) ptn<|sn'<|Ab<|Ab<|Bl<|dg<|Dw (Aa lk gx gt0)<|?_;refine Br mp0 (λhE hX=>Qu) pt ?_;refine Br mp0 (λhE hX=>Zy) pt ?_;refine Br mp (λhE hX=>Er) pt ?_;refine Dw (Bj lk)<|Bi<|?_;refine B9 ?_;refine sn' ?_;refine Bg lk (λhc4=>?_) (λhc4=>?_)
  .refine wo<|Ag<|Au<|Ag<|Ag<|Au<|Ag<|Ad rz<|rT'<|?_;refine ivx ?_;rw[hk2,Yq (by simpa [Gj] using hc4)]
  have hT:Gj l[k].1=true:=by simpa [Gj] using hc4
  have hT2:=Tg.1 hT;refine za<|Ab<|Ab<|Bl<|Dw vm<|Dw (C7 lk lki)<|Dw vm<|?_;refine dq' (t:=40) gt pt pt (λhg40=>?_) (λhg40=>?_)
  .refine dO<|dg<|dO<|Dw (Aa lk gx gt0)<|dO<|dg<|dO<|Dw (Aa lk gx gt3)<|dO<|Dw vm<|dO<|?_;refine D' (Ch lk lki om om) pt ?_;refine d_do gt ?_;refine D' (Bh (k:=k-1) lk lk Cg nb ro om ro rfl) pt ?_;refine dO<|Dw (Cj lk dp0)<|dO<|Dw (Ba lk gt)<|dO<|Dw (Gy lk lk)<|Dw (Ar lk lk)<|Bi<|?_;refine B9 ?_;refine sn' ?_;refine cd' lk (λhc5=>?_) (λhc5=>?_)
   .refine wo<|Ag<|Au<|Ag<|Ag<|Au<|Ag<|Ad rz<|rT'<|?_;refine ivx ?_;rw[hk2,Yp hT (by have:=hk4 om om;omega)]
   refine za<|wr'<|fq<|Vw (Ak lk gx Dj rfl)<|Af mp (Hq) pt<|ms<|Ab<|wm<|?_;refine Vw (Ca lk lki)<|sn'<|?_;refine cd' lk (λhc6=>?_) (λhc6=>?_)
   .refine wm<|mr<|Ag<|Au<|Ag<|Ag<|Au<|Ag<|Ad rz<|?_;refine rT' ?_;refine ivx ?_;rw[hk2,Rb hT (by rcases Nat.eq_zero_or_pos k with e | e;have:=hk3 e;omega;have:=hk4 e om;omega) hc6]
   refine za<|Ab<|wr'<|fq<|Vw (Ak lk gx Dj rfl)<|Vw (Ak lk gx Ap rfl)<|Vw (Nc lk lk Ft)<|sn'<|?_;refine cd' lk (λhc7=>?_) (λhc7=>?_)
   .refine wo<|Ag<|Au<|Ag<|Ag<|Au<|Ag<|Ad rz<|rT'<|?_;refine ivx ?_;rw[hk2,Ra hT (by rcases Nat.eq_zero_or_pos k with e | e;have:=hk3 e;omega;have:=hk4 e om;omega) (by simpa using hc6) (P0.2 (by obtain⟨x1,x2,x3⟩:=hc7;exact Prod.ext x1 (Prod.ext x2 x3)))]
   refine za<|Aq<|fq<|Vw (Ak lk gx Dj rfl)<|E' (Ai lk cv gx rfl nb rfl Bo hs1) ptn<|Am<|Aw<|An<|Aq<|mw<|?_;refine ad<|mw<|Am<|Az<|?_;refine lU' (⟨k+1,l[k].1,l[k].2.1,l[k].2.2.1,l[k].2.2.2⟩) (by (try dsimp only);refine⟨by omega,?_,λe=>by omega,λh h'=>rfl⟩;rw[hk2,L2 hT (by rcases Nat.eq_zero_or_pos k with e | e;have:=hk3 e;omega;have:=hk4 e om;omega) (by simpa using hc6) (Sl (λe=>hc7 (by rw[e];simp)))]) (by refine zz ?_;exact bk' 2 hn hlt)
  refine dn<|dn<|dn<|dn<|dn<|dn<|dn<|dn<|dn<|dn<|Dw (Ao lk lkb)<|Bi<|?_;refine B9 ?_;refine sn'<|Cf lk<|za<|wr'<|fq<|Vw (Ak lk gx Dj rfl)<|Af mp (Hq) pt<|ms<|Ab<|?_;refine wm<|Vw (Ca lk lki)<|sn'<|?_;refine cd' lk (λhc6=>?_) (λhc6=>?_)
  .refine wm<|mr<|Ag<|Au<|Ag<|Ag<|Au<|Ag<|Ad rz<|?_;refine rT' ?_;refine ivx ?_;rw[hk2,Rb hT (by rcases Nat.eq_zero_or_pos k with e | e;have:=hk3 e;omega;have:=hk4 e om;omega) hc6]
  refine za<|Ab<|wr'<|fq<|Vw (Ak lk gx Dj rfl)<|Vw (Ak lk gx Ap rfl)<|Vw (Nc lk lk Ft)<|sn'<|?_;refine cd' lk (λhc7=>?_) (λhc7=>?_)
  .refine wo<|Ag<|Au<|Ag<|Ag<|Au<|Ag<|Ad rz<|rT'<|?_;refine ivx ?_;rw[hk2,Ra hT (by rcases Nat.eq_zero_or_pos k with e | e;have:=hk3 e;omega;have:=hk4 e om;omega) (by simpa using hc6) (P0.2 (by obtain⟨x1,x2,x3⟩:=hc7;exact Prod.ext x1 (Prod.ext x2 x3)))]
  refine za<|Aq<|fq<|Vw (Ak lk gx Dj rfl)<|E' (Ai lk cv gx rfl nb rfl Bo hs1) ptn<|Am<|Aw<|An<|Aq<|mw<|?_;refine ad<|mw<|Am<|Az<|?_;refine lU' (⟨k+1,l[k].1,l[k].2.1,l[k].2.2.1,l[k].2.2.2⟩) (by (try dsimp only);refine⟨by omega,?_,λe=>by omega,λh h'=>rfl⟩;rw[hk2,L2 hT (by rcases Nat.eq_zero_or_pos k with e | e;have:=hk3 e;omega;have:=hk4 e om;omega) (by simpa using hc6) (Sl (λe=>hc7 (by rw[e];simp)))]) (by refine zz ?_;exact bk' 2 hn hlt)
 refine Bd<|As<|As<|Bp<|An<|wo<|Ad rz<|rT'<|?_;refine ivx ?_;rw[hk2,List.drop_eq_nil_of_le om,qG]
def Zr {l m:List Chg}{k:Nat}(h1:k<l.length) (h2:k<m.length) (h:l.take k=m.take k) (he:l[k]=m[k]):l.take (k+1)=m.take (k+1):=by
 rw[List.take_succ_eq_append_getElem h1,List.take_succ_eq_append_getElem h2,h,he]
def Ry {t u:Tab} :
  Ac 23 [.agg [iv t.1.1,iv t.1.2.1,sv t.1.2.2,.sl t.2.length 4 f1 (rows chgC t.2)],.agg [iv u.1.1,iv u.1.2.1,sv u.1.2.2,.sl u.2.length 4 f2 (rows chgC u.2)]] h (bv (decide (t=u))):=by
 refine tI' k23 λN hn _ _ hbd=>?_;simp only[tb'] at hbd ⊢;refine wr'<|E' (Bq cv rfl hl0 ha0) pt<|E' (Bq cv rfl hl1 ha1) pt<|ms<|Ab<|wr'<|fq<|Vw (Ak lk gx Ap rfl)<|fq<|Vw (Ak lk gx Ap rfl)<|?_;refine Vw (Ma lk lk Ft)<|mw<|?_;refine sp' (t:=11) gt pt pt (λhg11=>?_) (λhg11=>?_)
 .refine so<|so<|so<|so<|so<|so<|so<|Vw (Ar lk lkb)<|sn'<|Cx lk<|wm<|?_;refine sr<|Ag<|Ad rz<|rT'<|?_;refine bvx (decide_eq_false (λe=>hg11 (by rw[e];simp))).symm
 refine sd<|fq<|sd<|Vw (Aa lk gx gt3)<|sd<|Vw (Bf lk)<|sd<|fq<|sd<|Vw (Aa lk gx gt3)<|sd<|Vw (Bf lk)<|sd<|Vw (Ca lk lk)<|?_;refine Vw (Ao lk lk)<|sn'<|?_;refine cd' lk (λhc1=>?_) (λhc1=>?_)
 .refine wo<|Ag<|Ad rz<|rT'<|?_;refine bvx (decide_eq_false (λe=>hc1 (by rw[e]))).symm
 refine za<|Ab<|wk'<|Ah<|?_;refine w_lp (ι:=Nat) (λ(k:Nat)=>[(5,iv (k:Int)),(4,.any)]++rn' 20 18) (λ(k:Nat)=>[]) (λ(k:Nat)=>k<=t.2.length/\t.2.length=u.2.length/\t.1=u.1/\t.2.take k=u.2.take k) (λ(k:Nat)=>t.2.length-k) (0) (by exact⟨by omega,by omega,(by obtain⟨x1,x2,x3⟩:=Decidable.of_not_not hg11;exact Prod.ext x1 (Prod.ext x2 x3)),by simp⟩) ?_;rintro k hi1;try simp only[sm',Nat.reduceAdd]
 obtain⟨hk1,hk2,hk3,hk4⟩:=hi1;refine Ab<|wm<|fq<|Vw (Aa lk gx gt3)<|Vw (Bf lk)<|Vw (Bm lk lk)<|sn'<|?_;refine cd' lk (λhc2=>?_) (λhc2=>?_)
 .refine za<|Ab<|Ah<|Ab<|Bl<|dg<|Dw (Aa lk gx gt3)<|Dw vm<|?_;refine D' (Bh lk lk Cg nb ro om ro rfl) pt ?_;refine Dw (Ax lk Bv rfl)<|dg<|Dw (Aa lk gx gt3)<|Dw vm<|?_;refine D' (Bh lk lk Cg nb ro om ro rfl) pt ?_;refine Dw (Ax lk Bv rfl)<|Dw (Ma lk lk Hz)<|Bi<|?_;refine B9 ?_;refine sn' ?_;refine cd' lk (λhc3=>?_) (λhc3=>?_)
  .refine wo<|Au<|Ag<|Ag<|Au<|Ag<|Ad rz<|rT'<|?_;refine bvx (decide_eq_false (λe=>hc3 (by subst e;simp))).symm
  refine Be<|Aw<|An<|Aq<|mw<|?_;refine ad<|mw<|Am<|Az<|?_;refine lT' (k+1) (by (try dsimp only);exact⟨by omega,hk2,hk3,Zr om om hk4 (Sz (Decidable.of_not_not hc3))⟩)
 refine Bd<|As<|As<|Bp<|An<|wo<|Ad rz<|rT'<|?_;refine bvx (decide_eq_true ?_).symm;rw[List.take_of_length_le om,List.take_of_length_le om] at hk4;exact Prod.ext hk3 hk4
def Cs:Tab:=((3600,0,⟨#[65]⟩),[(100,(7200,3600,⟨#[66]⟩)),(90000,(3600,0,⟨#[65]⟩))])
def Km:okT Cs:=⟨by decide,by decide⟩
end
section
open Go.Ab
attribute [local simp] Eb Fi E5 Dn Cp
def k241:=Kx 241 []
def k170:=Kx 170 []
def k179:=Kx 179 []
def k107:=Kx 107 []
def k90:=Kx 90 []
def k167:=Kx 167 []
def k255:=Kx 255 []
def k139:=Kx 139 []
def K6 {α:Type}{p:α->Bool}{l:List α}{k:Nat}(hk:k<l.length) (h1:p l[k]=true) (h2 : ∀ j (hj:j<k),p (l[j]'(by omega))=false):l.findIdx p=k:=by
 have hlt:l.findIdx p<l.length:=List.findIdx_lt_length.2 ⟨_,List.getElem_mem hk,h1⟩;rcases Nat.lt_trichotomy (l.findIdx p) k with e | e | e
 .have a:=h2 _ e;have b:=List.findIdx_getElem (w:=hlt);rw[a] at b;cases b
 .exact e
 have:=List.not_of_lt_findIdx e;rw[h1] at this;cases this
def idxV {α:Type}(p:α->Bool) (l:List α):Int:=if l.findIdx p<l.length then (l.findIdx p:Int) else -1
def K4 {α:Type}(p:α->Bool) (l:List α):decide (0<=idxV p l)=l.any p:=by
 unfold idxV;rw[Bool.eq_iff_iff,decide_eq_true_iff,List.any_eq_true];split
 .rename_i h;exact⟨λ_=>⟨_,List.getElem_mem h,List.findIdx_getElem (w:=h)⟩,λ_=>by omega⟩
 rename_i h;constructor
 .intro h2;omega
 rintro⟨x,hx,hp⟩;exact absurd (List.findIdx_lt_length.2 ⟨x,hx,hp⟩) h
def Tz {α:Type}{p:α->Bool}{l:List α}:idxV p l<0↔l.any p=false:=by
 rw[<-K4];simp
def ixRulC_a {p:Rul->Bool}{l:List Rul}{full:Bool}(hp : ∀ c∈l,∀ E:AH,ACalls Tryz.prog f ([.agg (rulC c)]++caps) (h++E) λx h'=>h'=h++E/\x=.ret (bv (p c))) (hl:l.length<=9223372036854775807) :
  Ac 241 [.sl l.length 11 full (rows rulC l),.clo (.func f) caps] h (iv (idxV p l)):=by
 refine tI' k241 λN hn _ _ hbd=>?_;simp only[tb'] at hbd ⊢;refine wk'<|Ab<|wm<|Vw (Bf lk)<|ms<|Ah<|?_;refine w_lp (ι:=Nat) (λ(k:Nat)=>[(8,iv (k:Int)),(4,.any),(5,.any)]++rn' 9 10) (λ(k:Nat)=>[]) (λ(k:Nat)=>k<=l.length /\ ∀ j (hj:j<l.length),j<k->p l[j]=false) (λ(k:Nat)=>l.length-k) (0) (by exact⟨by omega,λj hj h0=>absurd h0 om⟩) ?_;rintro k hi1;try simp only[sm',Nat.reduceAdd]
 obtain⟨hk1,hk2⟩:=hi1;refine wr'<|Vw (Bm lk lk)<|sn'<|Ab<|?_;refine cd' lk (λhc1=>?_) (λhc1=>?_)
 .have hk:k<l.length:=by omega
  refine za<|Ab<|Ah<|wm<|ms<|wm<|mw<|?_;refine mv' lk pt ?_;refine V' (Bh lk lk Gk nb ro om ro rfl) pt ?_;refine Vw (Ax lk Jj rfl)<|Rz lk mp (hp l[k] (List.getElem_mem hk) _) pt<|sn'<|?_;refine Bg lk (λhc2=>?_) (λhc2=>?_)
  .refine wm<|mr<|Au<|Ag<|Ag<|Au<|Ag<|Ad rz<|rT'<|?_;refine ivx ?_;have hf:l.findIdx p=k:=K6 hk (by simpa using hc2) (λj hj=>hk2 j om hj);rw[idxV,hf,if_pos hk]
  refine Be<|Aw<|An<|Aq<|?_;refine ad<|mw<|Am<|Az<|?_;refine lT' (k+1) (by (try dsimp only);refine⟨by omega,λj hj h0=>?_⟩;by_cases e:j=k;subst e;simpa using hc2;exact hk2 j hj om)
 refine Bd<|As<|As<|Bp<|An<|wo<|Ad rz<|rT'<|?_;refine ivx ?_;have hf:l.findIdx p=l.length:=List.findIdx_eq_length.2 (λx hx=>by obtain⟨i,hi,rfl⟩:=List.getElem_of_mem hx;exact hk2 i hi om);rw[idxV,hf,if_neg om]
def aS {p:Rul->Bool}{l:List Rul}{full:Bool}(hp : ∀ c∈l,∀ E:AH,ACalls Tryz.prog f ([.agg (rulC c)]++caps) (h++E) λx h'=>h'=h++E/\x=.ret (bv (p c))) (hl:l.length<=9223372036854775807) :
  Ac 170 [.sl l.length 11 full (rows rulC l),.clo (.func f) caps] h (bv (l.any p)):=by
 refine tI' k170 λN hn _ _ hbd=>?_;simp only[tb'] at hbd ⊢;refine wk'<|wm<|mw<|?_;refine Af mp (ixRulC_a (λc hc E=>by have:=hp c hc E;rwa [List.append_nil]) hl) pt ?_;refine Vw (Gz lk lki)<|mr<|Ad rz<|rT'<|?_;exact bvx (by first | exact K4 p l | (rw[<-K4];simp))
def ixZonC_a {p:Zon->Bool}{l:List Zon}{full:Bool}(hp : ∀ c∈l,∀ E:AH,ACalls Tryz.prog f ([.agg (zonC c)]++caps) (h++E) λx h'=>h'=h++E/\x=.ret (bv (p c))) (hl:l.length<=9223372036854775807) :
  Ac 179 [.sl l.length 2 full (rows zonC l),.clo (.func f) caps] h (iv (idxV p l)):=by
 refine tI' k179 λN hn _ _ hbd=>?_;simp only[tb'] at hbd ⊢;refine wk'<|Ab<|wm<|Vw (Bf lk)<|ms<|Ah<|?_;refine w_lp (ι:=Nat) (λ(k:Nat)=>[(8,iv (k:Int)),(4,.any),(5,.any)]++rn' 9 10) (λ(k:Nat)=>[]) (λ(k:Nat)=>k<=l.length /\ ∀ j (hj:j<l.length),j<k->p l[j]=false) (λ(k:Nat)=>l.length-k) (0) (by exact⟨by omega,λj hj h0=>absurd h0 om⟩) ?_;rintro k hi1;try simp only[sm',Nat.reduceAdd]
 obtain⟨hk1,hk2⟩:=hi1;refine wr'<|Vw (Bm lk lk)<|sn'<|Ab<|?_;refine cd' lk (λhc1=>?_) (λhc1=>?_)
 .have hk:k<l.length:=by omega
  refine za<|Ab<|Ah<|wm<|ms<|wm<|mw<|?_;refine mv' lk pt ?_;refine V' (Bh lk lk Ho nb ro om ro rfl) pt ?_;refine Vw (Ax lk Ce rfl)<|Rz lk mp (hp l[k] (List.getElem_mem hk) _) pt<|sn'<|?_;refine Bg lk (λhc2=>?_) (λhc2=>?_)
  .refine wm<|mr<|Au<|Ag<|Ag<|Au<|Ag<|Ad rz<|rT'<|?_;refine ivx ?_;have hf:l.findIdx p=k:=K6 hk (by simpa using hc2) (λj hj=>hk2 j om hj);rw[idxV,hf,if_pos hk]
  refine Be<|Aw<|An<|Aq<|?_;refine ad<|mw<|Am<|Az<|?_;refine lT' (k+1) (by (try dsimp only);refine⟨by omega,λj hj h0=>?_⟩;by_cases e:j=k;subst e;simpa using hc2;exact hk2 j hj om)
 refine Bd<|As<|As<|Bp<|An<|wo<|Ad rz<|rT'<|?_;refine ivx ?_;have hf:l.findIdx p=l.length:=List.findIdx_eq_length.2 (λx hx=>by obtain⟨i,hi,rfl⟩:=List.getElem_of_mem hx;exact hk2 i hi om);rw[idxV,hf,if_neg om]
def ixZonT_a {p:Zon->Bool}{l:List Zon}{full:Bool}(hp : ∀ c∈l,∀ E:AH,ACalls Tryz.prog f [.agg (zonC c)] (h++E) λx h'=>h'=h++E/\x=.ret (bv (p c))) (hl:l.length<=9223372036854775807) :
  Ac 179 [.sl l.length 2 full (rows zonC l),.v (.func (.func f) #[] #[])] h (iv (idxV p l)):=by
 refine tI' k179 λN hn _ _ hbd=>?_;simp only[tb'] at hbd ⊢;refine wk'<|Ab<|wm<|Vw (Bf lk)<|ms<|Ah<|?_;refine w_lp (ι:=Nat) (λ(k:Nat)=>[(8,iv (k:Int)),(4,.any),(5,.any)]++rn' 9 10) (λ(k:Nat)=>[]) (λ(k:Nat)=>k<=l.length /\ ∀ j (hj:j<l.length),j<k->p l[j]=false) (λ(k:Nat)=>l.length-k) (0) (by exact⟨by omega,λj hj h0=>absurd h0 om⟩) ?_;rintro k hi1;try simp only[sm',Nat.reduceAdd]
 obtain⟨hk1,hk2⟩:=hi1;refine wr'<|Vw (Bm lk lk)<|sn'<|Ab<|?_;refine cd' lk (λhc1=>?_) (λhc1=>?_)
 .have hk:k<l.length:=by omega
  refine za<|Ab<|Ah<|wm<|ms<|wm<|mw<|?_;refine mv' lk pt ?_;refine V' (Bh lk lk Ho nb ro om ro rfl) pt ?_;refine Vw (Ax lk Ce rfl)<|Nh lk mp (hp l[k] (List.getElem_mem hk) _) pt<|sn'<|?_;refine Bg lk (λhc2=>?_) (λhc2=>?_)
  .refine wm<|mr<|Au<|Ag<|Ag<|Au<|Ag<|Ad rz<|rT'<|?_;refine ivx ?_;have hf:l.findIdx p=k:=K6 hk (by simpa using hc2) (λj hj=>hk2 j om hj);rw[idxV,hf,if_pos hk]
  refine Be<|Aw<|An<|Aq<|?_;refine ad<|mw<|Am<|Az<|?_;refine lT' (k+1) (by (try dsimp only);refine⟨by omega,λj hj h0=>?_⟩;by_cases e:j=k;subst e;simpa using hc2;exact hk2 j hj om)
 refine Bd<|As<|As<|Bp<|An<|wo<|Ad rz<|rT'<|?_;refine ivx ?_;have hf:l.findIdx p=l.length:=List.findIdx_eq_length.2 (λx hx=>by obtain⟨i,hi,rfl⟩:=List.getElem_of_mem hx;exact hk2 i hi om);rw[idxV,hf,if_neg om]
def tU {p:Zon->Bool}{l:List Zon}{full:Bool}(hp : ∀ c∈l,∀ E:AH,ACalls Tryz.prog f [.agg (zonC c)] (h++E) λx h'=>h'=h++E/\x=.ret (bv (p c))) (hl:l.length<=9223372036854775807) :
  Ac 107 [.sl l.length 2 full (rows zonC l),.v (.func (.func f) #[] #[])] h (bv (l.any p)):=by
 refine tI' k107 λN hn _ _ hbd=>?_;simp only[tb'] at hbd ⊢;refine wk'<|wm<|mw<|?_;refine Af mp (ixZonT_a (λc hc E=>by have:=hp c hc E;rwa [List.append_nil]) hl) pt ?_;refine Vw (Gz lk lki)<|mr<|Ad rz<|rT'<|?_;exact bvx (by first | exact K4 p l | (rw[<-K4];simp))
def X1 {p:Lnk->Bool}{l:List Lnk}{full:Bool}(hp : ∀ c∈l,∀ E:AH,ACalls Tryz.prog f ([.agg (lnkC c)]++caps) (h++E) λx h'=>h'=h++E/\x=.ret (bv (p c))) (hl:l.length<=9223372036854775807) :
  Ac 90 [.sl l.length 2 full (rows lnkC l),.clo (.func f) caps] h (iv (idxV p l)):=by
 refine tI' k90 λN hn _ _ hbd=>?_;simp only[tb'] at hbd ⊢;refine wk'<|Ab<|wm<|Vw (Bf lk)<|ms<|Ah<|?_;refine w_lp (ι:=Nat) (λ(k:Nat)=>[(8,iv (k:Int)),(4,.any),(5,.any)]++rn' 9 10) (λ(k:Nat)=>[]) (λ(k:Nat)=>k<=l.length /\ ∀ j (hj:j<l.length),j<k->p l[j]=false) (λ(k:Nat)=>l.length-k) (0) (by exact⟨by omega,λj hj h0=>absurd h0 om⟩) ?_;rintro k hi1;try simp only[sm',Nat.reduceAdd]
 obtain⟨hk1,hk2⟩:=hi1;refine wr'<|Vw (Bm lk lk)<|sn'<|Ab<|?_;refine cd' lk (λhc1=>?_) (λhc1=>?_)
 .have hk:k<l.length:=by omega
  refine za<|Ab<|Ah<|wm<|ms<|wm<|mw<|?_;refine mv' lk pt ?_;refine V' (Bh lk lk Da nb ro om ro rfl) pt ?_;refine Vw (Ax lk Ce rfl)<|Rz lk mp (hp l[k] (List.getElem_mem hk) _) pt<|sn'<|?_;refine Bg lk (λhc2=>?_) (λhc2=>?_)
  .refine wm<|mr<|Au<|Ag<|Ag<|Au<|Ag<|Ad rz<|rT'<|?_;refine ivx ?_;have hf:l.findIdx p=k:=K6 hk (by simpa using hc2) (λj hj=>hk2 j om hj);rw[idxV,hf,if_pos hk]
  refine Be<|Aw<|An<|Aq<|?_;refine ad<|mw<|Am<|Az<|?_;refine lT' (k+1) (by (try dsimp only);refine⟨by omega,λj hj h0=>?_⟩;by_cases e:j=k;subst e;simpa using hc2;exact hk2 j hj om)
 refine Bd<|As<|As<|Bp<|An<|wo<|Ad rz<|rT'<|?_;refine ivx ?_;have hf:l.findIdx p=l.length:=List.findIdx_eq_length.2 (λx hx=>by obtain⟨i,hi,rfl⟩:=List.getElem_of_mem hx;exact hk2 i hi om);rw[idxV,hf,if_neg om]
def tV {p:Lnk->Bool}{l:List Lnk}{full:Bool}(hp : ∀ c∈l,∀ E:AH,ACalls Tryz.prog f ([.agg (lnkC c)]++caps) (h++E) λx h'=>h'=h++E/\x=.ret (bv (p c))) (hl:l.length<=9223372036854775807) :
  Ac 167 [.sl l.length 2 full (rows lnkC l),.clo (.func f) caps] h (bv (l.any p)):=by
 refine tI' k167 λN hn _ _ hbd=>?_;simp only[tb'] at hbd ⊢;refine wk'<|wm<|mw<|?_;refine Af mp (X1 (λc hc E=>by have:=hp c hc E;rwa [List.append_nil]) hl) pt ?_;refine Vw (Gz lk lki)<|mr<|Ad rz<|rT'<|?_;exact bvx (by first | exact K4 p l | (rw[<-K4];simp))
def ixPrtC_a {p:Chg->Bool}{l:List Chg}{full:Bool}(hp : ∀ c∈l,∀ E:AH,ACalls Tryz.prog f ([.agg (chgC c)]++caps) (h++E) λx h'=>h'=h++E/\x=.ret (bv (p c))) (hl:l.length<=9223372036854775807) :
  Ac 255 [.sl l.length 4 full (rows chgC l),.clo (.func f) caps] h (iv (idxV p l)):=by
 refine tI' k255 λN hn _ _ hbd=>?_;simp only[tb'] at hbd ⊢;refine wk'<|Ab<|wm<|Vw (Bf lk)<|ms<|Ah<|?_;refine w_lp (ι:=Nat) (λ(k:Nat)=>[(8,iv (k:Int)),(4,.any),(5,.any)]++rn' 9 10) (λ(k:Nat)=>[]) (λ(k:Nat)=>k<=l.length /\ ∀ j (hj:j<l.length),j<k->p l[j]=false) (λ(k:Nat)=>l.length-k) (0) (by exact⟨by omega,λj hj h0=>absurd h0 om⟩) ?_;rintro k hi1;try simp only[sm',Nat.reduceAdd]
 obtain⟨hk1,hk2⟩:=hi1;refine wr'<|Vw (Bm lk lk)<|sn'<|Ab<|?_;refine cd' lk (λhc1=>?_) (λhc1=>?_)
 .have hk:k<l.length:=by omega
  refine za<|Ab<|Ah<|wm<|ms<|wm<|mw<|?_;refine mv' lk pt ?_;refine V' (Bh lk lk Cg nb ro om ro rfl) pt ?_;refine Vw (Ax lk Bv rfl)<|Rz lk mp (hp l[k] (List.getElem_mem hk) _) pt<|sn'<|?_;refine Bg lk (λhc2=>?_) (λhc2=>?_)
  .refine wm<|mr<|Au<|Ag<|Ag<|Au<|Ag<|Ad rz<|rT'<|?_;refine ivx ?_;have hf:l.findIdx p=k:=K6 hk (by simpa using hc2) (λj hj=>hk2 j om hj);rw[idxV,hf,if_pos hk]
  refine Be<|Aw<|An<|Aq<|?_;refine ad<|mw<|Am<|Az<|?_;refine lT' (k+1) (by (try dsimp only);refine⟨by omega,λj hj h0=>?_⟩;by_cases e:j=k;subst e;simpa using hc2;exact hk2 j hj om)
 refine Bd<|As<|As<|Bp<|An<|wo<|Ad rz<|rT'<|?_;refine ivx ?_;have hf:l.findIdx p=l.length:=List.findIdx_eq_length.2 (λx hx=>by obtain⟨i,hi,rfl⟩:=List.getElem_of_mem hx;exact hk2 i hi om);rw[idxV,hf,if_neg om]
def ixChgC_a {p:Chg->Bool}{l:List Chg}{full:Bool}(hp : ∀ c∈l,∀ E:AH,ACalls Tryz.prog f ([.agg (chgC c)]++caps) (h++E) λx h'=>h'=h++E/\x=.ret (bv (p c))) (hl:l.length<=9223372036854775807) :
  Ac 139 [.sl l.length 4 full (rows chgC l),.clo (.func f) caps] h (iv (idxV p l)):=by
 refine tI' k139 λN hn _ _ hbd=>?_;simp only[tb'] at hbd ⊢;refine wk'<|Ab<|wm<|Vw (Bf lk)<|ms<|Ah<|?_;refine w_lp (ι:=Nat) (λ(k:Nat)=>[(8,iv (k:Int)),(4,.any),(5,.any)]++rn' 9 10) (λ(k:Nat)=>[]) (λ(k:Nat)=>k<=l.length /\ ∀ j (hj:j<l.length),j<k->p l[j]=false) (λ(k:Nat)=>l.length-k) (0) (by exact⟨by omega,λj hj h0=>absurd h0 om⟩) ?_;rintro k hi1;try simp only[sm',Nat.reduceAdd]
 obtain⟨hk1,hk2⟩:=hi1;refine wr'<|Vw (Bm lk lk)<|sn'<|Ab<|?_;refine cd' lk (λhc1=>?_) (λhc1=>?_)
 .have hk:k<l.length:=by omega
  refine za<|Ab<|Ah<|wm<|ms<|wm<|mw<|?_;refine mv' lk pt ?_;refine V' (Bh lk lk Cg nb ro om ro rfl) pt ?_;refine Vw (Ax lk Bv rfl)<|Rz lk mp (hp l[k] (List.getElem_mem hk) _) pt<|sn'<|?_;refine Bg lk (λhc2=>?_) (λhc2=>?_)
  .refine wm<|mr<|Au<|Ag<|Ag<|Au<|Ag<|Ad rz<|rT'<|?_;refine ivx ?_;have hf:l.findIdx p=k:=K6 hk (by simpa using hc2) (λj hj=>hk2 j om hj);rw[idxV,hf,if_pos hk]
  refine Be<|Aw<|An<|Aq<|?_;refine ad<|mw<|Am<|Az<|?_;refine lT' (k+1) (by (try dsimp only);refine⟨by omega,λj hj h0=>?_⟩;by_cases e:j=k;subst e;simpa using hc2;exact hk2 j hj om)
 refine Bd<|As<|As<|Bp<|An<|wo<|Ad rz<|rT'<|?_;refine ivx ?_;have hf:l.findIdx p=l.length:=List.findIdx_eq_length.2 (λx hx=>by obtain⟨i,hi,rfl⟩:=List.getElem_of_mem hx;exact hk2 i hi om);rw[idxV,hf,if_neg om]
end
section
open Go.Ab Go.RowKit Civ
attribute [local simp] Cp Dn
abbrev namC (n:Nam):List AV:=[sv n.1,iv n.2.1.1,iv n.2.1.2.1,sv n.2.1.2.2,chS n.2.2]
def Ib {n:Nat}(l:List Nam):AV.ltL n (rows namC l)=true:=Eh (λn x=>by simp[AV.ltL,AV.lt,Cp]) l
attribute [local simp] Ib
def B8 : ∀ x,(namC x).length=5:=λ_=>rfl
def F0 (l:List Nam):(rows namC l).length=l.length*5:=C9 B8 l
abbrev nptC (p:NPt):List AV:=[sv p.1,iv p.2.1.1,iv p.2.1.2.1,sv p.2.1.2.2,iv p.2.2.1,iv p.2.2.2.1,chS p.2.2.2.2]
def Oi {n:Nat}(l:List NPt):AV.ltL n (rows nptC l)=true:=Eh (λn x=>by simp[AV.ltL,AV.lt,Cp]) l
attribute [local simp] Oi
def Mn : ∀ x,(nptC x).length=7:=λ_=>rfl
def cZ (l:List NPt):(rows nptC l).length=l.length*7:=C9 Mn l
abbrev relC (r:Rel):List AV:=[.sl r.1.length 5 false (rows namC r.1),.sl r.2.length 2 false (rows lnkC r.2)]
abbrev Eu (n:Nam):List AV:=[sv n.1,iv n.2.1.1,iv n.2.1.2.1,sv n.2.1.2.2,chFr n.2.2]
def Lt {n:Nat}(l:List Nam):AV.ltL n (rows Eu l)=true:=Eh (λn x=>by simp[AV.ltL,AV.lt,Cp]) l
def Im : ∀ x,(Eu x).length=5:=λ_=>rfl
def Gm (l:List Nam):(rows Eu l).length=l.length*5:=C9 Im l
def aH (l:List Nam):(rows Eu l).all leaf=true:=Jg (λ_=>rfl) l
abbrev Xr (p:NPt):List AV:=[sv p.1,iv p.2.1.1,iv p.2.1.2.1,sv p.2.1.2.2,iv p.2.2.1,iv p.2.2.2.1,chFr p.2.2.2.2]
def pB {n:Nat}(l:List NPt):AV.ltL n (rows Xr l)=true:=Eh (λn x=>by simp[AV.ltL,AV.lt,Cp]) l
def sV : ∀ x,(Xr x).length=7:=λ_=>rfl
def Xs (l:List NPt):(rows Xr l).length=l.length*7:=C9 sV l
def WkL.app : ∀ {a b c d:List AV},WkL a b->WkL c d->WkL (a++c) (b++d)
 | [],[],_,_,_,h=>h
 | _::_,_::_,_,_,h,k=>⟨h.1,WkL.app h.2 k⟩
 | [],_::_,_,_,h,_=>h.elim
 | _::_,[],_,_,h,_=>h.elim
def bS {α:Type}{f g:α->List AV}(h : ∀ x,WkL (f x) (g x)) : ∀ l:List α,WkL (rows f l) (rows g l)
 | []=>trivial
 | x::l=>WkL.app (h x) (bS h l)
def Ro (l:List Nam):WkL (rows Eu l) (rows namC l):=bS (λ_=>wk1 rfl (wk1 rfl (wk1 rfl (wk1 rfl (wkw Wk.fs wk0))))) l
def wk_nptFr (l:List NPt):WkL (rows Xr l) (rows nptC l):=bS (λ_=>wk1 rfl (wk1 rfl (wk1 rfl (wk1 rfl (wk1 rfl (wk1 rfl (wkw Wk.fs wk0))))))) l
abbrev Z5 (r:Rel):List AV:=[.fs r.1.length 5 (rows Eu r.1),.fs r.2.length 2 (rows lnkC r.2)]
def wk_relFr :Wk (.agg (Z5 r)) (.agg (relC r)):=Wk.agg (wkw (Wk.fs.trans (Wk.sl (Ro _))) (wkw Wk.fs wk0))
def Ur (n:Nam):Prop:=n.1.size<=maxLen/\okT n.2
def F9 (r:Rel):Prop:=(∀ n∈r.1,Ur n) /\ ∀ l∈r.2,l.1.size<=maxLen/\l.2.size<=maxLen
section
def Dv :(a0::a1::a2::a3::a4::l).take 5=[a0,a1,a2,a3,a4]:=rfl
def Li :setCells (a0::a1::a2::a3::a4::l) 0 [c0,c1,c2,c3,c4]=c0::c1::c2::c3::c4::l:=rfl
def Ig :((a0::a1::a2::a3::a4::l).drop 1).take 4=[a1,a2,a3,a4]:=rfl
end
def k113:=Kx 113 []
def k63:=Kx 63 []
def k130:=Kx 130 []
def k129:=Kx 129 []
def k69:=Kx 69 []
def k28:=Kx 28 [.e [] 14 [],.e [] 15 []]
def pI {a:ByteArray}:Ac 113 [sv a] h (bv false):=by
 refine tI' k113 λN hn _ _ hbd=>?_;simp only[tb'] at hbd ⊢;refine wk'<|wm<|mw<|Vw (H7 lk lk)<|mr<|?_;refine Ad rz<|rT'<|?_;refine bvx ?_;simp
def uE {a b:ByteArray}:Ac 63 [sv a,sv b] h (iv (cmpS a b)):=by
 refine tI' k63 λN hn _ _ hbd=>?_;simp only[tb'] at hbd ⊢;refine wk'<|wm<|Af mp (pI) pt<|ms<|wr'<|?_;refine mw<|Af mp (pI) pt<|ms<|Ab<|wk'<|Cf lk<|za<|?_;refine Ab<|wk'<|Cf lk<|za<|Ab<|wm<|mw<|?_;refine Vw (v_lssS lk lk)<|sn'<|?_;refine Bg lk (λhc4=>?_) (λhc4=>?_)
 .have hl:ltS a b=true:=hc4;refine wo<|Ag<|Ad rz<|rT'<|?_;refine ivx ?_;unfold cmpS;rw[if_pos hl]
 have hl:ltS a b=false:=hc4;refine za<|Ab<|wm<|mw<|Vw (v_gtrS lk lk)<|sn'<|?_;refine Bg lk (λhc5=>?_) (λhc5=>?_)
 .have hg:ltS b a=true:=by have:=hc5;rwa [Tv,Bool.not_not] at this
  refine wo<|Ag<|Ad rz<|rT'<|?_;refine ivx ?_;unfold cmpS;rw[if_neg (by rw[hl];simp),if_pos hg]
 have hg:ltS b a=false:=by have:=hc5;rwa [Tv,Bool.not_not] at this
 refine za<|wo<|Ad rz<|rT'<|?_;refine ivx ?_;unfold cmpS;rw[if_neg (by rw[hl];simp),if_neg (by rw[hg];simp)]
def Z6 {n:Nam}{nm:ByteArray}:Ac 130 [.agg (namC n),sv nm] h (iv (cmpS n.1 nm)):=by
 refine tI' k130 λN hn _ _ hbd=>?_;simp only[tb'] at hbd ⊢;refine wr'<|E' (Bq cv rfl hl0 ha0) pt<|ms<|wr'<|fq<|Vw (Aa lk gx gt0)<|mw<|Af mp (uE) pt<|mw<|Am<|?_;exact An<|C4<|Ad rz<|rT' rfl
def mid_val {j:Nat}(h:i+j<=4611686018427387904):IntKind.i64.wrap ((IntKind.u64.wrap ((i:Int)+(j:Int))).fdiv (2 ^ (min (1:Int).toNat IntKind.u64.bits)))=(((i+j)/2:Nat):Int):=by
 have e1:IntKind.u64.wrap ((i:Int)+(j:Int))=(i:Int)+(j:Int):=by
  have h2:((i:Int)+j)%2 ^ 64=(i:Int)+j:=Int.emod_eq_of_lt om om;show (let r:=((i:Int)+j)%2 ^ 64;if (false&&decide (r>=2 ^ 63))=true then r-2 ^ 64 else r)=_;simp only[Bool.false_and,Bool.false_eq_true,if_false];exact h2
 have e2:(2:Int) ^ (min (1:Int).toNat IntKind.u64.bits)=2:=by decide
 rw[e1,e2,Int.fdiv_eq_ediv_of_nonneg _ om,w64 om om];omega
def low_of {t:List Nam}(hr:risN t) {nm:ByteArray}{q k:Nat}(hq:q<t.length) (h:ltS t[q].1 nm=true) (hk:k<=q):ltS (t[k]'(by omega)).1 nm=true:=by
 rcases Nat.lt_or_ge k q with e | e
 .exact Qz (List.pairwise_iff_getElem.1 hr _ _ om hq e) h
 obtain rfl:k=q:=by omega
 exact h
def high_of {t:List Nam}(hr:risN t) {nm:ByteArray}{q k:Nat}(hk:k<t.length) (hq:q<=k) (h:ltS (t[q]'(by omega)).1 nm=false):ltS t[k].1 nm=false:=by
 rcases Nat.lt_or_ge q k with e | e
 .cases h1:ltS t[k].1 nm with
  | false=>rfl
  | true=>rw[Qz (List.pairwise_iff_getElem.1 hr _ _ om hk e) h1] at h;cases h
 obtain rfl:q=k:=by omega
 exact h
def uL {t:List Nam}{nm:ByteArray}{full:Bool}(hr:risN t) (hl:t.length<=4000000000000) :
  Ac 129 [.sl t.length 5 full (rows namC t),sv nm,.v (.func (.func 130) #[] #[])] h (.tup [iv (posN t nm),bv (hasN t nm)]):=by
 refine tI' k129 λN hn hlt _ hbd=>?_;simp only[tb'] at hbd ⊢;refine wm<|ms<|wm<|Vw (Bf lk)<|ms<|Ab<|?_;refine Aq<|mw<|mw<|ms<|Ab<|Ah<|?_;refine w_lp (ι:=Nat×Nat) (λ⟨i,j⟩=>[(9,iv (i:Int)),(10,iv (j:Int)),(11,.any)]++rn' 15 20) (λ⟨i,j⟩=>[]) (λ⟨i,j⟩=>i<=j/\j<=t.length/\(∀ k (hk:k<t.length),k<i->ltS t[k].1 nm=true) /\ ∀ k (hk:k<t.length),j<=k->ltS t[k].1 nm=false) (λ⟨i,j⟩=>j-i) (⟨0,t.length⟩) (by exact⟨Nat.zero_le _,Nat.le_refl _,λk _ h=>by omega,λk hk h=>by omega⟩) ?_;rintro⟨i,j⟩ hi1;try simp only[sm',Nat.reduceAdd]
 obtain⟨hi1,hi2,hi3,hi4⟩:=hi1;refine Ab<|wm<|mw<|Vw (Bm lk lk)<|sn'<|?_;refine cd' lk (λhc1=>?_) (λhc1=>?_)
 .have hij:i<j:=by omega
  have hq:(i+j)/2<t.length:=by omega
  refine za<|Ah<|wm<|mw<|?_;refine V' (Du lk lk om om) pt ?_;refine V' (v_cvi lk) pt ?_;refine V' (v_shr lk lki om) pt ?_;refine V' (v_cvi lk) pt ?_;rw[mid_val om];refine ms<|wm<|mw<|mw<|?_;refine V' (Bh (k:=(i+j)/2) lk lk B8 nb ro om ro rfl) pt ?_;refine Vw (Ax lk Dv rfl)<|mw<|Nh lk mp (Z6 (n:=t[(i+j)/2])) pt<|Vw (Bm lk lki)<|sn'<|?_;refine cd' lk (λhc2=>?_) (λhc2=>?_)
  .have hlt:ltS t[(i+j)/2].1 nm=true:=M6.1 hc2;refine Aq<|mw<|?_;refine ad<|mw<|Am<|Aw<|Az<|?_;refine lU' (⟨(i+j)/2+1,j⟩) (by (try dsimp only);exact⟨by omega,hi2,λk hk h=>low_of hr hq hlt om,hi4⟩) (by refine zz ?_;exact ALe.same (by repeat (first | exact wk0 | refine wka ?_ | refine wk1 rfl ?_ | refine wk1 (by first | rfl | exact ivx om) ?_)) rfl)
  have hlt:ltS t[(i+j)/2].1 nm=false:=by rw[Bool.eq_false_iff,ne_eq,<-M6];exact hc2
  refine Aq<|mw<|mw<|Am<|Aw<|Az<|?_;refine lU' (⟨i,(i+j)/2⟩) (by (try dsimp only);exact⟨by omega,by omega,hi3,λk hk h=>high_of hr hk h hlt⟩) (by refine zz ?_;exact ALe.same (by repeat (first | exact wk0 | refine wka ?_ | refine wk1 rfl ?_ | refine wk1 (by first | rfl | exact ivx om) ?_)) rfl)
 obtain rfl:i=j:=by omega
 have hpos:posN t nm=i:=pos_is hi2 hi3 hi4;refine Bd<|As<|As<|Bp<|An<|wm<|mw<|mw<|Vw (Bm lk lk)<|mw<|?_;refine sp' (t:=39) gt pt pt (λhg39=>?_) (λhg39=>?_)
 .have hi:i<t.length:=by omega
  have hhas:hasN t nm=decide (t[i].1=nm):=by rw[Bool.eq_iff_iff,oS hr,decide_eq_true_iff];constructor;(rintro⟨h1,h2⟩;simpa only [hpos] using h2);(intro h2;exact⟨by rw[hpos];exact hi,by simpa only [hpos] using h2⟩)
  refine sd<|mw<|sd<|mw<|sd<|mw<|sd<|?_;refine V' (Bh (k:=i) lk lk B8 nb ro om ro rfl) pt ?_;refine sd<|Vw (Ax lk Dv rfl)<|sd<|mw<|sd<|Nh lk mp (Z6 (n:=t[i])) pt<|sd<|Vw (Cy lk lki)<|Vw (Ar lk lk)<|mw<|mr<|?_;refine Ad ry<|rT'<|?_;rw[hpos,hhas];refine congrArg (λb=>AV.tup [iv (i:Int),bv b]) ?_;rw[Bool.eq_iff_iff,decide_eq_true_iff,decide_eq_true_iff];exact uG
 have hhas:hasN t nm=false:=by rw[Bool.eq_false_iff,ne_eq,oS hr];rintro⟨h1,_⟩;omega
 refine so<|so<|so<|so<|so<|so<|so<|so<|Vw (Ao lk lkb)<|mw<|mr<|?_;refine Ad ry<|rT'<|?_;rw[hpos,hhas]
def Pw {t:List Nam}{nm:ByteArray}{full:Bool}(hr:risN t) (hl:t.length<=4000000000000) :
  Ac 69 [.sl t.length 5 full (rows namC t),sv nm] h (.tup [iv (posN t nm),bv (hasN t nm)]):=by
 refine tI' k69 λN hn _ _ hbd=>?_;simp only[tb'] at hbd ⊢;refine wm<|ms<|wm<|mw<|Af mp (uL hr hl) pt<|Vw (B7 lk gt)<|Vw (B7 lk gt)<|mw<|?_;exact mr<|Ad ry<|rT' rfl
def L3 (h:20<r.1.length\/20<r.2.length):Cb r=2:=if_pos h
def Ip (h:¬(20<r.1.length\/20<r.2.length)) (h2:chkN none r.1≠0):Cb r=chkN none r.1:=by unfold Cb;rw[if_neg h,if_pos h2]
def S9 (h:¬(20<r.1.length\/20<r.2.length)) (h2:chkN none r.1=0):Cb r=chkL r.1 none r.2:=by unfold Cb;rw[if_neg h,if_neg (by simpa using h2)]
def Xg {t:List Nam}(hok:F9 (t,k)):Ac 28 [.agg [.sl t.length 5 f1 (rows namC t),.sl k.length 2 f2 (rows lnkC k)]] h (iv (Cb (t,k))):=by
 refine tI' k28 λN hn hlt _ hbd=>?_;simp only[tb'] at hbd ⊢;refine wr'<|E' (Bq cv rfl hl0 ha0) pt<|ms<|Ab<|wr'<|fq<|Vw (Aa lk gx gt0)<|Vw (Bf lk)<|Vw (C7 lk lki)<|mw<|?_;refine sp' (t:=16) gt pt pt (λhg16=>?_) (λhg16=>?_)
 .have hR:Cb (t,k)=2:=L3 (.inl (by show 20<t.length;omega));refine so<|so<|so<|so<|Vw (Ar lk lkb)<|sn'<|Cx lk<|wo<|?_;refine Ag<|Ad rz<|rT'<|?_;rw[hR]
 refine sd<|fq<|sd<|Vw (Aa lk gx gt1)<|sd<|Vw (Bf lk)<|sd<|Vw (C7 lk lki)<|Vw (Ao lk lk)<|sn'<|?_;refine cd' lk (λhc1=>?_) (λhc1=>?_)
 .have hR:Cb (t,k)=2:=L3 (.inr (by show 20<k.length;omega));refine wo<|Ag<|Ad rz<|rT'<|?_;rw[hR]
 have hno:¬(20<t.length\/20<k.length):=by omega
 refine za<|Ab<|wr'<|fq<|Vw (Aa lk gx gt0)<|Vw (Bf lk)<|ms<|Ah<|?_;refine w_lp (ι:=Nat) (λ(i:Nat)=>[(25,iv (i:Int))]++rn' 2 4++rn' 26 29) (λ(i:Nat)=>[]) (λ(i:Nat)=>i<=t.length/\chkN none t=chkN (G3 (·.1) t i) (t.drop i)) (λ(i:Nat)=>t.length-i) (0) (by exact⟨Nat.zero_le _,rfl⟩) ?_;rintro i hi1;try simp only[sm',Nat.reduceAdd]
 obtain⟨hi1,hi2⟩:=hi1;refine wr'<|Vw (Bm lk lk)<|sn'<|Ab<|?_;refine cd' lk (λhc2=>?_) (λhc2=>?_)
 .have hi:i<t.length:=by omega
  have hn_:=hok.1 _ (List.getElem_mem hi);rw[qJ hi] at hi2;refine za<|Ab<|Ah<|wm<|?_;refine V' (Bh lk lk B8 nb ro om ro rfl) pt ?_;refine Vw (Ax lk Dv rfl)<|E' (Bz hl1 ha1) pt<|mw<|E' (Ai lk cv gx rfl nb rfl Li hs1) ptn<|sn'<|Ab<|wr'<|fq<|Vw (Aa lk gx gt0)<|Af mp (Qy hn_.1) pt<|Vw (Bj lk)<|Am<|?_;refine An ?_;refine Bg lk (λhc3=>?_) (λhc3=>?_)
  .have hb:D3 t[i].1=false:=by simpa using hc3
   rw[if_pos hb] at hi2;refine wo<|Ag<|Au<|Ag<|Ag<|Au<|Ag<|Ad rz<|rT'<|?_;rw[Ip (r:=(t,k)) hno (by rw[hi2];decide),hi2]
  have hb:D3 t[i].1=true:=by simpa using hc3
  rw[if_neg (by rw[hb];simp)] at hi2;refine za<|Ab<|wr'<|fq<|Vw (Ak lk gx Ig rfl)<|Af mp (Kg (l:=t[i].2.2) hn_.2.1 hn_.2.2) pt<|ms<|wm<|?_;refine Vw (Ca lk lki)<|sn'<|?_;refine cd' lk (λhc4=>?_) (λhc4=>?_)
  .have hv:Bw t[i].2≠0:=hc4;rw[if_pos hv] at hi2;refine wm<|mr<|Ag<|Au<|Ag<|Ag<|Au<|Ag<|Ad rz<|?_;refine rT' ?_;rw[Ip (r:=(t,k)) hno (by rw[hi2];exact hv),hi2]
  have hv:¬Bw t[i].2≠0:=hc4;rw[if_neg hv] at hi2;refine za<|Ab<|Bl<|Dw vm<|Dw (C7 lk lki)<|Dw vm<|?_;refine dq' (t:=42) gt pt pt (λhg42=>?_) (λhg42=>?_)
  .have hp:G3 (·.1) t i=some (t[i-1]'(by omega)).1:=by have:=Jh (f:=(·.1)) (l:=t) (i:=i-1) om;rwa [show i-1+1=i by omega] at this
   refine dO<|dg<|dO<|Dw (Aa lk gx gt0)<|dO<|dg<|dO<|Dw (Aa lk gx gt0)<|dO<|Dw vm<|dO<|?_;refine D' (Ch lk lki om om) pt ?_;refine d_do gt ?_;refine D' (Bh (k:=i-1) lk lk B8 nb ro om ro rfl) pt ?_;refine dO<|Dw (Cj lk dp0)<|dO<|Dw (Ba lk gt)<|dO<|Dw (v_leqS lk lk)<|Dw (Ar lk lk)<|Bi<|?_;refine B9 ?_;refine sn' ?_;refine Bg lk (λhc5=>?_) (λhc5=>?_)
   .have hA:E3 (G3 (·.1) t i) t[i].1=false:=by rw[hp];have:=hc5;rw[Tv,Bool.not_eq_true'] at this;exact this
    rw[if_pos hA] at hi2;refine wo<|Au<|Ag<|Ag<|Au<|Ag<|Ad rz<|rT'<|?_;rw[Ip (r:=(t,k)) hno (by rw[hi2];decide),hi2]
   have hA:E3 (G3 (·.1) t i) t[i].1=true:=by rw[hp];have:=hc5;rw[Tv,Bool.not_eq_false'] at this;exact this
   refine Be<|Aw<|An<|Aq<|?_;refine ad<|mw<|Am<|Az<|?_;refine lU' (i+1) (by (try dsimp only);exact⟨by omega,by rw[hi2,if_neg (by rw[hA];simp)]⟩) (by refine zz ?_;exact bk' 1 hn hlt)
  have hA:E3 (G3 (·.1) t i) t[i].1=true:=by obtain rfl:i=0:=om;rfl
  refine dn<|dn<|dn<|dn<|dn<|dn<|dn<|dn<|dn<|dn<|Dw (Ao lk lkb)<|Bi<|?_;refine B9 ?_;refine sn'<|Cf lk<|Be<|Aw<|An<|Aq<|?_;refine ad<|mw<|Am<|Az<|?_;refine lU' (i+1) (by (try dsimp only);exact⟨by omega,by rw[hi2,if_neg (by rw[hA];simp)]⟩) (by refine zz ?_;exact bk' 1 hn hlt)
 rw[List.drop_of_length_le (show t.length<=i by omega)] at hi2;have hN:chkN none t=0:=by rw[hi2];rfl
 have hC:=S9 (r:=(t,k)) hno hN;obtain⟨_,hr,_⟩:=eI hN;have hr':risN t:=hr;refine Bd<|As<|As<|Bp<|An<|Ab<|wr'<|fq<|Vw (Aa lk gx gt1)<|Vw (Bf lk)<|ms<|?_;refine Ah ?_;refine w_lp (ι:=Nat) (λ(j:Nat)=>[(58,iv (j:Int)),(2,.any)]++rn' 6 6++rn' 59 46) (λ(j:Nat)=>[]) (λ(j:Nat)=>j<=k.length/\chkL t none k=chkL t (G3 (·.2) k j) (k.drop j)) (λ(j:Nat)=>k.length-j) (0) (by exact⟨Nat.zero_le _,rfl⟩) ?_;rintro j hi2;try simp only[sm',Nat.reduceAdd]
 obtain⟨hj1,hj2⟩:=hi2;refine wr'<|Vw (Bm lk lk)<|sn'<|Ab<|?_;refine cd' lk (λhc6=>?_) (λhc6=>?_)
 .have hj:j<k.length:=by omega
  have hln:=hok.2 _ (List.getElem_mem hj);rw[qM hj] at hj2;refine za<|Ab<|Ah<|wm<|?_;refine V' (Bh lk lk Da nb ro om ro rfl) pt ?_;refine Vw (Ax lk Ce rfl)<|E' (Bz hl1 ha1) pt<|mw<|E' (Ai lk cv gx rfl nb rfl Cc hs1) ptn<|sn'<|wr'<|fq<|Vw (Aa lk gx gt0)<|fq<|Vw (Aa lk gx gt1)<|?_;refine Af mp (Pw hr' om) pt ?_;refine mw<|Vw (B7 lk gt)<|Vw (B7 lk gt)<|mw<|ms<|wr'<|fq<|Vw (Aa lk gx gt0)<|fq<|Vw (Aa lk gx gt0)<|?_;refine Af mp (Pw hr' om) pt ?_;refine mw<|Vw (B7 lk gt)<|Vw (B7 lk gt)<|mw<|ms<|Ah<|wr'<|fq<|Vw (Aa lk gx gt1)<|Af mp (Qy hln.2) pt<|Vw (Bj lk)<|?_;refine ms<|?_;refine Bg lk (λhc7=>?_) (λhc7=>?_)
  .have hb:D3 k[j].2=false:=by simpa using hc7
   rw[if_pos hb] at hj2;refine wo<|Au<|Au<|Ag<|Ag<|Au<|Ag<|Ad rz<|rT'<|?_;rw[hC];exact ivx hj2.symm
  have hb:D3 k[j].2=true:=by simpa using hc7
  rw[if_neg (by rw[hb];simp)] at hj2;refine Ab<|Bl<|Dw vm<|Dw (C7 lk lki)<|Dw vm<|?_;refine dq' (t:=87) gt pt pt (λhg87=>?_) (λhg87=>?_)
  .have hp:G3 (·.2) k j=some (k[j-1]'(by omega)).2:=by have:=Jh (f:=(·.2)) (l:=k) (i:=j-1) om;rwa [show j-1+1=j by omega] at this
   refine dO<|dg<|dO<|Dw (Aa lk gx gt1)<|dO<|dg<|dO<|Dw (Aa lk gx gt1)<|dO<|Dw vm<|dO<|?_;refine D' (Ch lk lki om om) pt ?_;refine d_do gt ?_;refine D' (Bh (k:=j-1) lk lk Da nb ro om ro rfl) pt ?_;refine dO<|Dw (Cj lk dp1)<|dO<|Dw (Ba lk gt)<|dO<|Dw (v_leqS lk lk)<|Dw (Ar lk lk)<|Dw vm<|Bi<|?_;refine B9 ?_;refine sn' ?_;refine Bg lk (λhc8=>?_) (λhc8=>?_)
   .have hA:E3 (G3 (·.2) k j) k[j].2=false:=by rw[hp];have:=hc8;rw[Tv,Bool.not_eq_true'] at this;exact this
    rw[if_pos hA] at hj2;refine wo<|Au<|Au<|Ag<|Ag<|Au<|Ag<|Ad rz<|rT'<|?_;rw[hC];exact ivx hj2.symm
   have hA:E3 (G3 (·.2) k j) k[j].2=true:=by rw[hp];have:=hc8;rw[Tv,Bool.not_eq_false'] at this;exact this
   refine wm<|ms<|?_;refine Bg lk (λhc9=>?_) (λhc9=>?_)
   .rw[if_neg (by rw[hA];simp),if_pos hc9] at hj2;refine wo<|Au<|Au<|Ag<|Ag<|Au<|Ag<|Ad rz<|rT'<|?_;rw[hC];exact ivx hj2.symm
   rw[if_neg (by rw[hA];simp),if_neg (by rw[hc9];simp)] at hj2;refine wm<|Vw (Bj lk)<|ms<|?_;refine Bg lk (λhc10=>?_) (λhc10=>?_)
   .rw[if_pos (by simpa using hc10)] at hj2;refine wo<|Au<|Au<|Ag<|Ag<|Au<|Ag<|Ad rz<|rT'<|?_;rw[hC];exact ivx hj2.symm
   rw[if_neg (by simpa using hc10)] at hj2;refine Be<|Aw<|Aw<|An<|Aq<|?_;refine ad<|mw<|Am<|Az<|?_;refine lU' (j+1) (by (try dsimp only);exact⟨by omega,hj2⟩) (by refine zz ?_;exact bk' 1 hn hlt)
  have hA:E3 (G3 (·.2) k j) k[j].2=true:=by obtain rfl:j=0:=om;rfl
  refine dn<|dn<|dn<|dn<|dn<|dn<|dn<|dn<|dn<|dn<|Dw (Ao lk lkb)<|Dw vm<|Bi<|?_;refine B9 ?_;refine sn'<|Cf lk<|wm<|ms<|?_;refine Bg lk (λhc9=>?_) (λhc9=>?_)
  .rw[if_neg (by rw[hA];simp),if_pos hc9] at hj2;refine wo<|Au<|Au<|Ag<|Ag<|Au<|Ag<|Ad rz<|rT'<|?_;rw[hC];exact ivx hj2.symm
  rw[if_neg (by rw[hA];simp),if_neg (by rw[hc9];simp)] at hj2;refine wm<|Vw (Bj lk)<|ms<|?_;refine Bg lk (λhc10=>?_) (λhc10=>?_)
  .rw[if_pos (by simpa using hc10)] at hj2;refine wo<|Au<|Au<|Ag<|Ag<|Au<|Ag<|Ad rz<|rT'<|?_;rw[hC];exact ivx hj2.symm
  rw[if_neg (by simpa using hc10)] at hj2;refine Be<|Aw<|Aw<|An<|Aq<|?_;refine ad<|mw<|Am<|Az<|?_;refine lU' (j+1) (by (try dsimp only);exact⟨by omega,hj2⟩) (by refine zz ?_;exact bk' 1 hn hlt)
 rw[List.drop_of_length_le (show k.length<=j by omega)] at hj2;refine Bd<|As<|As<|Bp<|An<|wo<|Ad rz<|rT'<|?_;rw[hC];exact ivx hj2.symm
end
section
open Go.Ab Go.RowKit Civ
attribute [local simp] Cp Ib Dn Oi Gv Lt pB
section
def Ct :setCells (a0::l) 0 [c0]=c0::l:=rfl
def Pi {τ:Operand->AV}{y0:Operand}{a:AV}(h0:Lf τ y0 [a]):Cm τ [(3,1,y0)] [(.sl 0 0 true []),(.sl 0 0 true []),(.sl 0 0 true []),(.sl 0 0 true [])]=some [(.sl 0 0 true []),(.sl 0 0 true []),(.sl 0 0 true []),a]:=fl h0 rfl
def Fq {τ:Operand->AV}{y0:Operand}{a:AV}(h0:Lf τ y0 [a]):Cm τ [(0,1,y0)] [(.v (.string ⟨#[]⟩))]=some [a]:=fl h0 rfl
def Ee :(a0::l).take 1=[a0]:=rfl
def H6 {τ:Operand->AV}{y0 y1:Operand}{a b c d e:AV}(h0:Lf τ y0 [a])(h1:Lf τ y1 [b,c,d,e]):Cm τ [(0,1,y0),(1,4,y1)] [(.v (.string ⟨#[]⟩)),(iv 0),(iv 0),(.v (.string ⟨#[]⟩)),(.sl 0 0 true [])]=some [a,b,c,d,e]:=fl h0<|fl h1 rfl
def Dk {τ:Operand->AV}{y0:Operand}{a b c d e:AV}(h0:Lf τ y0 [a,b,c,d,e]):Cm τ [(0,5,y0)] [(.v (.string ⟨#[]⟩)),(iv 0),(iv 0),(.v (.string ⟨#[]⟩)),(.sl 0 0 true [])]=some [a,b,c,d,e]:=fl h0 rfl
def Rm {e2 e3 e4 e5 e6 e7:Ent}:([e0,e1,e2,e3,e4,e5,e6,e7]:AH)++[d0]=[e0,e1,e2,e3,e4,e5,e6,e7,d0]:=rfl
def N1 {τ:Operand->AV}{y0 y1:Operand}{a b c d e f g:AV}(h0:Lf τ y0 [a])(h1:Lf τ y1 [b,c,d,e,f,g]):Cm τ [(0,1,y0),(1,6,y1)] [(.v (.string ⟨#[]⟩)),(iv 0),(iv 0),(.v (.string ⟨#[]⟩)),(iv 0),(iv 0),(.sl 0 0 true [])]=some [a,b,c,d,e,f,g]:=fl h0<|fl h1 rfl
def Na {τ:Operand->AV}{y0:Operand}{a b c d e f g:AV}(h0:Lf τ y0 [a,b,c,d,e,f,g]):Cm τ [(0,7,y0)] [(.v (.string ⟨#[]⟩)),(iv 0),(iv 0),(.v (.string ⟨#[]⟩)),(iv 0),(iv 0),(.sl 0 0 true [])]=some [a,b,c,d,e,f,g]:=fl h0 rfl
def Ui :(a0::a1::a2::a3::a4::a5::a6::l).take 7=[a0,a1,a2,a3,a4,a5,a6]:=rfl
def kN {τ:Operand->AV}{y0 y1:Operand}{a b c d:AV}(h0:Lf τ y0 [a,b])(h1:Lf τ y1 [c,d]):Cm τ [(0,2,y0),(2,2,y1)] [(.sl 0 0 true []),(.sl 0 0 true []),(.sl 0 0 true []),(.sl 0 0 true [])]=some [a,b,c,d]:=fl h0<|fl h1 rfl
def eQ {τ:Operand->AV}:Cm τ [] [(.sl 0 0 true []),(.sl 0 0 true []),(.sl 0 0 true []),(.sl 0 0 true [])]=some [(.sl 0 0 true []),(.sl 0 0 true []),(.sl 0 0 true []),(.sl 0 0 true [])]:=rfl
end
def k60:=Kx 60 []
def k46:=Kx 46 [.e [] 6 [false]]
def c146:AC:=(Sr [Mb 4 false] (.seq (Sr [Mv 6 0,Oo 7 (.len false (t 6)),Mv 8 1,Oo 9 (.len false (t 8)),Bn 10 .neq 7 9] (Cd 10 (Sr [Mb 4 false] .ret) .skip)) (.seq (Sr [Mv 11 0,Oo 12 (.len false (t 11)),Mc 13 0] (.block 0 (.loop (Sr [Bn 14 .lss 13 12] (.seq (Cd 14 .skip (.exit 0)) (.seq (.block 1 (Sr [Mv 15 13,Mv 5 15] (Sd [Mv 16 0,Mv 17 5,Oo 18 (.ia 4 (t 16) (t 17)),Oo 19 (.load true 4 (t 18)),Mv 20 1,Mv 21 5,Oo 22 (.ia 4 (t 20) (t 21)),Oo 23 (.load true 4 (t 22)),Oo 24 (.eqs true [.int,.int,.int,.str] (t 19) (t 23))] (Cd 24 (Sr [Mb 4 false] .ret) .skip)))) (.reg [Bc 25 .add 13 1,Mv 13 25]))))))) (Sr [Mb 4 true] .ret))))
def k146:Em Tryz.prog 146=some ⟨c146,[(.tmp 4)],26⟩:=by kernel_rfl
def c83:AC:=(Sr [Oo 2 (.box 30 4 (t 0)),Oo 3 (.box 30 4 (t 1)),Mb 4 false] (Sr [Fa 5 0 2,Oo 6 (.load true 3 (t 5)),Fa 7 0 3,Oo 8 (.load true 3 (t 7)),Oo 9 (.eqs false [.int,.int,.str] (t 6) (t 8)),Mv 10 9,Ot 11 10 (.fa 3 (t 2)),Ot 12 10 (.load false 1 (t 11)),Ot 13 10 (.fa 3 (t 3)),Ot 14 10 (.load false 1 (t 13)),Ot 15 10 (.call (.func 146) [(t 12),(t 14)]),Oo 16 (.pick (t 10) (t 15) (.const (.bool false))),Mv 4 16] .ret))
def k83:Em Tryz.prog 83=some ⟨c83,[(.tmp 4)],17⟩:=by kernel_rfl
def k91:=Kx 91 []
def k45:=Kx 45 []
def k16:=Kx 16 []
def k41:=Kx 41 [.e [] 9 [false,false,false],.e [] 11 [],.e [] 15 [false,false,false]]
def k13:=Kx 13 []
def clone_f {l:List Chg}{full:Bool}(hl:l.length<=3518437208883):ACalls Tryz.prog 92 [.sl l.length 4 full (rows chgC l)] h λr h'=>h'=h/\r=.ret (chFr l):=by
 refine tW' k92 λN hn _ _ hbd=>?_;simp only[tb'] at hbd ⊢;refine wk'<|Ab<|wm<|?_;refine s_eqn lk (λ_=>pt) (λbn3 hbn3=>?_);refine sn' ?_;refine cd' lk (λhc1=>?_) (λhc1=>?_)
 .refine wo<|Ag<|Ad rz<|rtW'<|?_;have h0:l=[]:=List.eq_nil_of_length_eq_zero ((Nat.eq_zero_or_pos _).resolve_right (λe=>by have:=hbn3 e;rw[hc1] at this;cases this));subst h0;exact Wk.nilS
 refine za<|wr'<|E' (Ep F7 hl0 ha0) pt<|mw<|?_;refine E' (C6 (Qf lk (Cu _)) lk gx rfl om (M7 _) hs0) pt ?_;refine mw<|Am<|?_;refine B0 (ALe.iceRF (hga hn rfl) gt2 (show List.take _ _=rows chgC l from by rw[List.nil_append,Nat.zero_add];exact List.take_of_length_le (by rw[Cu];exact Nat.le_refl _)) (by rw[List.nil_append,Nat.zero_add,Cu];exact Nat.le_refl _) (by exact Nat.zero_add _) pt2 hs0) ?_;refine C4<|Ad rz<|rtW'<|?_;exact Wk.refl _
def gY {l:List Lnk}{full:Bool}(hl:l.length<=4398046511104):ACalls Tryz.prog 60 [.sl l.length 2 full (rows lnkC l)] h λr h'=>h'=h/\r=.ret (.fs l.length 2 (rows lnkC l)):=by
 refine tW' k60 λN hn _ _ hbd=>?_;simp only[tb'] at hbd ⊢;refine wk'<|Ab<|wm<|?_;refine s_eqn lk (λ_=>pt) (λbn3 hbn3=>?_);refine sn' ?_;refine cd' lk (λhc1=>?_) (λhc1=>?_)
 .refine wo<|Ag<|Ad rz<|rtW'<|?_;have h0:l=[]:=List.eq_nil_of_length_eq_zero ((Nat.eq_zero_or_pos _).resolve_right (λe=>by have:=hbn3 e;rw[hc1] at this;cases this));subst h0;exact Wk.nilS
 refine za<|wr'<|E' (Ep F7 hl0 ha0) pt<|mw<|?_;refine E' (C6 (Qf lk (Kd _)) lk gx rfl om (gW _) hs0) pt ?_;refine mw<|Am<|?_;refine B0 (ALe.iceRF (hga hn rfl) gt2 (show List.take _ _=rows lnkC l from by rw[List.nil_append,Nat.zero_add];exact List.take_of_length_le (by rw[Kd];exact Nat.le_refl _)) (by rw[List.nil_append,Nat.zero_add,Kd];exact Nat.le_refl _) (by exact Nat.zero_add _) pt2 hs0) ?_;refine C4<|Ad rz<|rtW'<|?_;exact Wk.refl _
def cP {t:Tab}{full:Bool}(hl:t.2.length<=3518437208883):Ac 46 [.agg [iv t.1.1,iv t.1.2.1,sv t.1.2.2,.sl t.2.length 4 full (rows chgC t.2)]] h (N9 t):=by
 refine tI' k46 λN hn _ _ hbd=>?_;simp only[tb'] at hbd ⊢;refine wr'<|E' (Bq cv rfl hl0 ha0) pt<|E' (Bz hl1 ha1) pt<|sn'<|Ab<|Bl<|dg<|Dw (Ak lk gx Ap rfl)<|dg<|Dw (Aa lk gx gt3)<|?_;refine Br mp (λhE hX=>clone_f hl) pt ?_;refine Dw (Bb (Ef cw cw))<|Bi<|?_;refine B9 ?_;exact E' (Ai lk cv gx rfl nb rfl Ay hs1) ptn<|sr<|Ad (rs1 (rr_c gt gx (ld1 Av rfl)))<|rT' rfl
def equalC_a {l m:List Chg}:Ac 146 [.sl l.length 4 f1 (rows chgC l),.sl m.length 4 f2 (rows chgC m)] h (bv (decide (l=m))):=by
 refine tI' k146 λN hn _ _ hbd=>?_;simp only[tb'] at hbd ⊢;refine wk'<|Ab<|wm<|Vw (Bf lk)<|mw<|Vw (Bf lk)<|Vw (Ca lk lk)<|Am<|?_;refine An ?_;refine cd' lk (λhc1=>?_) (λhc1=>?_)
 .refine wo<|Ag<|Ad rz<|rT'<|?_;refine bvx (decide_eq_false (λe=>hc1 (by rw[e]))).symm
 refine za<|Ab<|wm<|Vw (Bf lk)<|ms<|Ah<|?_;refine w_lp (ι:=Nat) (λ(k:Nat)=>[(13,iv (k:Int)),(4,.any),(5,.any)]++rn' 14 12) (λ(k:Nat)=>[]) (λ(k:Nat)=>k<=l.length/\l.length=m.length/\l.take k=m.take k) (λ(k:Nat)=>l.length-k) (0) (by exact⟨by omega,by omega,by simp⟩) ?_;rintro k hi1;try simp only[sm',Nat.reduceAdd]
 obtain⟨hk1,hk2,hk3⟩:=hi1;refine wr'<|Vw (Bm lk lk)<|sn'<|Ab<|?_;refine cd' lk (λhc2=>?_) (λhc2=>?_)
 .refine za<|Ab<|Ah<|wm<|ms<|Ab<|Bl<|Dw vm<|Dw vm<|?_;refine D' (Bh lk lk Cg nb ro om ro rfl) pt ?_;refine Dw (Ax lk Bv rfl)<|Dw vm<|Dw vm<|?_;refine D' (Bh lk lk Cg nb ro om ro rfl) pt ?_;refine Dw (Ax lk Bv rfl)<|Dw (Ma lk lk Hz)<|Bi<|?_;refine B9 ?_;refine sn' ?_;refine cd' lk (λhc3=>?_) (λhc3=>?_)
  .refine wo<|Au<|Ag<|Ag<|Au<|Ag<|Ad rz<|rT'<|?_;refine bvx (decide_eq_false (λe=>hc3 (by subst e;simp))).symm
  refine Be<|Aw<|An<|Aq<|?_;refine ad<|mw<|Am<|Az<|?_;refine lT' (k+1) (by (try dsimp only);exact⟨by omega,hk2,Zr om om hk3 (Sz (Decidable.of_not_not hc3))⟩)
 refine Bd<|As<|As<|Bp<|An<|wo<|Ad rz<|rT'<|?_;refine bvx (decide_eq_true ?_).symm;rw[List.take_of_length_le om,List.take_of_length_le om] at hk3;exact hk3
def rsame_a {t u:Tab}:Ac 83 [.agg [iv t.1.1,iv t.1.2.1,sv t.1.2.2,.sl t.2.length 4 f1 (rows chgC t.2)],.agg [iv u.1.1,iv u.1.2.1,sv u.1.2.2,.sl u.2.length 4 f2 (rows chgC u.2)]] h (bv (decide (t=u))):=by
 refine tI' k83 λN hn _ _ hbd=>?_;simp only[tb'] at hbd ⊢;refine wr'<|E' (Bq cv rfl hl0 ha0) pt<|E' (Bq cv rfl hl1 ha1) pt<|ms<|wr'<|fq<|Vw (Ak lk gx Ap rfl)<|fq<|Vw (Ak lk gx Ap rfl)<|Vw (Nc lk lk Ft)<|?_;refine mv' lk pt ?_;refine sp' (t:=10) gt pt pt (λhg10=>?_) (λhg10=>?_)
 .have h1:t.1=u.1:=by obtain⟨x1,x2,x3⟩:=hg10;exact Prod.ext x1 (Prod.ext x2 x3)
  refine sd<|fq<|sd<|Vw (Aa lk gx gt3)<|sd<|fq<|sd<|Vw (Aa lk gx gt3)<|sd<|Af mp (equalC_a) pt<|Vw (Ar lk lk)<|ms<|?_;refine C4<|Ad rz<|rT'<|?_;refine bvx ?_;rw[Bool.eq_iff_iff,decide_eq_true_iff,decide_eq_true_iff];exact⟨λe=>Prod.ext h1 e,λe=>by rw[e]⟩
 refine so<|so<|so<|so<|so<|Vw (Ao lk lkb)<|mr<|Ad rz<|rT'<|?_;refine bvx (decide_eq_false λe=>hg10 (by rw[e];exact⟨rfl,rfl,rfl⟩)).symm
def lookR1_a {nm:ByteArray}{l:Lnk}{id:Nat}(he:h[id]?=some (.mk 0 9 1 [sv nm])):Ac 91 [.agg (lnkC l),.ptr id 0 0] h (bv (decide (l.2=nm))):=by
 refine tI' k91 λN hn _ _ hbd=>?_;simp only[tb'] at hbd ⊢;refine wr'<|E' (Bq cv rfl hl0 ha0) pt<|ms<|wr'<|fq<|Vw (Aa lk gx gt1)<|Vw (Aa lk (Ez he) gt0)<|Vw (J6 lk lk)<|mw<|Am<|?_;exact An<|C4<|Ad rz<|rT' rfl
def fY {t:List Nam}(hr:risN t) {nm:ByteArray}(h:hasN t nm=true) : ∃ hp:posN t nm<t.length,B4 t nm=some t[posN t nm].2:=by
 obtain⟨hi,he⟩:=Q5 h;have e:=V1 hr h;refine⟨by rw[e];exact hi,?_⟩;rw[Xy,List.getElem?_eq_getElem hi];simp only[e,Option.map_some]
def tgtR_yes {nm:ByteArray}(h:k.findIdx (λl:Lnk=>decide (l.2=nm))<k.length):tgtR k nm=k[k.findIdx λl:Lnk=>decide (l.2=nm)].1:=by
 unfold tgtR;rw[List.getElem?_eq_getElem h]
def tgtR_no {nm:ByteArray}(h:¬k.findIdx (λl:Lnk=>decide (l.2=nm))<k.length):tgtR k nm=nm:=by
 unfold tgtR;rw[List.getElem?_eq_none (Nat.le_of_not_lt h)]
def J7 (r:Rel) (nm:ByteArray):Tab×Bool:=match B4 r.1 (tgtR r.2 nm) with
 | none=>(Ga,false)
 | some t=>(t,true)
def gU {t:List Nam}{nm:ByteArray}(hb:hasN t nm=false):B4 t nm=none:=by rw[Fl] at hb;simpa using hb
def tM {t:List Nam}{nm:ByteArray}(hb:hasN t (tgtR k nm)=false):J7 (t,k) nm=(Ga,false):=by
 unfold J7;dsimp only;rw[gU hb]
def qQ {r:List Nam}{n:Nam}(hb:hasN r n.1=false):betF D9 r n=none:=by
 unfold betF;rw[gU hb]
def rD {e:AV}:Wk (.tup [.agg [.v (.int .i64 0),.v (.int .i64 0),.v (.string ⟨#[]⟩),.sl 0 0 true []],e]) (.tup [tabA Ga,e]):=Wk.tup (wkw (Wk.agg (wk1 rfl (wk1 rfl (wk1 rfl (wkw Wk.nilF wk0))))) (wk1 rfl wk0))
def Wj {e:AV}:Wk (.tup [.agg [.v (.int .i64 0),.v (.int .i64 0),.v (.string ⟨#[]⟩),.sl 0 0 true []],e]) (.tup [N9 Ga,e]):=Wk.tup (wkw (Wk.agg (wk1 rfl (wk1 rfl (wk1 rfl (wkw Wk.nilS wk0))))) (wk1 rfl wk0))
def lookR_a {t:List Nam}{nm:ByteArray}(hr:risN t) (hl:t.length<=1000000) (hk:k.length<=9223372036854775807) :
  Ac 45 [.agg [.sl t.length 5 false (rows namC t),.sl k.length 2 false (rows lnkC k)],sv nm] h (.tup [tabA (J7 (t,k) nm).1,bv (J7 (t,k) nm).2]):=by
 have hkk:=hk;refine tW' k45 λN hn _ _ hbd=>?_;simp only[tb'] at hbd ⊢;refine wr'<|E' (Bq cv rfl hl0 ha0) pt<|E' (Bq cv rfl hl1 ha1) pt<|E' (Bz hl2 ha2) pt<|ms<|wr'<|fq<|Vw (Aa lk gx gt1)<|Vw (J5 mp)<|?_;refine Af mp (X1 (p:=λl:Lnk=>decide (l.2=nm)) (λc _ E=>lookR1_a (Ez gx)) hkk) pt ?_;refine ms<|?_;refine L9 (ι:=Unit) (λ(x:Unit)=>[]++rn' 13 8) (λ(x:Unit)=>[(1,.mk 0 9 1 [sv (tgtR k nm)])]) (λ(x:Unit)=>True) ?_ ?_
 .try simp only[sm',Nat.reduceAdd]
  refine wm<|Vw (Gz lk lki)<|sn'<|?_;refine cd' lk (λhc1=>?_) (λhc1=>?_)
  .have hlt':k.findIdx (λl:Lnk=>decide (l.2=nm))<k.length:=by unfold idxV at hc1;split at hc1;assumption;omega
   have hix:idxV (λl:Lnk=>decide (l.2=nm)) k=((k.findIdx λl:Lnk=>decide (l.2=nm):Nat):Int):=if_pos hlt';have hT:=tgtR_yes hlt';refine Aq<|fq<|Vw (Aa lk gx gt1)<|mw<|?_;refine V' (Bh (k:=k.findIdx λl:Lnk=>decide (l.2=nm)) lk lk Da nb ro om ro rfl) pt ?_;refine Vw (Cj lk dp0)<|Vw (Ba lk gt)<|E' (Ai lk cv gx rfl nb rfl Ct hs1) ptn<|Am<|Az<|?_;exact cT' (()) (by trivial) (by refine zz ?_;exact ALe.same wA' (by rw[hT];first | rfl | done))
  have hlt':¬k.findIdx (λl:Lnk=>decide (l.2=nm))<k.length:=λh=>hc1 (by unfold idxV;rw[if_pos h];omega);have hT:=tgtR_no hlt';refine Be<|Az<|?_;exact cT' (()) (by trivial) (by refine zz ?_;exact ALe.same wA' (by rw[hT];first | rfl | done))
 rintro x hq4;try simp only[sm',Nat.reduceAdd]
 refine wr'<|fq<|Vw (Aa lk gx gt0)<|Vw (Aa lk gx gt0)<|?_;refine Af mp (Pw hr om) pt ?_;refine mw<|Vw (B7 lk gt)<|Vw (B7 lk gt)<|mw<|ms<|Ab<|wm<|Vw (Bj lk)<|sn'<|?_;refine Bg lk (λhc2=>?_) (λhc2=>?_)
 .have hb:hasN t (tgtR k nm)=false:=by simpa using hc2
  have hL:=tM hb;refine wr'<|Vw (Bb B5)<|E' (Ai lk cv gx rfl nb rfl Ay hs2) ptn<|mr<|Ag<|Ad (rsn (rm1 (rr_c gt gx (ld1 Av rfl)) (rm1 (rr_t gt) rm0)))<|rtW'<|?_;rw[hL];exact rD
 have hb:hasN t (tgtR k nm)=true:=by simpa using hc2
 obtain⟨hp,hkl⟩:=fY hr hb;have hL:J7 (t,k) nm=(t[posN t (tgtR k nm)].2,true):=by unfold J7;dsimp only;rw[hkl]
 refine za<|wr'<|fq<|Vw (Aa lk gx gt0)<|mw<|?_;refine V' (Bh (k:=posN t (tgtR k nm)) lk lk B8 nb ro om ro rfl) pt ?_;refine Vw (Cj lk dp1)<|Vw (Ax lk Bv rfl)<|E' (Ai lk cv gx rfl nb rfl Ay hs2) ptn<|mr<|Ad (rsn (rm1 (rr_c gt gx (ld1 Av rfl)) (rm1 (rr_t gt) rm0)))<|rtW'<|?_;rw[hL];exact Wk.refl _
def pO {t:List Nam}{nm:ByteArray}(hok:F9 (t,k)) (hk:k.length<=9223372036854775807) :
  Ac 16 [.agg [.sl t.length 5 false (rows namC t),.sl k.length 2 false (rows lnkC k)],sv nm] h (.tup [N9 (Hu (t,k) nm).1,iv (Hu (t,k) nm).2]):=by
 have hkk:=hk;refine tW' k16 λN hn _ _ hbd=>?_;simp only[tb'] at hbd ⊢;refine wr'<|E' (Bq cv rfl hl0 ha0) pt<|E' (Bz hl1 ha1) pt<|ms<|Ab<|wr'<|Vw (Ak lk gx B1 rfl)<|Af mp (Xg hok) pt<|mw<|Am<|?_;refine An<|wm<|Vw (Ca lk lki)<|sn'<|?_;refine cd' lk (λhc1=>?_) (λhc1=>?_)
 .have hF:Hu (t,k) nm=(Ga,Cb (t,k)):=if_pos hc1;refine wr'<|Vw (Bb B5)<|mw<|E' (Ai lk cv gx rfl nb rfl Ay hs1) ptn<|mr<|Ag<|Ad (rsn (rm1 (rr_c gt gx (ld1 Av rfl)) (rm1 (rr_t gt) rm0)))<|rtW'<|?_;rw[hF];exact Wj
 have h0:Cb (t,k)=0:=Decidable.of_not_not hc1;obtain⟨a1,a2,a3,a4,a5,a6⟩:=E9 h0;simp only at a1 a2 a3 a4;refine za<|wr'<|Vw (Ak lk gx B1 rfl)<|mw<|?_;refine Af mp (lookR_a a4 om hkk) pt ?_;refine mw<|Vw (B7 lk gt)<|Vw (B7 lk gt)<|E' (Bz hl2 ha2) pt<|E' (Ai lk cv gx rfl nb rfl Ay hs2) ptn<|ms<|Ab<|wm<|Vw (Bj lk)<|Am<|?_;refine An ?_;refine Bg lk (λhc2=>?_) (λhc2=>?_)
 .have hb:(J7 (t,k) nm).2=false:=by simpa using hc2
  have hF:Hu (t,k) nm=(Ga,5):=by unfold Hu;rw[if_neg hc1];unfold J7 at hb;split at hb;(rename_i e;first | rw[e] | rfl);cases hb
  refine wr'<|Vw (Bb B5)<|E' (Ai lk cv gx rfl nb rfl Ay hs1) ptn<|mr<|Ag<|Ad (rsn (rm1 (rr_c gt gx (ld1 Av rfl)) (rm1 (rr_t gt) rm0)))<|rtW'<|?_;rw[hF];exact Wj
 have hb:(J7 (t,k) nm).2=true:=by simpa using hc2
 have hF:Hu (t,k) nm=((J7 (t,k) nm).1,0)/\Bw (J7 (t,k) nm).1=0:=by unfold Hu;rw[if_neg hc1];unfold J7 at hb ⊢;split at hb;cases hb;(rename_i u e;(try rw[e]);exact⟨rfl,(a3 _ (F4 e)).2⟩)
 have hlen:=D7 hF.2;refine za<|wr'<|Vw (Ak lk gx Av rfl)<|?_;refine Af mp (cP om) pt ?_;refine E' (Ai lk cv gx rfl nb rfl Ay hs1) ptn<|mr<|Ad (rsn (rm1 (rr_c gt gx (ld1 Av rfl)) (rm1 (rr_t gt) rm0)))<|rtW'<|?_;rw[hF.1];exact Wk.refl _
def pP {t:List Nam}{nm:ByteArray}(hok:F9 (t,k)) (hk:k.length<=9223372036854775807) :
  Ac 16 [.agg [.sl t.length 5 false (rows namC t),.sl k.length 2 false (rows lnkC k)],sv nm] h (.tup [tabA (Hu (t,k) nm).1,iv (Hu (t,k) nm).2]):=(pO hok hk).wkR (Wk.tup (wkw Is (wk1 rfl wk0)))
abbrev updC (u:Upd):List AV:=[.sl u.1.length 1 false (rows strC u.1),.sl u.2.1.length 5 false (rows namC u.2.1),.sl u.2.2.1.length 7 false (rows nptC u.2.2.1),.sl u.2.2.2.length 2 false (rows lnkC u.2.2.2)]
abbrev Wn (u:Upd):List AV:=[.fs u.1.length 1 (rows strC u.1),.fs u.2.1.length 5 (rows Eu u.2.1),.fs u.2.2.1.length 7 (rows Xr u.2.2.1),.fs u.2.2.2.length 2 (rows lnkC u.2.2.2)]
def Wi {u:Upd}:Wk (.agg (Wn u)) (.agg (updC u)):=Wk.agg (wkw Wk.fs (wkw (Wk.fs.trans (Wk.sl (Ro _))) (wkw (Wk.fs.trans (Wk.sl (wk_nptFr _))) (wkw Wk.fs wk0))))
def bK (l s:List Nam) (n:Nam):betD (l++[n]) s=betD l s++(if hasN s n.1=true then [] else [n.1]):=by
 unfold betD;rw[List.filter_append,List.map_append];congr 1;cases h:hasN s n.1 <;> simp[h]
def bJ (r l:List Nam) (n:Nam):betP r (l++[n])=betP r l++(if hasN r n.1=true then [] else [n]):=by
 unfold betP;rw[List.filter_append];congr 1;cases h:hasN r n.1 <;> simp[h]
def bI (r l:List Nam) (n:Nam):betT D9 r (l++[n])=betT D9 r l++(betF D9 r n).toList:=by
 unfold betT;rw[List.filterMap_append];congr 1;try (cases h:betF D9 r n <;> simp[h])
def jY (l s:List Nam):(betD l s).length<=l.length:=by unfold betD;rw[List.length_map];exact List.length_filter_le _ _
def Yu (r l:List Nam):(betP r l).length<=l.length:=List.length_filter_le _ _
def jX (r l:List Nam):(betT D9 r l).length<=l.length:=List.length_filterMap_le _ _
def betR_f {s:Rel}(hr:Cb r=0) (hs:Cb s=0) :
  Ac 41 [.agg [.sl r.1.length 5 false (rows namC r.1),.sl r.2.length 2 false (rows lnkC r.2)],.agg [.sl s.1.length 5 false (rows namC s.1),.sl s.2.length 2 false (rows lnkC s.2)]] h (.agg (Wn (betU r s))):=by
 obtain⟨a1,a2,a3,a4,a5,a6⟩:=E9 hr;obtain⟨b1,b2,b3,b4,b5,b6⟩:=E9 hs;refine tI' k41 λN hn hlt _ hbd=>?_;simp only[tb'] at hbd ⊢;refine wr'<|E' (Bq cv rfl hl0 ha0) pt<|E' (Bq cv rfl hl1 ha1) pt<|E' (Bz hl2 ha2) pt<|sn'<|wr'<|fq<|Vw (Aa lk gx gt1)<|?_;refine Af mp (gY om) pt ?_;refine Vw (Bb (Pi cw))<|E' (Bz hl3 ha3) pt<|E' (Ai lk cv gx rfl nb rfl Ay hs3) ptn<|Am<|?_;refine B0 (ALe.trans (ALe.own0Cell (st':=1) (ty:=9) gx gt0 hl4 pt0 (Eq.trans (congrArg (λz=>List.set z _ _) ha4) hs3)) (ALe.trans (ALe.own0Cell (st':=5) (ty:=76) gx gt1 hl5 pt1 (Eq.trans (congrArg (λz=>List.set z _ _) ha5) hs3)) (ALe.own0Cell (st':=7) (ty:=66) gx gt2 hl6 pt2 (Eq.trans (congrArg (λz=>List.set z _ _) ha6) hs3)))) ?_;refine Ab<|wr'<|fq<|Vw (Aa lk gx gt0)<|Vw (Bf lk)<|ms<|Ah<|?_;refine w_lp (ι:=Nat×Nat) (λ⟨i,v⟩=>[(21,iv (i:Int))]++rn' 7 3++rn' 22 21) (λ⟨i,v⟩=>[(3,.mk 0 39 4 [.own (N+4) v (betD (r.1.take i) s.1).length,.own (N+5) 0 0,.own (N+6) 0 0,.fs s.2.length 2 (rows lnkC s.2)]),(4,.mk v 9 1 (rows strC (betD (r.1.take i) s.1)))]) (λ⟨i,v⟩=>i<=r.1.length) (λ⟨i,v⟩=>r.1.length-i) (⟨0,0⟩) (by exact Nat.zero_le _) ?_;rintro⟨i,v⟩ hi1;try simp only[sm',Nat.reduceAdd]
 replace hi1:i<=r.1.length:=hi1;have hdl:=jY (r.1.take i) s.1;rw[List.length_take] at hdl;refine wr'<|Vw (Bm lk lk)<|sn'<|Ab<|?_;refine cd' lk (λhc1=>?_) (λhc1=>?_)
 .have hi:i<r.1.length:=by omega
  have hst:=bK (r.1.take i) s.1 r.1[i];rw[<-List.take_succ_eq_append_getElem hi] at hst;refine za<|Ab<|Ah<|wr'<|?_;refine V' (Bh lk lk B8 nb ro om ro rfl) pt ?_;refine Vw (Ax lk Dv rfl)<|E' (Bz hl7 ha7) pt<|E' (Ai lk cv gx rfl nb rfl Li hs7) ptn<|sn'<|wr'<|fq<|Vw (Aa lk gx gt0)<|fq<|Vw (Aa lk gx gt0)<|?_;refine Af mp (Pw b4 om) pt ?_;refine mw<|Vw (B7 lk gt)<|Vw (B7 lk gt)<|mw<|ms<|wm<|Vw (Bj lk)<|sn'<|?_;refine Bg lk (λhc2=>?_) (λhc2=>?_)
  .have hb:hasN s.1 r.1[i].1=false:=by simpa using hc2
   rw[if_neg (by rw[hb];simp)] at hst;refine Aq<|fq<|Vw (Aa lk gx gt0)<|fq<|Vw (Aa lk gx gt0)<|E' (Ep (Fq cw) hl8 ha8) pt<|?_;refine E' (C6 (C0 lk gx rfl Ee nb) lk gx (H1 _) om rfl hs4) pt ?_;refine fq<|E' (Ai lk cv gx rfl nb rfl Ct hs3) ptn<|Am<|Aw<|An<|Aq<|?_;refine ad<|mw<|Am<|Az<|?_;refine lU' (⟨i+1,v+1⟩) (by (try dsimp only);omega) (by refine zz ?_;exact bk' 7 hn hlt (by rw[hst,List.length_append,Bt];rfl) (hT:=by simp[AV.lt,AV.ltL,Ent.lt]) (hE:=by simp[AV.lt,AV.ltL,Ent.lt]))
  have hb:hasN s.1 r.1[i].1=true:=by simpa using hc2
  rw[if_pos hb,List.append_nil] at hst;refine Be<|Aw<|An<|Aq<|?_;refine ad<|mw<|Am<|Az<|?_;refine lU' (⟨i+1,v⟩) (by (try dsimp only);omega) (by refine zz ?_;exact bk' 7 hn hlt (by rw[hst];rfl) (hT:=by simp[AV.lt,AV.ltL,Ent.lt]) (hE:=by simp[AV.lt,AV.ltL,Ent.lt]))
 rw[List.take_of_length_le (show r.1.length<=i by omega)] at *;refine Bd<|As<|As<|Bp<|An<|Ab<|wr'<|fq<|Vw (Aa lk gx gt0)<|Vw (Bf lk)<|ms<|?_;refine Ah ?_;refine w_lp (ι:=Nat×Nat×Nat) (λ⟨j,p,q⟩=>[(46,iv (j:Int))]++rn' 11 3++rn' 47 54) (λ⟨j,p,q⟩=>[(3,.mk 0 39 4 [.own (N+4) v (betD r.1 s.1).length,.own (N+5) p (betP r.1 (s.1.take j)).length,.own (N+6) q (betT D9 r.1 (s.1.take j)).length,.fs s.2.length 2 (rows lnkC s.2)]),(5,.mk p 76 5 (rows Eu (betP r.1 (s.1.take j)))),(6,.mk q 66 7 (rows Xr (betT D9 r.1 (s.1.take j))))]) (λ⟨j,p,q⟩=>j<=s.1.length) (λ⟨j,p,q⟩=>s.1.length-j) (⟨0,0,0⟩) (by exact Nat.zero_le _) ?_;rintro⟨j,p,q⟩ hi2;try simp only[sm',Nat.reduceAdd]
 replace hi2:j<=s.1.length:=hi2;have hpl:=Yu r.1 (s.1.take j);have hql:=jX r.1 (s.1.take j);rw[List.length_take] at hpl hql;refine wr'<|Vw (Bm lk lk)<|sn'<|Ab<|?_;refine cd' lk (λhc3=>?_) (λhc3=>?_)
 .have hj:j<s.1.length:=by omega
  have hsP:=bJ r.1 (s.1.take j) s.1[j];have hsT:=bI r.1 (s.1.take j) s.1[j];rw[<-List.take_succ_eq_append_getElem hj] at hsP hsT;have hlu:=D7 (b3 _ (List.getElem_mem hj)).2;refine za<|Ab<|Ah<|wr'<|?_;refine V' (Bh lk lk B8 nb ro om ro rfl) pt ?_;refine Vw (Ax lk Dv rfl)<|E' (Bz hl7 ha7) pt<|E' (Ai lk cv gx rfl nb rfl Li hs7) ptn<|sn'<|wr'<|fq<|Vw (Aa lk gx gt0)<|fq<|Vw (Aa lk gx gt0)<|?_;refine Af mp (Pw a4 om) pt ?_;refine mw<|Vw (B7 lk gt)<|Vw (B7 lk gt)<|mw<|ms<|Ah<|wm<|Vw (Bj lk)<|mw<|Am<|?_;refine An ?_;refine Bg lk (λhc4=>?_) (λhc4=>?_)
  .have hb:hasN r.1 s.1[j].1=false:=by simpa using hc4
   have hF:=qQ hb;rw[if_neg (by rw[hb];simp)] at hsP;rw[hF] at hsT;replace hsT:betT D9 r.1 (s.1.take (j+1))=betT D9 r.1 (s.1.take j):=hsT.trans (List.append_nil _);refine Bl<|dg<|Dw (Aa lk gx gt1)<|dg<|Dw (Aa lk gx gt0)<|dg<|Dw (Ak lk gx Ig rfl)<|?_;refine Br mp (λhE hX=>cP om) pt ?_;refine Dw (Bb (H6 cw cw))<|D5 rfl rfl (hlk hn rfl) (G8 (Dk cw)) pt B2<|Bi<|?_;refine Eg Rm ?_;refine E' (C6 (C0 lk gx rfl Dv nb) lk gx (Gm _) om rfl hs5) pt ?_;refine fq<|E' (Ai lk cv gx rfl nb rfl Gi hs3) ptn<|Am<|Aw<|Aw<|An<|Aq<|?_;refine ad<|mw<|Am<|Az<|?_;refine lU' (⟨j+1,p+1,q⟩) (by (try dsimp only);omega) (by refine zz ?_;exact bk' 7 hn hlt (by rw[hsP,hsT,List.length_append,Bt];rfl) (hT:=by simp[AV.lt,AV.ltL,Ent.lt]) (hE:=by simp[AV.lt,AV.ltL,Ent.lt]))
  have hb:hasN r.1 s.1[j].1=true:=by simpa using hc4
  obtain⟨hp,hkl⟩:=fY a4 hb;have hlr:=D7 (a3 _ (List.getElem_mem hp)).2;rw[if_pos hb,List.append_nil] at hsP;refine Ab<|Bl<|dg<|Dw (Aa lk gx gt0)<|Dw vm<|?_;refine D' (Bh (k:=posN r.1 s.1[j].1) lk lk B8 nb ro om ro rfl) pt ?_;refine Dw (Cj lk dp1)<|Dw (Ax lk Bv rfl)<|dg<|Dw (Ak lk gx Ig rfl)<|?_;refine Br mp (λhE hX=>rsame_a) pt ?_;refine Dw (Bj lk)<|Dw vm<|Bi<|?_;refine B9 ?_;refine sn' ?_;refine Bg lk (λhc5=>?_) (λhc5=>?_)
  .have hne:¬r.1[posN r.1 s.1[j].1].2=s.1[j].2:=by simpa using hc5
   have hF:betF D9 r.1 s.1[j]=some (s.1[j].1,D9 r.1[posN r.1 s.1[j].1].2 s.1[j].2):=by unfold betF;rw[hkl];dsimp only;rw[if_neg hne]
   rw[hF] at hsT;refine Bl<|dg<|Dw (Aa lk gx gt2)<|dg<|Dw (Aa lk gx gt0)<|dg<|Dw (Aa lk gx gt0)<|Dw vm<|?_;refine D' (Bh (k:=posN r.1 s.1[j].1) lk lk B8 nb ro om ro rfl) pt ?_;refine Dw (Cj lk dp1)<|Dw (Ax lk Bv rfl)<|dg<|Dw (Ak lk gx Ig rfl)<|?_;refine Br mp (λhE hX=>bH (t:=r.1[posN r.1 s.1[j].1].2) (u:=s.1[j].2) om om) pt ?_;refine Dw (Bb (N1 cw cw))<|D5 rfl rfl (hlk hn rfl) (G8 (Na cw)) pt B2<|Bi<|?_;refine Eg Rm ?_;refine E' (C6 (C0 lk gx rfl Ui nb) lk gx (Xs _) om rfl hs6) pt ?_;refine fq<|E' (Ai lk cv gx rfl nb rfl Lj hs3) ptn<|Am<|Aw<|Aw<|An<|Aq<|?_;refine ad<|mw<|Am<|Az<|?_;refine lU' (⟨j+1,p,q+1⟩) (by (try dsimp only);omega) (by refine zz ?_;exact bk' 7 hn hlt (by rw[hsP,hsT,List.length_append,Bt];rfl) (hT:=by simp[AV.lt,AV.ltL,Ent.lt]) (hE:=by simp[AV.lt,AV.ltL,Ent.lt]))
  have hne:r.1[posN r.1 s.1[j].1].2=s.1[j].2:=by simpa using hc5
  have hF:betF D9 r.1 s.1[j]=none:=by unfold betF;rw[hkl];dsimp only;rw[if_pos hne]
  rw[hF] at hsT;replace hsT:betT D9 r.1 (s.1.take (j+1))=betT D9 r.1 (s.1.take j):=hsT.trans (List.append_nil _);refine Be<|Aw<|Aw<|An<|Aq<|?_;refine ad<|mw<|Am<|Az<|?_;refine lU' (⟨j+1,p,q⟩) (by (try dsimp only);omega) (by refine zz ?_;exact bk' 7 hn hlt (by rw[hsP,hsT];rfl) (hT:=by simp[AV.lt,AV.ltL,Ent.lt]) (hE:=by simp[AV.lt,AV.ltL,Ent.lt]))
 rw[List.take_of_length_le (show s.1.length<=j by omega)] at *;refine Bd<|As<|As<|Bp<|?_;refine B0 (ALe.trans (ALe.iceCellRF (hga hn rfl) (hga hn rfl) om gt0 (List.take_of_length_le (by rw[H1];exact Nat.le_refl _)) (by rw[H1];exact Nat.le_refl _) rfl pt0 hs4 hs3) (ALe.trans (ALe.iceCellRF (hga hn rfl) (hga hn rfl) om gt1 (List.take_of_length_le (by rw[Gm];exact Nat.le_refl _)) (by rw[Gm];exact Nat.le_refl _) rfl pt1 hs5 hs3) (ALe.iceCellRF (hga hn rfl) (hga hn rfl) om gt2 (List.take_of_length_le (by rw[Xs];exact Nat.le_refl _)) (by rw[Xs];exact Nat.le_refl _) rfl pt2 hs6 hs3))) ?_;exact wr'<|Vw (Ak lk gx Av rfl)<|E' (Ai lk cv gx rfl nb rfl Ay hs2) ptn<|sr<|Ad (rs1 (rr_c gt gx (ld1 Av rfl)))<|rT' rfl
def rel_lt {n:Nat}(l:List Rel):AV.ltL n (rows relC l)=true:=Eh (λn x=>by simp[AV.ltL,AV.lt,Ib,Dn]) l
attribute [local simp] rel_lt
def diffU_at {r s:Rel}{k:Nat}(hk:k<[r,s].length) (h0 : ∀ j (hj:j<[r,s].length),j<k->Cb [r,s][j]=0) (h:Cb [r,s][k]≠0):Nz r s=(upd0,Cb [r,s][k]):=by
 match k,hk with
 | 0,_=>exact if_pos h
 | 1,_ =>
  have h1:Cb r=0:=h0 0 (by simp) om
  have h2:Cb s≠0:=h
  unfold Nz
  rw[if_neg (by simpa using h1),if_pos h2];rfl
def diffU_ok {s:Rel}(h0 : ∀ j (hj:j<[r,s].length),Cb [r,s][j]=0):Cb r=0/\Cb s=0/\Nz r s=(betU r s,0):=by
 have h1:Cb r=0:=h0 0 (by simp);have h2:Cb s=0:=h0 1 (by simp);refine⟨h1,h2,?_⟩;unfold Nz;rw[if_neg (by simpa using h1),if_neg (by simpa using h2)]
def wk_upd0 {e:AV}:Wk (.tup [.agg [.sl 0 0 true [],.sl 0 0 true [],.sl 0 0 true [],.sl 0 0 true []],e]) (.tup [.agg (Wn upd0),e]):=Wk.tup (wkw (Wk.agg (wkw Wk.nilS (wkw Wk.nilS (wkw Wk.nilS (wkw Wk.nilS wk0))))) (wk1 rfl wk0))
def pY {r s:Rel}{h:AH}(hr:F9 r) (hs:F9 s) :
  Ac 13 [.agg [.sl r.1.length 5 false (rows namC r.1),.sl r.2.length 2 false (rows lnkC r.2)],.agg [.sl s.1.length 5 false (rows namC s.1),.sl s.2.length 2 false (rows lnkC s.2)]] h (.tup [.agg (Wn (Nz r s).1),iv (Nz r s).2]):=by
 refine tW' k13 λN hn hlt _ hbd=>?_;simp only[tb'] at hbd ⊢;refine wr'<|E' (Bq cv rfl hl0 ha0) pt<|E' (Bq cv rfl hl1 ha1) pt<|E' (Bz hl2 ha2) pt<|ms<|Ab<|wr'<|Vw (Ak lk gx B1 rfl)<|Vw (Ak lk gx B1 rfl)<|E' (Ep (kN cw cw) hl3 ha3) pt<|?_;refine Vw (Ej lk)<|ms<|Ah<|?_;refine w_lp (ι:=Nat) (λ(k:Nat)=>[(13,iv (k:Int)),(5,.any),(7,.any),(8,.any)]++rn' 14 10) (λ(k:Nat)=>[(3,.mk 0 25 2 (rows relC [r,s]))]) (λ(k:Nat)=>k<=[r,s].length /\ ∀ j (hj:j<[r,s].length),j<k->Cb [r,s][j]=0) (λ(k:Nat)=>2-k) (0) (by exact⟨by simp,λj hj h0=>by omega⟩) ?_;rintro k hi1;try simp only[sm',Nat.reduceAdd]
 obtain⟨hk1,hk2⟩:=hi1;have hlen:[r,s].length=2:=rfl;refine wr'<|Vw (Bm lk lk)<|sn'<|Ab<|?_;refine cd' lk (λhc1=>?_) (λhc1=>?_)
 .have hk:k<[r,s].length:=by omega
  have hok:F9 [r,s][k]:=by
   match k,hk with
   | 0,_=>exact hr
   | 1,_=>exact hs
  refine za<|Ab<|Ah<|wr'<|?_;refine V' (Ck lk lk gx (λ_=>rfl) nb ro om (by first | rfl | (simp;done) | omega)) pt ?_;refine V' (Iv lk gx (λ_=>rfl) om rfl) pt ?_;refine E' (Bz hl4 ha4) pt<|E' (Ai lk cv gx rfl nb rfl Cc hs4) ptn<|sn'<|wr'<|Vw (Ak lk gx B1 rfl)<|Af mp (Xg (t:=[r,s][k].1) (k:=[r,s][k].2) hok) pt<|ms<|wm<|?_;refine Vw (Ca lk lki)<|sn'<|?_;refine cd' lk (λhc2=>?_) (λhc2=>?_)
  .refine wr'<|Vw (Bb eQ)<|mw<|E' (Ai lk cv gx rfl nb rfl Ay hs2) ptn<|mr<|Au<|Ag<|Ag<|Au<|Ag<|?_;refine Ad (rsn (rm1 (rr_c gt gx (ld1 Av rfl)) (rm1 (rr_t gt) rm0)))<|rtW'<|?_;have hE:=diffU_at hk hk2 hc2;rw[hE];exact wk_upd0
  refine Be<|Aw<|An<|Aq<|?_;refine ad<|mw<|Am<|Az<|?_;refine lU' (k+1) (by (try dsimp only);exact⟨by omega,λj hj h0=>by by_cases e:j=k;subst e;exact Decidable.of_not_not hc2;exact hk2 j hj om⟩) (by refine zz ?_;exact bk' 4 hn hlt (hT:=by simp[AV.lt,AV.ltL,Ent.lt]) (hE:=by simp[AV.lt,AV.ltL,Ent.lt]))
 refine Bd<|As<|As<|Bp<|An<|?_;have hz:=diffU_ok (r:=r) (s:=s) λj hj=>hk2 j hj om;refine wr'<|Vw (Ak lk gx B1 rfl)<|Vw (Ak lk gx B1 rfl)<|Af mp (betR_f hz.1 hz.2.1) pt<|E' (Ai lk cv gx rfl nb rfl Ay hs2) ptn<|mr<|Ad (rsn (rm1 (rr_c gt gx (ld1 Av rfl)) (rm1 (rr_t gt) rm0)))<|rtW'<|?_;rw[hz.2.2];exact Wk.refl _
def diffR_a {s:Rel}(hr:F9 r) (hs:F9 s) :
  Ac 13 [.agg [.sl r.1.length 5 false (rows namC r.1),.sl r.2.length 2 false (rows lnkC r.2)],.agg [.sl s.1.length 5 false (rows namC s.1),.sl s.2.length 2 false (rows lnkC s.2)]] h (.tup [.agg (updC (Nz r s).1),iv (Nz r s).2]):=(pY hr hs).wkR (Wk.tup (wkw Wi (wk1 rfl wk0)))
end
section
open Go.Ab Go.RowKit Civ
attribute [local simp] Cp Ib Dn
section
def Hb :([e0,e1]:AH)++[d0]=[e0,e1,d0]:=rfl
def J3 {τ:Operand->AV}{y0:Operand}{a:AV}(h0:Lf τ y0 [a]):Cm τ [(1,1,y0)] [(.sl 0 0 true []),(.sl 0 0 true [])]=some [(.sl 0 0 true []),a]:=fl h0 rfl
def Lh {e2 e3 e4:Ent}:([e0,e1,e2,e3,e4]:AH)++[d0]=[e0,e1,e2,e3,e4,d0]:=rfl
end
def k10:=Kx 10 [.e [4] 5 [true,false,false]]
def k9:=Kx 9 [.e [] 17 [false,false,false]]
def copT_a {t:Tab}{full:Bool}(hl:t.2.length<=3518437208883):Ac 10 [.agg [iv t.1.1,iv t.1.2.1,sv t.1.2.2,.sl t.2.length 4 full (rows chgC t.2)]] h (tabA t):=by
 refine tI' k10 λN hn _ _ hbd=>?_;simp only[tb'] at hbd ⊢;refine wr'<|E' (Bq cv rfl hl0 ha0) pt<|E' (Bz hl1 ha1) pt<|Am<|?_;refine B0 (ALe.icePtr gx gt1 (by simp) pt1 hs0) ?_;refine Ab<|Bl<|Dw (Cj lk dp0)<|d_ldR lk rfl pt<|D5 rfl rfl (hlk hn rfl) (G8 F7) pt B2<|Dw (Cj lk dp3)<|Dw (Ba lk gt)<|Bi<|?_;refine Eg Hb ?_;refine E' (C6 (Qf lk (Cu _)) lk gx rfl om (M7 _) hs2) pt ?_;refine Vw (Bb (Ef cw cw))<|E' (Ai lk cv gx rfl nb rfl Ay hs1) ptn<|Am<|?_;refine B0 (ALe.iceCellN (hga hn rfl) (hga hn rfl) om gt3 (show List.take _ _=rows chgC t.2 from by rw[List.nil_append,Nat.zero_add];exact List.take_of_length_le (by rw[Cu];exact Nat.le_refl _)) (by rw[List.nil_append,Nat.zero_add,Cu];exact Nat.le_refl _) (by exact Nat.zero_add _) pt3 hs2 hs1) ?_;exact C4<|Ad (rs1 (rr_c gt gx (ld1 Av rfl)))<|rT' rfl
def Xo (r:Rel):Prop:=r.1.length<=1954687338211/\r.2.length<=4398046511104 /\ ∀ n∈r.1,n.2.2.length<=3518437208883
def copR_a (hl:Xo r):Ac 9 [.agg (relC r)] h (.agg (relC r)):=by
 obtain⟨l1,l2,l3⟩:=hl;refine tI' k9 λN hn hlt _ hbd=>?_;simp only[tb'] at hbd ⊢;refine wr'<|E' (Bq cv rfl hl0 ha0) pt<|E' (Bz hl1 ha1) pt<|Am<|?_;refine B0 (ALe.icePtr gx gt1 (by simp) pt1 hs0) ?_;refine wr'<|E' (Ep F7 hl2 ha2) pt<|Vw (Cj lk dp1)<|Vw (Ba lk gt)<|?_;refine E' (C6 (Qf lk (Kd _)) lk gx rfl om (gW _) hs2) pt ?_;refine Vw (Bb (J3 cw))<|E' (Bz hl3 ha3) pt<|E' (Ai lk cv gx rfl nb rfl Cc hs3) ptn<|Am<|?_;refine B0 (ALe.iceCellN (hga hn rfl) (hga hn rfl) om gt1 (show List.take _ _=rows lnkC r.2 from by rw[List.nil_append,Nat.zero_add];exact List.take_of_length_le (by rw[Kd];exact Nat.le_refl _)) (by rw[List.nil_append,Nat.zero_add,Kd];exact Nat.le_refl _) (by exact Nat.zero_add _) pt1 hs2 hs3) ?_;refine Ab<|wm<|Am<|?_;refine B0 (ALe.own0Cell (st':=5) (ty:=76) gx gt0 hl4 pt0 (Eq.trans (congrArg (λz=>List.set z _ _) ha4) hs3)) ?_;refine Ah ?_;refine w_lp (ι:=Nat×Nat) (λ⟨i,v⟩=>[(4,iv (i:Int))]++rn' 10 26) (λ⟨i,v⟩=>[(3,.mk 0 25 2 [.own (N+4) v (r.1.take i).length,.sl r.2.length 2 false (rows lnkC r.2)]),(4,.mk v 76 5 (rows namC (r.1.take i)))]) (λ⟨i,v⟩=>i<=r.1.length) (λ⟨i,v⟩=>r.1.length-i) (⟨0,0⟩) (by exact Nat.zero_le _) ?_;rintro⟨i,v⟩ hi1;try simp only[sm',Nat.reduceAdd]
 replace hi1:i<=r.1.length:=hi1;have htl:(r.1.take i).length<=r.1.length:=by rw[List.length_take];omega
 refine Ab<|wm<|Vw (Cj lk dp0)<|Vw (Ba lk gt)<|Vw (Bf lk)<|Vw (Bm lk lk)<|sn'<|?_;refine cd' lk (λhc1=>?_) (λhc1=>?_)
 .have hi:i<r.1.length:=by omega
  have hst:=List.take_succ_eq_append_getElem hi;have htl2:(r.1.take i).length<r.1.length:=by rw[List.length_take];omega
  refine za<|Ab<|Ah<|Bl<|dg<|Dw (Aa lk gx gt0)<|Dw (Cj lk dp0)<|Dw (Ba lk gt)<|Dw vm<|?_;refine D' (Bh lk lk B8 nb ro om ro rfl) pt ?_;refine Dw (Cj lk dp0)<|Dw (Ba lk gt)<|Dw (Cj lk dp0)<|Dw (Ba lk gt)<|Dw vm<|?_;refine D' (Bh lk lk B8 nb ro om ro rfl) pt ?_;refine Dw (Cj lk dp1)<|Dw (Ax lk Bv rfl)<|?_;refine Br mp (λhE hX=>copT_a (l3 _ (List.getElem_mem hi))) pt ?_;refine Dw (Bb (H6 cw cw))<|D5 rfl rfl (hlk hn rfl) (G8 (Dk cw)) pt B2<|Bi<|?_;refine Eg Lh ?_;refine E' (C6 (C0 lk gx rfl Dv nb) lk gx (F0 _) om rfl hs4) pt ?_;refine fq<|E' (Ai lk cv gx rfl nb rfl Ct hs3) ptn<|Am<|Aw<|An<|Aq<|mw<|?_;refine ad<|mw<|Am<|Az<|?_;refine lU' (⟨i+1,v+1⟩) (by (try dsimp only);omega) (by refine zz ?_;exact bk' 5 hn hlt (by rw[hst,List.length_append,Bt];rfl) (hT:=by simp[AV.lt,AV.ltL,Ent.lt]) (hE:=by simp[AV.lt,AV.ltL,Ent.lt]))
 rw[List.take_of_length_le (show r.1.length<=i by omega)] at *;refine Bd<|As<|As<|Bp<|?_;refine B0 (ALe.iceCellR (hga hn rfl) (hga hn rfl) om gt0 (List.take_of_length_le (by rw[F0];exact Nat.le_refl _)) (by rw[F0];exact Nat.le_refl _) pt0 hs4 hs3) ?_;exact wr'<|Vw (Ak lk gx B1 rfl)<|E' (Ai lk cv gx rfl nb rfl Cc hs1) ptn<|sr<|Ad (rs1 (rr_c gt gx (ld1 B1 rfl)))<|rT' rfl
end
end Go.Proofs.YtfcecekilahfiaaGreatDoor
namespace Go.Ab
section
def preN:Nat->Code->Code
 | 0,.seq a _=>a
 | n+1,.seq a b=>.seq a (preN n b)
 | _,c=>c
def sufN:Nat->Code->Code
 | 0,.seq _ b=>b
 | n+1,.seq _ b=>sufN n b
 | _,c=>c
def aL:Nat->Code->Bool
 | 0,.seq _ _=>true
 | n+1,.seq _ b=>aL n b
 | _,_=>false
def P6:Code->Code
 | .seq (.seq _ (.block _ (.loop (.seq _ (.seq (.block _ i) _))))) _=>i
 | c=>c
def Lc (P:Program) (f:FuncId):Code:=match P.funcs[f]? with
 | some fn=>fn.body.getD .skip
 | none=>.skip
def Wg [Rd] {P:Program}{n0:Nat}{G:List AV->AH->Prop}{K:Exit->Act->World->Prop}{w0:World}{S0:Nat->Prop}{g0:Gh} : ∀ (n:Nat) {c:Code}{ac:AC}{T:List AV}{h:AH}{a:Act}{w:World}{g:Gh},aL n c=true->comp P (preN n c)=some ac ->
  aw P n0 ac (AX.thn G λ_ _ _=>False) T h->St n0 w0 S0 g0 T h a w g ->
  (∀ T' h' a' w' g',St n0 w0 S0 g0 T' h' a' w' g'->G T' h'->(sufN n c).wpIn Rd.F 0 P K a' w')->c.wpIn Rd.F 0 P K a w
 | 0,c,ac,T,h,a,w,g,hl,hc,hw,st,hk=>by
  cases c <;> simp only[aL] at hl <;> try (cases hl;done)
  rename_i x y;simp only[preN,sufN] at hc hk;refine wpIn_seq (wpIn_mono (Fw x ac hc hw w0 S0 g0 a w g st) ?_);rintro e a' w' ⟨z,T',h',g',h1,h2,h3⟩;cases z <;> simp only[AX.thn] at h3;cases e <;> simp only[ExR] at h2;exact hk _ _ _ _ _ h1 h3
 | n+1,c,ac,T,h,a,w,g,hl,hc,hw,st,hk=>by
  cases c <;> simp only[aL] at hl <;> try (cases hl;done)
  rename_i x y;simp only[preN,sufN,comp] at hc hk;split at hc <;> try (cases hc;done)
  rename_i xa xb h1 h2;cases hc;simp only[aw] at hw;refine wpIn_seq (wpIn_mono (Fw x xa h1 hw w0 S0 g0 a w g st) ?_);rintro e a' w' ⟨z,T',h',g',k1,k2,k3⟩;cases z <;> simp only[AX.thn] at k3;cases e <;> simp only[ExR] at k2;obtain⟨T1,hh1,hle,hw2⟩:=k3;obtain⟨g2,st2⟩:=hle w0 S0 g0 a' w' g' k1;exact Wg n hl h2 hw2 st2 hk
def SimH.later {w w2:World}{g:Gh}{h:AH}(hs:SimH w g h) (hno : ∀ k,¬Ow g h k) (hsz:w.heap.size<=w2.heap.size) (hD : ∀ k,g.D k->w2.heap[k]?=w.heap[k]?):SimH w2 g h:=by
 refine⟨λid v t s c he=>?_,hs.inj,λk hk=>Nat.lt_of_lt_of_le (hs.lt k hk) hsz,hs.fresh,hs.free,hs.glob.mono (λ_ h=>h) hD,λi k o T vs he=>absurd (.inr ⟨i,o,T,vs,he⟩) (hno k),hs.rinj,λk hk=>⟨Nat.lt_of_lt_of_le (hs.x k hk).1 hsz,(hs.x k hk).2⟩⟩;obtain⟨A,cap,h1,h2,h3⟩:=hs.ent _ _ _ _ _ he;refine⟨A,cap,h1,h2,?_⟩;rcases h3 with h3 | ⟨b,arr,rfl,h4,_⟩
 .exact .inl h3
 .exact absurd (.inl ⟨id,v,t,s,c,_,cap,he,h1,h4,rfl⟩) (hno b)
def gNow (w:World) (g:Gh) (df:List Deferred):Gh:=⟨g.D,λ_ _=>none,df,⟨λk=>k<w.heap.size/\¬g.D k,g.D⟩⟩
def SimH.now {w:World}{g:Gh}{h:AH}(hs:SimH w g h) (df:List Deferred):SimH w (gNow w g df) [] :=
 ⟨λid v t s c he=>by simp at he,λi j k hi _=>by obtain⟨_,_,_,_,_,_,h,_⟩:=hi;simp at h,hs.lt,λid v l hl=>by simp[gNow] at hl,λid v l hl=>by simp[gNow] at hl,⟨hs.glob.w,λk hk=>hk.elim (λh=>hs.glob.d k (.inl h)) id⟩,
  λi k o T vs he=>by simp at he,λi j k hi _=>by obtain⟨_,_,_,h⟩:=hi;simp at h,λk hk=>⟨hk.1,hk.2,by rintro (⟨_,_,_,_,_,_,_,h,_⟩ | ⟨_,_,_,_,h⟩) <;> simp at h⟩⟩
def sX {w w1:World}{g g1:Gh}{h1:AH}{df:List Deferred}(hle:(gNow w g df).le g1) (hs:SimH w1 g1 h1) {b:Nat}(hd:g1.D b) (hb:¬g1.X.B b):w.heap.size<=b:=by
 rw[hle.X] at hb;by_cases hlt:b<w.heap.size
 .exact absurd hd (hs.x b (by rw[hle.X];exact⟨hlt,hb⟩)).2.1
 .omega
mutual
/-- it names no entry, and tells of nothing that it was made anew -/
def AV.nf:AV->Bool
 | .v _=>true
 | .any=>true
 | .sl _ _ _ cs=>AV.nfL cs
 | .rp cs=>AV.nfL cs
 | .agg cs=>AV.nfL cs
 | .tup cs=>AV.nfL cs
 | .clo _ cs=>AV.nfL cs
 | .bnd _ cs=>AV.nfL cs
 | .rx _ _ cs=>AV.nfL cs
 | _=>false
def AV.nfL:List AV->Bool
 | []=>true
 | c::cs=>c.nf&&AV.nfL cs
end
mutual
def Rep.nb {w w':World}{g g':Gh}(hD : ∀ k,g.D k->g'.D k) (hw : ∀ k,g.D k->w'.heap[k]?=w.heap[k]?) : ∀ (c:AV) (y:Value),c.nf=true->Rep w g c y->Rep w' g' c y
 | .v x,y,_,h=>by simp only[Rep] at h ⊢;exact h
 | .any,y,_,h=>by simp only[Rep]
 | .sl n st full cells,y,hn,h=>by
  simp only[Rep] at h ⊢;simp only[AV.nf] at hn;obtain⟨h0,A,cap,h1,h2,h3,h4,h5,h6⟩:=h;refine⟨h0,A,cap,h1,h2,h3,h4,h5,λhne=>?_⟩;obtain⟨b,off,e,hd,hc⟩:=h6 hne;exact⟨b,off,e,hD _ hd,RepC.nb hD hw cells b off hn hd hc⟩
 | .rp cells,y,hn,h=>by
  simp only[Rep] at h ⊢;simp only[AV.nf] at hn;obtain⟨b,off,e,hd,hc⟩:=h;exact⟨b,off,e,hD _ hd,RepC.nb hD hw cells b off hn hd hc⟩
 | .agg cells,y,hn,h=>by
  simp only[Rep] at h ⊢;simp only[AV.nf] at hn;obtain⟨vs,e,hc⟩:=h;exact⟨vs,e,RepL.nb hD hw cells _ hn hc⟩
 | .tup cells,y,hn,h=>by
  simp only[Rep] at h ⊢;simp only[AV.nf] at hn;obtain⟨vs,e,hc⟩:=h;exact⟨vs,e,RepL.nb hD hw cells _ hn hc⟩
 | .clo fn cells,y,hn,h=>by
  simp only[Rep] at h ⊢;simp only[AV.nf] at hn;obtain⟨vs,e,hc⟩:=h;exact⟨vs,e,RepL.nb hD hw cells _ hn hc⟩
 | .bnd fn cells,y,hn,h=>by
  simp only[Rep] at h ⊢;simp only[AV.nf] at hn;obtain⟨vs,e,hc⟩:=h;exact⟨vs,e,RepL.nb hD hw cells _ hn hc⟩
 | .rx b off cells,y,hn,h=>by
  simp only[Rep] at h ⊢;simp only[AV.nf] at hn;obtain⟨e,hd,hc⟩:=h;exact⟨e,hD _ hd,RepC.nb hD hw cells b off hn hd hc⟩
 | .own _ _ _,_,hn,_=>by simp only[AV.nf] at hn;cases hn
 | .ptr _ _ _,_,hn,_=>by simp only[AV.nf] at hn;cases hn
 | .fs _ _ _,_,hn,_=>by simp only[AV.nf] at hn;cases hn
def RepC.nb {w w':World}{g g':Gh}(hD : ∀ k,g.D k->g'.D k) (hw : ∀ k,g.D k->w'.heap[k]?=w.heap[k]?) : ∀ (cs:List AV) (b off:Nat),AV.nfL cs=true->g.D b->RepC w g cs b off->RepC w' g' cs b off
 | [],_,_,_,_,_=>by simp only[RepC]
 | c::cs,b,off,hn,hd,h=>by
  simp only[RepC] at h ⊢;simp only[AV.nfL,Bool.and_eq_true] at hn;obtain⟨⟨u,h1,h2⟩,h3⟩:=h;exact⟨⟨u,(World.cell?_of_block (a:=⟨b,off,none⟩) (hw b hd)).trans h1,Rep.nb hD hw c u hn.1 h2⟩,RepC.nb hD hw cs b (off+1) hn.2 hd h3⟩
def RepL.nb {w w':World}{g g':Gh}(hD : ∀ k,g.D k->g'.D k) (hw : ∀ k,g.D k->w'.heap[k]?=w.heap[k]?) : ∀ (cs:List AV) (vs:List Value),AV.nfL cs=true->RepL w g cs vs->RepL w' g' cs vs
 | [],_,_,h=>by simp only[RepL] at h ⊢;exact h
 | c::cs,vs,hn,h=>by
  simp only[RepL] at h ⊢;simp only[AV.nfL,Bool.and_eq_true] at hn;obtain⟨u,us,e,h1,h2⟩:=h;exact⟨u,us,e,Rep.nb hD hw c u hn.1 h1,RepL.nb hD hw cs us hn.2 h2⟩
end
def dD : ∀ (a b:List AV),AV.nfL (a++b)=(AV.nfL a&&AV.nfL b)
 | [],b=>by simp only[List.nil_append,AV.nfL,Bool.true_and]
 | c::a,b=>by simp only[List.cons_append,AV.nfL,dD a b,Bool.and_assoc]
def pC : ∀ n,AV.nfL (List.replicate n .any)=true
 | 0=>rfl
 | n+1=>by simp only[List.replicate_succ,AV.nfL,AV.nf,pC n,Bool.and_true]
def AV.exB:AV->Bool
 | .v _=>true
 | .any=>true
 | .rx _ _ _=>true
 | _=>false
def Tn {w w':World}{g g':Gh} : ∀ (T:List AV) (l l':List Value),T.all AV.exB=true->RepL w g T l->RepL w' g' T l'->RepL w g T l'
 | [],l,l',_,_,h'=>h'
 | c::T,l,l',he,h,h'=>by
  simp only[RepL] at h h' ⊢;simp only[List.all_cons,Bool.and_eq_true] at he;obtain⟨u,us,rfl,h1,h2⟩:=h;obtain⟨u',us',rfl,k1,k2⟩:=h';refine⟨u',us',rfl,?_,Tn T us us' he.2 h2 k2⟩;have hc:=he.1;cases c <;> first | (simp[AV.exB] at hc;done) | skip
  .simp only[Rep] at h1 k1 ⊢;exact k1
  .simp only[Rep]
  .simp only[Rep] at h1 k1 ⊢;exact⟨k1.1,h1.2⟩
def fT {w:World}{g:Gh}{T T15:List AV}{l:List Value}{m n:Nat}(h:RepL w g T l) (hT:T.take m=T15) (hl:T.length=m+n):RepL w g (T15++List.replicate n .any) l:=by
 have h1:=h.take m;rw[hT] at h1;have h2:=Kw w g (l.drop m);have hll:=h.length;have:=h1.append h2;rw[List.take_append_drop] at this;rwa [show (l.drop m).length=n by rw[List.length_drop,hll];omega] at this
def lpA:Code->Code
 | .seq (.seq a (.block _ (.loop (.seq _ (.seq (.block _ _) _))))) _=>a
 | c=>c
def lpB:Code->Code
 | .seq (.seq _ (.block _ (.loop (.seq b (.seq (.block _ _) _))))) _=>b
 | c=>c
def lpC:Code->Code
 | .seq (.seq _ (.block _ (.loop (.seq _ (.seq (.block _ _) d))))) _=>d
 | c=>c
def lpD:Code->Code
 | .seq (.seq _ (.block _ (.loop (.seq _ (.seq (.block _ _) _))))) e=>e
 | c=>c
def lpI:Code->Option (Nat×Nat)
 | .seq (.seq _ (.block i (.loop (.seq _ (.seq (.block j _) _))))) _=>some (i,j)
 | _=>none
def lp_eq {c:Code}{i j:Nat}(h:lpI c=some (i,j)):c=.seq (.seq (lpA c) (.block i (.loop (.seq (lpB c) (.seq (.block j (P6 c)) (lpC c)))))) (lpD c):=by
 unfold lpI at h;split at h <;> try (cases h;done)
 simp only[Option.some.injEq,Prod.mk.injEq] at h;obtain⟨rfl,rfl⟩:=h;rfl
def arr_at {α:Type}{a:Array α}{d:α}{n:Nat}(h:a.size=n):a=((List.range n).map λk=>a.getD k d).toArray:=by
 subst h;apply Array.ext
 .simp
 .intro i h1 h2;simp[h1]
end
section
section
def Gh.wx (g:Gh) (X:Nat->Prop):Gh:=⟨g.D,g.loc,g.df,⟨X,g.X.B⟩⟩
mutual
def Rep.wx {w:World}{g:Gh}{X:Nat->Prop} : ∀ (c:AV) (y:Value),Rep w (g.wx X) c y=Rep w g c y
 | .v _,_=>by simp only[Rep]
 | .any,_=>by simp only[Rep]
 | .own _ _ _,_=>by simp only[Rep,Gh.wx]
 | .ptr _ _ _,_=>by simp only[Rep,Gh.wx]
 | .sl _ _ _ cs,_=>by simp only[Rep,RepC.wx cs];rfl
 | .rp cs,_=>by simp only[Rep,RepC.wx cs];rfl
 | .agg cs,_=>by simp only[Rep,RepL.wx cs]
 | .tup cs,_=>by simp only[Rep,RepL.wx cs]
 | .clo _ cs,_=>by simp only[Rep,RepL.wx cs]
 | .bnd _ cs,_=>by simp only[Rep,RepL.wx cs]
 | .fs _ _ cs,_=>by simp only[Rep,RepC.wx cs];rfl
 | .rx _ _ cs,_=>by simp only[Rep,RepC.wx cs];rfl
def RepC.wx {w:World}{g:Gh}{X:Nat->Prop} : ∀ (cs:List AV) (b off:Nat),RepC w (g.wx X) cs b off=RepC w g cs b off
 | [],_,_=>by simp only[RepC]
 | c::cs,_,_=>by simp only[RepC,Rep.wx c,RepC.wx cs]
def RepL.wx {w:World}{g:Gh}{X:Nat->Prop} : ∀ (cs:List AV) (vs:List Value),RepL w (g.wx X) cs vs=RepL w g cs vs
 | [],_=>by simp only[RepL]
 | c::cs,_=>by simp only[RepL,Rep.wx c,RepL.wx cs]
end
def SimH.wx {w:World}{g:Gh}{h:AH}(hs:SimH w g h) (X:Nat->Prop) (hx : ∀ k,X k->k<w.heap.size/\¬g.D k/\¬Ow g h k):SimH w (g.wx X) h :=
  ⟨λi v t s c he=>by
    obtain⟨A,cap,h1,h2,h3⟩:=hs.ent i v t s c he;refine⟨A,cap,h1,h2,h3.imp id ?_⟩;rintro⟨b,arr,e,f0,f1,f2,f3,f4,f5⟩;exact⟨b,arr,e,f0,f1,f2,f3,f4,by rw[RepL.wx];exact f5⟩,
   hs.inj,hs.lt,hs.fresh,hs.free,⟨hs.glob.w,hs.glob.d⟩,λi k o T vs he=>by rw[RepL.wx];exact hs.raw i k o T vs he,hs.rinj,hx⟩
variable {P : Program}
def ACalls.frame {f:FuncId}{args:List AV}{h0 h1:AH}{x:AE}(z:AH) (hc:ACalls P f args h0 λy k=>k=h1/\y=x) (hl:h1.length=h0.length) (hx:x.lt h0.length=true) (ha0:AV.ltL h0.length args=true) (hlt : ∀ e∈h0,e.lt h0.length=true):ACalls P f args (h0++z) λy k=>k=h1++z/\y=x:=by
 refine⟨hc.1,λw g vs hs ha=>?_⟩;have hcut:=hs.cut hlt;have hX : ∀ k,(g.X k \/ ∃ i,h0.length<=i/\(OwAt g (h0++z) i k\/RwAt (h0++z) i k))->k<w.heap.size/\¬(g.cut h0.length).D k/\¬Ow (g.cut h0.length) h0 k:=by
  rintro k (hk | ⟨i,hi,hk⟩)
  .obtain⟨x1,x2,x3⟩:=hs.x k hk;exact⟨x1,x2,λho=>x3 ho.of_cut⟩
  .have hk':Ow g (h0++z) k:=hk.imp (λh=>⟨i,h⟩) (λh=>⟨i,h⟩);refine⟨(hs.own_not_D hk').2,(hs.own_not_D hk').1,?_⟩;rintro (⟨j,v,ty,s,c,b,cap,e1,e2,e3,e4⟩ | ⟨j,o,T,us,e1⟩)
   .have hj:=(List.getElem?_eq_some_iff.1 e1).1;simp only[Gh.cut,if_pos hj] at e2;have how:OwAt g (h0++z) j k:=⟨v,ty,s,c,b,cap,by rw[List.getElem?_append_left hj];exact e1,e2,e3,e4⟩;rcases hk with hk | hk
    .have:=hs.inj _ _ _ hk how;omega
    .exact hs.own_ne_raw how hk
   .have hj:=(List.getElem?_eq_some_iff.1 e1).1;have hrw:RwAt (h0++z) j k:=⟨o,T,us,by rw[List.getElem?_append_left hj];exact e1⟩;rcases hk with hk | hk
    .exact hs.own_ne_raw hk hrw
    .have:=hs.rinj _ _ _ hk hrw;omega
 refine (hc.2 w _ vs (hcut.wx _ hX) (by rw[RepL.wx];exact RepL.cut _ _ ha0 ha)).mono ?_;rintro e w' ⟨y,k1,g1,r1,r2,r3,r4,r5,rfl,rfl⟩;have hnD : ∀ i k,h0.length<=i->OwAt g (h0++z) i k\/RwAt (h0++z) i k->¬g1.D k/\¬Ow g1 k1 k/\w'.heap[k]?=w.heap[k]?:=by
  intro i k hi hk;have hXk:=hX k (.inr ⟨i,hi,hk⟩);have:=r2.x k (by rw[r3.X];exact .inr ⟨i,hi,hk⟩);refine⟨this.2.1,this.2.2,r4.block k hXk.1 ?_⟩;rintro (⟨j,v,ty,s,c,b,cap,e1,e2⟩ | ⟨j,h⟩)
  .exact hXk.2.2 (.inl ⟨j,v,ty,s,c,b,cap,e1,e2⟩)
  .exact hXk.2.2 (.inr ⟨j,h⟩)
 have hOw : ∀ k,Ow ((g.cut h0.length).wx λk=>g.X k \/ ∃ i,h0.length<=i/\(OwAt g (h0++z) i k\/RwAt (h0++z) i k)) h0 k->Ow g (h0++z) k:=λk hk=>Ow.of_cut (k:=k) (g:=g) (x:=z) hk;let g2:Gh:=⟨g1.D,λi v=>if i<h0.length then g1.loc i v else g.loc i v,g.df,⟨g.X.p,g1.X.B⟩⟩;have hg:(g1.cut h0.length).wx g.X.p |>.le g2:=by
  refine⟨λ_ h=>h,λi v l h=>?_,rfl⟩;simp only[Gh.wx,Gh.cut] at h;split at h
  .rename_i hi;simp only[g2,if_pos hi];exact h
  .cases h
 have hto : ∀ (c:AV) (v:Value),c.lt h0.length=true->Rep w' g1 c v->Rep w' g2 c v:=λc v h1 h2=>Rep.mono hg (λ_ _=>rfl) _ _ (by rw[Rep.wx];exact Rep.cut _ _ h1 h2);have htoL : ∀ (c:List AV) (v:List Value),AV.ltL h0.length c=true->RepL w' g1 c v->RepL w' g2 c v:=λc v h1 h2=>RepL.mono hg (λ_ _=>rfl) _ _ (by rw[RepL.wx];exact RepL.cut _ _ h1 h2);have hle:g.le g2:=⟨r3.D,λi v l h=>by
  simp only[g2];split
  .rename_i hi;exact r3.loc _ _ _ (by simp only[Gh.wx,Gh.cut,if_pos hi];exact h)
  .exact h,by show (⟨g.X.p,g1.X.B⟩:XB)=g.X;rw[r3.X];rfl⟩
 have hw : ∀ k,g.D k->w'.heap[k]?=w.heap[k]?:=λk hk=>r4.block k (hs.lt k hk) (λho=>(hs.own_not_D (hOw k ho)).1 hk);have hl1:=r2.ltE;rw[hl] at hl1;have get : ∀ {i:Nat} {e:Ent},(k1++z)[i]?=some e->(i<h0.length/\k1[i]?=some e)\/(h0.length<=i/\(h0++z)[i]?=some e):=by
  intro i e he;by_cases hi:i<h0.length
  .rw[List.getElem?_append_left om] at he;exact .inl ⟨hi,he⟩
  .rw[List.getElem?_append_right om,hl] at he;exact .inr ⟨by omega,by rw[List.getElem?_append_right om];exact he⟩
 have ow : ∀ {i k:Nat},OwAt g2 (k1++z) i k->(i<h0.length/\OwAt g1 k1 i k)\/(h0.length<=i/\OwAt g (h0++z) i k):=by
  rintro i k ⟨v,ty,s,c,b,cap,e1,e2,e3,e4⟩;simp only[g2] at e2;rcases get e1 with ⟨hi,h1⟩ | ⟨hi,h1⟩
  .rw[if_pos hi] at e2;exact .inl ⟨hi,v,ty,s,c,b,cap,h1,e2,e3,e4⟩
  .rw[if_neg om] at e2;exact .inr ⟨hi,v,ty,s,c,b,cap,h1,e2,e3,e4⟩
 have rw_ : ∀ {i k:Nat},RwAt (k1++z) i k->(i<h0.length/\RwAt k1 i k)\/(h0.length<=i/\RwAt (h0++z) i k):=by
  rintro i k ⟨o,T,us,e1⟩;rcases get e1 with ⟨hi,h1⟩ | ⟨hi,h1⟩
  .exact .inl ⟨hi,o,T,us,h1⟩
  .exact .inr ⟨hi,o,T,us,h1⟩
 refine⟨y,_,g2,?_,⟨?_,?_,r2.lt,?_,?_,⟨r2.glob.w,r2.glob.d⟩,?_,?_,?_⟩,hle,⟨r4.os,r4.tape,r4.output,r4.size,λk h1 h2=>r4.block k h1 (λho=>h2 (hOw k ho))⟩,?_,rfl,rfl⟩
 .cases y <;> cases e <;> simp only[EndR] at r1 ⊢
  .exact hto _ _ hx r1
  .obtain⟨v,e1,e2⟩:=r1;exact⟨v,e1,hto _ _ hx e2⟩
 .intro i v ty s c he;rcases get he with ⟨hi,h1⟩ | ⟨hi,h1⟩
  .obtain⟨A,cap,f1,f2,f3⟩:=r2.ent _ _ _ _ _ h1;refine⟨A,cap,by simp only[g2,if_pos hi];exact f1,f2,f3.imp id ?_⟩;rintro⟨b,arr,e,q0,q1,q2,q3,q4,q5⟩;exact⟨b,arr,e,q0,q1,q2,q3,q4,htoL _ _ (by simpa [Ent.lt] using hl1 _ (List.mem_of_getElem? h1)) q5⟩
  .obtain⟨A,cap,f1,f2,f3⟩:=hs.ent _ _ _ _ _ h1;refine⟨A,cap,by simp only[g2,if_neg (show ¬i<h0.length by omega)];exact f1,f2,f3.imp id ?_⟩;rintro⟨b,arr,rfl,q0,q1,q2,q3,q4,q5⟩;obtain⟨n1,n2,n3⟩:=hnD i b hi (.inl ⟨v,ty,s,c,_,cap,h1,f1,q0,rfl⟩);exact⟨b,arr,rfl,q0,n1,n3.trans q2,q3,q4,RepL.mono hle hw _ _ q5⟩
 .intro i j k h1 h2;rcases ow h1 with ⟨hi,h1⟩ | ⟨hi,h1⟩ <;> rcases ow h2 with ⟨hj,h2⟩ | ⟨hj,h2⟩
  .exact r2.inj _ _ _ h1 h2
  .exact absurd (.inl ⟨i,h1⟩) (hnD j k hj (.inl h2)).2.1
  .exact absurd (.inl ⟨j,h2⟩) (hnD i k hi (.inl h1)).2.1
  .exact hs.inj _ _ _ h1 h2
 .intro i v l h1;simp only[g2] at h1;by_cases hi:i<h0.length
  .rw[if_pos hi] at h1;refine⟨by simp;omega,λv' ty s c he=>?_⟩;rcases get he with ⟨_,h2⟩ | ⟨h2,_⟩
   .exact (r2.fresh _ _ _ h1).2 _ _ _ _ h2
   .omega
  .rw[if_neg hi] at h1;obtain⟨q1,q2⟩:=hs.fresh _ _ _ h1;refine⟨by simp at q1 ⊢;omega,λv' ty s c he=>?_⟩;rcases get he with ⟨h2,_⟩ | ⟨_,h2⟩
   .omega
   .exact q2 _ _ _ _ h2
 .intro i v l h1 hfr;simp only[g2] at h1;rcases get hfr with ⟨hi,h2⟩ | ⟨hi,h2⟩
  .rw[if_pos hi] at h1;exact r2.free _ _ _ h1 h2
  .rw[if_neg om] at h1;exact hs.free _ _ _ h1 h2
 .intro i k o T us he;rcases get he with ⟨hi,h1⟩ | ⟨hi,h1⟩
  .obtain⟨q1,q2,q3,q4⟩:=r2.raw _ _ _ _ _ h1;exact⟨q1,q2,q3,htoL _ _ (by simpa [Ent.lt] using hl1 _ (List.mem_of_getElem? h1)) q4⟩
  .obtain⟨q1,q2,q3,q4⟩:=hs.raw _ _ _ _ _ h1;obtain⟨n1,n2,n3⟩:=hnD i k hi (.inr ⟨o,T,us,h1⟩);exact⟨n3.trans q1,q2,n1,RepL.mono hle hw _ _ q4⟩
 .intro i j k h1 h2;rcases rw_ h1 with ⟨hi,h1⟩ | ⟨hi,h1⟩ <;> rcases rw_ h2 with ⟨hj,h2⟩ | ⟨hj,h2⟩
  .exact r2.rinj _ _ _ h1 h2
  .exact absurd (.inr ⟨i,h1⟩) (hnD j k hj (.inr h2)).2.1
  .exact absurd (.inr ⟨j,h2⟩) (hnD i k hi (.inr h1)).2.1
  .exact hs.rinj _ _ _ h1 h2
 .intro k hk;obtain⟨x1,x2,x3⟩:=hs.x k hk;obtain⟨y1,y2,y3⟩:=r2.x k (by rw[r3.X];exact .inl hk);refine⟨y1,y2,?_⟩;rintro (⟨i,ho⟩ | ⟨i,ho⟩)
  .rcases ow ho with ⟨_,h1⟩ | ⟨_,h1⟩
   .exact y3 (.inl ⟨i,h1⟩)
   .exact x3 (.inl ⟨i,h1⟩)
  .rcases rw_ ho with ⟨_,h1⟩ | ⟨_,h1⟩
   .exact y3 (.inr ⟨i,h1⟩)
   .exact x3 (.inr ⟨i,h1⟩)
 .rintro k (⟨i,ho⟩ | ⟨i,ho⟩)
  .rcases ow ho with ⟨_,h1⟩ | ⟨_,h1⟩
   .exact (r5 k (.inl ⟨i,h1⟩)).imp (hOw k) id
   .exact .inl (.inl ⟨i,h1⟩)
  .rcases rw_ ho with ⟨_,h1⟩ | ⟨_,h1⟩
   .exact (r5 k (.inr ⟨i,h1⟩)).imp (hOw k) id
   .exact .inl (.inr ⟨i,h1⟩)
end
section
mutual
/-- entries from n on are read alone from now on, and told in place -/
def AV.frz (h:AH) (n:Nat):Nat->AV->Option AV
 | 0,_=>none
 | k+1,c=>bif c.lt n then some c else match c with
  | .own id ver m=>match h[id]? with
   | some (.mk u _ s cells)=>if u=ver/\m*s<=cells.length then (AV.frzL h n k (cells.take (m*s))).bind λcs=>if cs.length=m*s then some (.sl m s false cs) else none else none
   | _=>none
  | .ptr id ver off=>match h[id]? with
   | some (.mk u _ _ cells)=>if u=ver/\cells≠[] then (AV.frzL h n k (cells.drop off)).map .rp else none
   | _=>none
  | .sl a b f cs=>(AV.frzL h n k cs).bind λds=>if ds.length=cs.length then some (.sl a b f ds) else none
  | .agg cs=>(AV.frzL h n k cs).map .agg
  | .tup cs=>(AV.frzL h n k cs).map .tup
  | _=>none
def AV.frzL (h:AH) (n:Nat):Nat->List AV->Option (List AV)
 | 0,_=>none
 | _+1,[]=>some []
 | k+1,c::cs=>match AV.frz h n k c,AV.frzL h n k cs with
  | some d,some ds=>some (d::ds)
  | _,_=>none
end
def Gh.frz (g:Gh) (h:AH) (n:Nat):Gh:=⟨λk=>g.D k \/ ∃ i,n<=i/\OwAt g h i k,λi v=>if i<n then g.loc i v else none,g.df,g.X⟩
def Gh.cut_le_frz (g:Gh) (h:AH) (n:Nat):(g.cut n).le (g.frz h n):=⟨λ_ h=>.inl h,λ_ _ _ h=>h,rfl⟩
def length_nil {α:Type}{l m:List α}(h:l.length=m.length) (hl:l≠[]):m≠[]:=by rintro rfl;exact hl (List.length_eq_zero_iff.1 h)
mutual
def AV.frz_rep {w:World}{g:Gh}{h:AH}(hs:SimH w g h) (n:Nat) : ∀ (k:Nat) (c d:AV) (y:Value),AV.frz h n k c=some d->Rep w g c y->Rep w (g.frz h n) d y
 | 0,c,d,y,he,hr=>by simp[AV.frz] at he
 | k+1,c,d,y,he,hr=>by
  simp only[AV.frz] at he;cases hlt:c.lt n with
  | true=>rw[hlt] at he;cases he;exact Rep.mono (g.cut_le_frz h n) (λ_ _=>rfl) _ _ (Rep.cut _ _ hlt hr)
  | false =>
   rw[hlt] at he
   simp only[cond_false] at he
   cases c <;> try (cases he;done)
   case own id ver m =>
    simp only at he
    split at he <;> try (cases he;done)
    rename_i v ty s cells hi
    split at he <;> try (cases he;done)
    rename_i hc
    obtain⟨rfl,hle⟩:=hc
    rw[Option.bind_eq_some_iff] at he
    obtain⟨cs,h1,he⟩:=he
    split at he <;> try (cases he;done)
    rename_i hcl
    cases he
    simp only[Rep] at hr ⊢
    obtain⟨A,cap,e1,e2,e3,rfl⟩:=hr
    obtain⟨A',cap',f1,_,f3⟩:=hs.ent _ _ _ _ _ hi
    rw[e1] at f1
    simp only[Option.some.injEq,Prod.mk.injEq] at f1
    obtain⟨rfl,rfl⟩:=f1
    have hid:n<=id:=by simpa [AV.lt] using hlt
    refine⟨hcl,A,cap,rfl,e2,e3,(λh=>by cases h),?_,λhne=>?_⟩
    .rintro rfl
     rcases f3 with ⟨_,h0⟩ | ⟨b,arr,e,_⟩
     .exact h0
     .cases e
    .rcases f3 with ⟨rfl,_⟩ | ⟨b,arr,rfl,hc0,hd,hb,_,hl,hrl⟩
     .have:=List.length_pos_iff.2 hne;rw[hcl] at this;simp at hle;omega
     .refine⟨b,0,rfl,.inr ⟨id,hid,v,ty,s,cells,_,cap,hi,e1,hc0,rfl⟩,RepC.of_row hb _ 0 ?_⟩
      have h2:=hrl.take (m*s)
      rw[List.take_take,Nat.min_eq_left hle] at h2
      have:=AV.frzL_rep hs n k _ _ _ h1 h2
      rw[<-hcl] at this
      simpa using this
   case ptr id ver off =>
    simp only at he
    split at he <;> try (cases he;done)
    rename_i v ty s cells hi
    split at he <;> try (cases he;done)
    rename_i hc
    obtain⟨rfl,hne⟩:=hc
    rw[Option.map_eq_some_iff] at he
    obtain⟨cs,h1,rfl⟩:=he
    simp only[Rep] at hr ⊢
    obtain⟨b,cap,e1,rfl⟩:=hr
    obtain⟨A',cap',f1,_,f3⟩:=hs.ent _ _ _ _ _ hi
    rw[e1] at f1
    simp only[Option.some.injEq,Prod.mk.injEq] at f1
    obtain⟨rfl,rfl⟩:=f1
    have hid:n<=id:=by simpa [AV.lt] using hlt
    rcases f3 with ⟨rfl,_⟩ | ⟨b',arr,e,hc0,hd,hb,_,hl,hrl⟩
    .exact absurd rfl hne
    .cases e
     refine⟨b,off,rfl,.inr ⟨id,hid,v,ty,s,cells,_,cap,hi,e1,hc0,rfl⟩,?_⟩
     have h2:RepC w g (cells.drop off) b off:=RepC.of_row hb _ _ (by
      have:=hrl.drop off;rw[List.drop_take] at this;simpa using this)
     exact AV.frzC_rep hs n k _ _ _ _ h1 h2
   case sl a s f cs =>
    simp only[Option.bind_eq_some_iff] at he
    obtain⟨ds,h1,he⟩:=he
    split at he <;> try (cases he;done)
    rename_i hcl
    cases he
    simp only[Rep] at hr ⊢
    obtain⟨h0,A,cap,e1,e2,e3,e4,e5,e6⟩:=hr
    refine⟨hcl.trans h0,A,cap,e1,e2,e3,e4,e5,λhne=>?_⟩
    obtain⟨b,off,q1,q2,q3⟩:=e6 (length_nil hcl hne)
    exact⟨b,off,q1,.inl q2,AV.frzC_rep hs n k _ _ _ _ h1 q3⟩
   case agg cs =>
    simp only[Option.map_eq_some_iff] at he
    obtain⟨ds,h1,rfl⟩:=he
    simp only[Rep] at hr ⊢
    obtain⟨vs,e,hc⟩:=hr
    exact⟨vs,e,AV.frzL_rep hs n k _ _ _ h1 hc⟩
   case tup cs =>
    simp only[Option.map_eq_some_iff] at he
    obtain⟨ds,h1,rfl⟩:=he
    simp only[Rep] at hr ⊢
    obtain⟨vs,e,hc⟩:=hr
    exact⟨vs,e,AV.frzL_rep hs n k _ _ _ h1 hc⟩
def AV.frzL_rep {w:World}{g:Gh}{h:AH}(hs:SimH w g h) (n:Nat) : ∀ (k:Nat) (cs ds:List AV) (vs:List Value),AV.frzL h n k cs=some ds->RepL w g cs vs->RepL w (g.frz h n) ds vs
 | 0,cs,ds,vs,he,hr=>by simp[AV.frzL] at he
 | k+1,[],ds,vs,he,hr=>by simp only[AV.frzL,Option.some.injEq] at he;subst he;simpa only [RepL] using hr
 | k+1,c::cs,ds,vs,he,hr=>by
  simp only[AV.frzL] at he;split at he <;> try (cases he;done)
  rename_i d ds' h1 h2;cases he;simp only[RepL] at hr ⊢;obtain⟨u,us,e,r1,r2⟩:=hr;exact⟨u,us,e,AV.frz_rep hs n k _ _ _ h1 r1,AV.frzL_rep hs n k _ _ _ h2 r2⟩
def AV.frzC_rep {w:World}{g:Gh}{h:AH}(hs:SimH w g h) (n:Nat) : ∀ (k:Nat) (cs ds:List AV) (b off:Nat),AV.frzL h n k cs=some ds->RepC w g cs b off->RepC w (g.frz h n) ds b off
 | 0,cs,ds,b,off,he,hr=>by simp[AV.frzL] at he
 | k+1,[],ds,b,off,he,hr=>by simp only[AV.frzL,Option.some.injEq] at he;subst he;simp only[RepC]
 | k+1,c::cs,ds,b,off,he,hr=>by
  simp only[AV.frzL] at he;split at he <;> try (cases he;done)
  rename_i d ds' h1 h2;cases he;simp only[RepC] at hr ⊢;obtain⟨⟨u,r1,r2⟩,r3⟩:=hr;exact⟨⟨u,r1,AV.frz_rep hs n k _ _ _ h1 r2⟩,AV.frzC_rep hs n k _ _ _ _ h2 r3⟩
end
def SimH.frz {w:World}{g:Gh}{h:AH}(hs:SimH w g h) {n:Nat}(hn:n<=h.length) (hlt : ∀ e∈h.take n,e.lt n=true):SimH w (g.frz h n) (h.take n) /\ ∀ k,Ow (g.frz h n) (h.take n) k->Ow g h k:=by
 have get : ∀ {i:Nat} {e:Ent},(h.take n)[i]?=some e->i<n/\h[i]?=some e:=by
  intro i e he;rw[List.getElem?_take] at he;split at he
  .rename_i hi;exact⟨hi,he⟩
  .cases he
 have ow : ∀ {i k:Nat},OwAt (g.frz h n) (h.take n) i k->i<n/\OwAt g h i k:=by
  rintro i k ⟨v,ty,s,c,b,cap,e1,e2,e3,e4⟩;obtain⟨hi,h1⟩:=get e1;simp only[Gh.frz,if_pos hi] at e2;exact⟨hi,v,ty,s,c,b,cap,h1,e2,e3,e4⟩
 have rw_ : ∀ {i k:Nat},RwAt (h.take n) i k->RwAt h i k:=λ⟨o,T,us,e⟩=>⟨o,T,us,(get e).2⟩;have zt : ∀ (c:List AV) (v:List Value),AV.ltL n c=true->RepL w g c v->RepL w (g.frz h n) c v:=λc v h1 h2=>RepL.mono (g.cut_le_frz h n) (λ_ _=>rfl) _ _ (RepL.cut _ _ h1 h2);refine⟨⟨?_,λi j k h1 h2=>hs.inj _ _ _ (ow h1).2 (ow h2).2,?_,?_,?_,⟨hs.glob.w,λk hk=>.inl (hs.glob.d k hk)⟩,?_,λi j k h1 h2=>hs.rinj _ _ _ (rw_ h1) (rw_ h2),?_⟩,?_⟩
 .intro i v ty s c he;obtain⟨hi,h1⟩:=get he;obtain⟨A,cap,f1,f2,f3⟩:=hs.ent _ _ _ _ _ h1;refine⟨A,cap,by simp only[Gh.frz,if_pos hi];exact f1,f2,f3.imp id ?_⟩;rintro⟨b,arr,rfl,q0,q1,q2,q3,q4,q5⟩;refine⟨b,arr,rfl,q0,?_,q2,q3,q4,zt _ _ (by simpa [Ent.lt] using hlt _ (List.mem_of_getElem? he)) q5⟩;rintro (hd | ⟨j,hj,ho⟩)
  .exact q1 hd
  .have:=hs.inj i j b ⟨v,ty,s,c,_,cap,h1,f1,q0,rfl⟩ ho;omega
 .rintro k (hk | ⟨j,hj,hk⟩)
  .exact hs.lt k hk
  .exact (hs.own_not_D (.inl ⟨_,hk⟩)).2
 .intro i v l hl;simp only[Gh.frz] at hl;split at hl <;> try (cases hl;done)
  rename_i hi;exact⟨by rw[List.length_take];omega,λv' ty s c he=>(hs.fresh _ _ _ hl).2 _ _ _ _ (get he).2⟩
 .intro i v l hl he;simp only[Gh.frz] at hl;split at hl <;> try (cases hl;done)
  exact hs.free _ _ _ hl (get he).2
 .intro i k o T us he;obtain⟨q1,q2,q3,q4⟩:=hs.raw _ _ _ _ _ (get he).2;refine⟨q1,q2,?_,zt _ _ (by simpa [Ent.lt] using hlt _ (List.mem_of_getElem? he)) q4⟩;rintro (hd | ⟨j,hj,ho⟩)
  .exact q3 hd
  .exact hs.own_ne_raw ho ⟨o,T,us,(get he).2⟩
 .intro k hk;obtain⟨x1,x2,x3⟩:=hs.x k hk;refine⟨x1,?_,?_⟩
  .rintro (hd | ⟨j,hj,ho⟩)
   .exact x2 hd
   .exact x3 (.inl ⟨j,ho⟩)
  .exact λho=>x3 (ho.imp (λ⟨i,h⟩=>⟨i,(ow h).2⟩) (λ⟨i,h⟩=>⟨i,rw_ h⟩))
 .exact λk ho=>ho.imp (λ⟨i,h⟩=>⟨i,(ow h).2⟩) (λ⟨i,h⟩=>⟨i,rw_ h⟩)
variable {P : Program}
def ACalls.frz {f:FuncId}{args:List AV}{h h1:AH}{c d:AV}{k:Nat}(hc:ACalls P f args h λy z=>z=h1/\y=.ret c) (hn:h.length<=h1.length) (hlt:(h1.take h.length).all (Ent.lt h.length)=true) (hd:c.frz h1 h.length k=some d):ACalls P f args h λy z=>z=h1.take h.length/\y=.ret d:=by
 refine⟨hc.1,λw g vs hs ha=>(hc.2 w g vs hs ha).mono ?_⟩;rintro e w' ⟨y,k1,g1,r1,r2,r3,r4,r5,rfl,rfl⟩;obtain⟨s1,s2⟩:=r2.frz hn (List.all_eq_true.1 hlt);cases e <;> simp only[EndR] at r1;refine⟨.ret d,_,_,by simp only[EndR];exact AV.frz_rep r2 _ _ _ _ _ hd r1,s1,⟨λk hk=>.inl (r3.D k hk),λi v l hl=>?_,r3.X⟩,r4,λk hk=>r5 k (s2 k hk),rfl,rfl⟩;simp only[Gh.frz,if_pos (hs.fresh _ _ _ hl).1];exact r3.loc _ _ _ hl
end
section
def kT:Value->Value->Bool
 | .int k a,.int k' b=>decide (k=k')&&decide (a=b)
 | .string a,.string b=>decide (a=b)
 | .bool a,.bool b=>a==b
 | .tuple ⟨[]⟩,.tuple ⟨[]⟩=>true
 | _,_=>false
def rF : ∀ {a b:Value},kT a b=true->a=b:=by
 intro a b h;unfold kT at h;split at h <;> simp at h
 .rw[h.1,h.2]
 .rw[h]
 .rw[h]
 .rfl
mutual
def AV.eqb:AV->AV->Bool
 | .v a,.v b=>kT a b
 | .any,.any=>true
 | .sl n s f cs,.sl n' s' f' cs'=>decide (n=n')&&decide (s=s')&&(f==f')&&AV.eqbL cs cs'
 | .own a b c,.own a' b' c'=>decide (a=a')&&decide (b=b')&&decide (c=c')
 | .ptr a b c,.ptr a' b' c'=>decide (a=a')&&decide (b=b')&&decide (c=c')
 | .rp cs,.rp cs'=>AV.eqbL cs cs'
 | .agg cs,.agg cs'=>AV.eqbL cs cs'
 | .tup cs,.tup cs'=>AV.eqbL cs cs'
 | _,_=>false
def AV.eqbL:List AV->List AV->Bool
 | [],[]=>true
 | c::cs,d::ds=>AV.eqb c d&&AV.eqbL cs ds
 | _,_=>false
end
mutual
def AV.eqb_eq : ∀ {a b:AV},AV.eqb a b=true->a=b
 | .v a,b,h=>by cases b <;> simp only[AV.eqb] at h <;> first | rw[rF h] | cases h
 | .any,b,h=>by cases b <;> simp only[AV.eqb] at h <;> first | rfl | cases h
 | .sl n s f cs,b,h=>by
  cases b <;> simp only[AV.eqb] at h <;> try (cases h;done)
  simp only[Bool.and_eq_true,decide_eq_true_eq,beq_iff_eq] at h;rw[h.1.1.1,h.1.1.2,h.1.2,AV.eqbL_eq h.2]
 | .own n s f,b,h=>by
  cases b <;> simp only[AV.eqb] at h <;> try (cases h;done)
  simp only[Bool.and_eq_true,decide_eq_true_eq] at h;rw[h.1.1,h.1.2,h.2]
 | .ptr n s f,b,h=>by
  cases b <;> simp only[AV.eqb] at h <;> try (cases h;done)
  simp only[Bool.and_eq_true,decide_eq_true_eq] at h;rw[h.1.1,h.1.2,h.2]
 | .rp cs,b,h=>by cases b <;> simp only[AV.eqb] at h <;> first | rw[AV.eqbL_eq h] | cases h
 | .agg cs,b,h=>by cases b <;> simp only[AV.eqb] at h <;> first | rw[AV.eqbL_eq h] | cases h
 | .tup cs,b,h=>by cases b <;> simp only[AV.eqb] at h <;> first | rw[AV.eqbL_eq h] | cases h
 | .clo _ _,b,h=>by cases b <;> simp only[AV.eqb] at h <;> cases h
 | .bnd _ _,b,h=>by cases b <;> simp only[AV.eqb] at h <;> cases h
 | .rx _ _ _,b,h=>by cases b <;> simp only[AV.eqb] at h <;> cases h
 | .fs _ _ _,b,h=>by cases b <;> simp only[AV.eqb] at h <;> cases h
def AV.eqbL_eq : ∀ {a b:List AV},AV.eqbL a b=true->a=b
 | [],b,h=>by cases b <;> simp only[AV.eqbL] at h <;> first | rfl | cases h
 | c::cs,b,h=>by
  cases b <;> simp only[AV.eqbL] at h <;> try (cases h;done)
  simp only[Bool.and_eq_true] at h;rw[AV.eqb_eq h.1,AV.eqbL_eq h.2]
end
def Ub:Option Ent->Option Ent->Bool
 | some (.mk a b c cs),some (.mk a' b' c' cs')=>decide (a=a')&&decide (b=b')&&decide (c=c')&&AV.eqbL cs cs'
 | none,none=>true
 | some .gone,some .gone=>true
 | _,_=>false
def bD {a b:Option Ent}(h:Ub a b=true):a=b:=by
 unfold Ub at h;split at h <;> first | rfl | cases h | skip
 simp only[Bool.and_eq_true,decide_eq_true_eq] at h;rw[h.1.1.1,h.1.1.2,h.1.2,AV.eqbL_eq h.2]
abbrev CE:=FuncId->List AV->AH->Option (AE×AH)
variable {P : Program}
def F6 (P:Program) (C:CE):Prop := ∀ f args h x h1,C f args h=some (x,h1)->ACalls P f args h λy k=>k=h1/\y=x
def evFn:AV->List AV->Option (FuncId×List AV)
 | .v (.func (.func k) ⟨[]⟩ ⟨[]⟩),args=>some (k,args)
 | .clo (.func k) caps,args=>some (k,args++caps)
 | .bnd (.func k) first,args=>some (k,first++args)
 | _,_=>none
def bB {f:AV}{args ats:List AV}{k:FuncId}(h:evFn f args=some (k,ats)) {z:AH}{R:AE->AH->Prop}(hc:ACalls P k ats z R):Hy P f args z R:=by
 unfold evFn at h;split at h <;> cases h
 .exact⟨rfl,rfl,hc⟩
 .exact hc
 .exact hc
def dW (C:CE) (f:AV) (args:List AV) (h:AH):Option (AE×AH):=match evFn f args with
 | some (k,ats)=>C k ats h
 | none=>none
def T9 {C:CE}(hC:F6 P C) {f:AV}{args:List AV}{h:AH}{x:AE}{h1:AH}(he:dW C f args h=some (x,h1)) {R:AE->AH->Prop}(hR:R x h1):Hy P f args h R:=by
 unfold dW at he;split at he <;> try (cases he;done)
 rename_i k ats hk;exact bB hk ((hC _ _ _ _ _ he).mono λy z ⟨e1,e2⟩=>by rw[e1,e2];exact hR)
def Q8 (C:CE) (h0:AH) (f:AV) (args:List AV):Option AV:=match evFn f args with
  | some (k, ats) => bif AV.ltL 0 ats then (match C k ats [] with
      | some (.ret c,[])=>bif c.lt 0 then some c else none
      | _=>none) else match C k ats h0 with
    | some (.ret c,h1)=>bif AV.ltL h0.length ats&&h0.all (Ent.lt h0.length)&&c.lt h0.length&&decide (h1.length=h0.length)&&(List.range h0.length).all (λi=>Ub h1[i]? h0[i]?) then some c else none
    | _=>none
  | none=>none
def iP {h0 hh:AH}(h:HExt h0 hh) : ∃ z,hh=h0++z:=by
 refine⟨hh.drop h0.length,?_⟩;apply List.ext_getElem?;intro i;by_cases hi:i<h0.length
 .rw[List.getElem?_append_left hi];exact h i _ (List.getElem?_eq_getElem hi) |>.trans (List.getElem?_eq_getElem hi).symm
 .rw[List.getElem?_append_right om,List.getElem?_drop];congr 1;omega
def Mw {C:CE}(hC:F6 P C) {h0:AH}{f:AV}{args:List AV}{c:AV}(he:Q8 C h0 f args=some c) : ∀ h,HExt h0 h->Hy P f args h λr h'=>h'=h/\r=.ret c:=by
 unfold Q8 at he;split at he <;> try (cases he;done)
 rename_i k ats hk;intro h hx;refine bB hk ?_;cases hl:AV.ltL 0 ats with
 | true =>
  rw[hl] at he
  simp only[cond_true] at he
  split at he <;> try (cases he;done)
  rename_i c' hc
  cases hcl:c'.lt 0 with
  | false=>rw[hcl] at he;cases he
  | true =>
   rw[hcl] at he
   cases he
   have:=ACalls.frame h (hC _ _ _ _ _ hc) rfl hcl hl (λe he=>by cases he)
   exact this
 | false =>
  rw[hl] at he
  simp only[cond_false] at he
  split at he <;> try (cases he;done)
  rename_i c' h1 hc
  cases hb:(AV.ltL h0.length ats&&h0.all (Ent.lt h0.length)&&c'.lt h0.length&&decide (h1.length=h0.length)&&(List.range h0.length).all (λi=>Ub h1[i]? h0[i]?)) with
  | false=>rw[hb] at he;cases he
  | true =>
  rw[hb] at he
  cases he
  simp only[Bool.and_eq_true,decide_eq_true_eq,List.all_eq_true,List.mem_range] at hb
  obtain⟨⟨⟨⟨b1,b2⟩,b3⟩,b4⟩,b5⟩:=hb
  obtain⟨z,rfl⟩:=iP hx
  have heq:h1=h0:=by
   apply List.ext_getElem?;intro i;by_cases hi:i<h0.length
   .exact bD (b5 i hi)
   .rw[List.getElem?_eq_none om,List.getElem?_eq_none om]
  subst heq
  exact ACalls.frame z (hC _ _ _ _ _ hc) rfl b3 b1 b2
inductive TM where
 | leaf | node (x:AV) (l r:TM)
def TM.get:TM->List Bool->AV
 | .leaf,_=>.any
 | .node x _ _,[]=>x
 | .node _ l r,b::p=>match b with
  | true=>l.get p
  | false=>r.get p
def TM.put (c:AV):List Bool->TM->TM
 | [],.leaf=>.node c .leaf .leaf
 | [],.node _ l r=>.node c l r
 | b::p,.leaf=>match b with
  | true=>.node .any (TM.put c p .leaf) .leaf
  | false=>.node .any .leaf (TM.put c p .leaf)
 | b::p,.node x l r=>match b with
  | true=>.node x (TM.put c p l) r
  | false=>.node x l (TM.put c p r)
def TM.get_put : ∀ (p q:List Bool) (m:TM) (c:AV),(TM.put c p m).get q=if q=p then c else m.get q
 | [],q,m,c=>by cases m <;> cases q <;> simp[TM.put,TM.get];split <;> rfl
 | b::p,q,m,c=>by
  cases m <;> cases b <;> cases q <;> simp[TM.put,TM.get]
  all_goals
   rename_i d q
   cases d <;> simp[TM.get_put,TM.get]
def pthF:Nat->Nat->List Bool
 | 0,_=>[]
 | k+1,i=>bif Nat.beq i 0 then [] else bif Nat.beq (i%2) 1 then true::pthF k (i/2) else false::pthF k (i/2-1)
def pth (i:Nat):List Bool:=bif Nat.blt i 4095 then pthF 12 i else List.replicate 13 true
def unp:List Bool->Nat
 | []=>0
 | true::p=>2*unp p+1
 | false::p=>2*unp p+2
def tmB:Nat->Nat
 | 0=>1
 | k+1=>2*tmB k+1
def qS (a b:Nat):Nat.beq a b=decide (a=b):=by
 rw[Bool.eq_iff_iff,decide_eq_true_iff];exact⟨Nat.eq_of_beq_eq_true,λh=>by subst h;exact Nat.beq_refl a⟩
def unp_F : ∀ (k i:Nat),i<tmB k->unp (pthF k i)=i
 | 0,i,h=>by simp only[tmB] at h;simp only[pthF,unp];omega
 | k+1,i,h=>by
  simp only[tmB] at h;simp only[pthF,qS];by_cases h0:i=0
  .simp[h0,unp]
  .by_cases h1:i%2=1
   .simp only[h0,h1,decide_false,decide_true,cond_false,cond_true,unp];rw[unp_F k _ om];omega
   .simp only[h0,h1,decide_false,cond_false,unp];rw[unp_F k _ om];omega
def pth_ne {i d:Nat}(hd:d<4095) (h:i≠d):pth i≠pth d:=by
 intro e;have e1:unp (pth d)=d:=by
  unfold pth;rw[show Nat.blt d 4095=true from by rw[Nat.blt_eq];exact hd];exact unp_F 12 d (by simp only[tmB];omega)
 rw[<-e] at e1;unfold pth at e1;cases hb:Nat.blt i 4095 with
 | true =>
  rw[hb] at e1
  rw[Nat.blt_eq] at hb
  exact h ((unp_F 12 i (by simp only[tmB];omega)).symm.trans e1)
 | false =>
  rw[hb] at e1
  have:unp (List.replicate 13 true)=8191:=by decide
  simp only[cond_false] at e1
  omega
def evO (M:TM):Operand->AV
 | .tmp t=>M.get (pth t)
 | .const v=>AV.ofVal v
 | .global _=>.any
 | .func f=>.v (.func (.func f) #[] #[])
structure Rl (m:Nat) (M:TM) (T:List AV):Prop where
 len:T.length=m
 get : ∀ i,(T[i]?).getD .any=M.get (pth i)
def Rl.eval {m:Nat}{M:TM}{T:List AV}(h:Rl m M T):Ae T=evO M:=by
 funext x;cases x <;> simp only[Ae,evO];exact h.get _
def Rl.at {m:Nat}{M:TM}{T:List AV}(h:Rl m M T) {i:Nat}{v:Value}(hv:M.get (pth i)=.v v):T[i]?=some (.v v):=by
 have:=h.get i;rw[hv] at this;cases hT:T[i]? with
 | none=>rw[hT] at this;cases this
 | some c=>rw[hT] at this;rw[show c=.v v from this]
def Qk (m:Nat) (M:TM):Option Nat->AV->Option TM
 | none,_=>some M
 | some d,c=>bif Nat.blt d m&&Nat.blt d 4095 then some (TM.put c (pth d) M) else none
def J1 {m:Nat}{M M':TM}{T:List AV}(h:Rl m M T) {d:Option Nat}{c:AV}(he:Qk m M d c=some M'):Rl m M' (aPut T d c):=by
 cases d with
 | none=>cases he;exact h
 | some d =>
  simp only[Qk] at he
  cases hb:Nat.blt d m&&Nat.blt d 4095 with
  | false=>rw[hb] at he;cases he
  | true =>
   rw[hb] at he
   cases he
   simp only[Bool.and_eq_true,Nat.blt_eq] at hb
   refine⟨by simpa [aPut] using h.len,λi=>?_⟩
   rw[TM.get_put]
   simp only[aPut]
   by_cases hi:i=d
   .subst hi
    rw[if_pos rfl,List.getElem?_set_self (by rw[h.len];exact hb.1)];rfl
   .rw[if_neg (pth_ne hb.2 hi),List.getElem?_set_ne (Ne.symm hi)];exact h.get i
def evG (g:Option (Nat×Bool)) (M:TM):Option Bool:=match g with
 | none=>some true
 | some (t,want)=>match M.get (pth t) with
  | .v (.bool b)=>some (b==want)
  | .v (.tuple _)=>some false
  | _=>none
def Ov {g:Option (Nat×Bool)}{m:Nat}{M:TM}{T:List AV}(hR:Rl m M T) {b:Bool}(h:evG g M=some b) {f:Bool->Prop}(hf:f b):agd g T f:=by
 unfold evG at h;unfold agd;split at h
 .cases h;exact hf
 .dsimp only;split at h <;> cases h <;> rename_i hT <;> simp only[hR.at hT] <;> exact hf
abbrev ES:=Option (AX×TM×AH)
section
variable (m : Nat)
def evN (M:TM) (d:Option Nat) (c:AV) (h:AH):ES:=match Qk m M d c with
 | some M'=>some (.normal,M',h)
 | none=>none
def evOp (C:CE) (o:AOper) (M:TM) (h:AH):ES :=
 match o.op with
 | .call f xs=>match dW C (evO M f) (xs.map (evO M)) h with
  | some (.ret c,h')=>evN m M o.dst c h'
  | some (.pan c,h')=>some (.pan c,M,h')
  | none=>none
 | .panic x=>match evO M x with
  | .v (.iface t v)=>some (.pan (.v (.iface t v)),M,h)
  | _=>none
 | .eqn neg x=>match evO M x with
  | .sl (_+1) _ _ _=>evN m M o.dst (.v (.bool neg)) h
  | _=>none
 | op=>match aval h (evO M) op with
  | some c=>evN m M o.dst c h
  | none=>match aeff h (evO M) op with
   | some (c,h')=>evN m M o.dst c h'
   | none=>none
def Yf (C:CE):List AOper->TM->AH->ES
 | [],M,h=>some (.normal,M,h)
 | o::rest,M,h=>match evG o.guard M with
  | some true=>match evOp m C o M h with
   | some (.normal,M',h')=>Yf C rest M' h'
   | r=>r
  | some false=>match Qk m M o.dst (.v undef) with
   | some M'=>Yf C rest M' h
   | none=>none
  | none=>none
variable {m}
def Pr1 (m:Nat) (r:AX×TM×AH) (Kp:AV->List AV->AH->Prop) (K:List AV->AH->Prop):Prop := ∀ T',Rl m r.2.1 T'->match r.1 with
 | .normal=>K T' r.2.2
 | .pan c=>Kp c T' r.2.2
 | _=>False
def dS {M:TM}{T:List AV}(hR:Rl m M T) {d:Option Nat}{c:AV}{h:AH}{r:AX×TM×AH}(he:evN m M d c h=some r) {Kp:AV->List AV->AH->Prop}{K:List AV->AH->Prop}(hr:Pr1 m r Kp K):K (aPut T d c) h:=by
 unfold evN at he;split at he <;> cases he;rename_i hp;exact hr _ (J1 hR hp)
def pR {C:CE}(hC:F6 P C) {o:AOper}{M:TM}{T:List AV}(hR:Rl m M T) {h:AH}{r:AX×TM×AH}(he:evOp m C o M h=some r) {Kp:AV->List AV->AH->Prop}{K:List AV->AH->Prop}(hr:Pr1 m r Kp K):astep P Kp o T h K:=by
 obtain⟨d,g,op⟩:=o
 have gen:(match aval h (evO M) op with
  | some c=>evN m M d c h
  | none=>match aeff h (evO M) op with
   | some (c,h')=>evN m M d c h'
   | none=>none)=some r->(match aval h (evO M) op with
  | some c=>K (aPut T d c) h
  | none=>match aeff h (evO M) op with
   | some (c,h')=>K (aPut T d c) h'
   | none=>False):=by
  intro he;split at he
  .exact dS hR he hr
  .split at he
   .exact dS hR he hr
   .cases he
 unfold astep;rw[hR.eval];cases op <;> first | exact gen he | skip
 case eqn neg x =>
  simp only[evOp] at he
  dsimp only
  split at he <;> try (cases he;done)
  rename_i hx
  rw[hx]
  intro b hb
  have:b=neg:=hb (Nat.succ_pos _)
  subst this
  exact dS hR he hr
 case call f xs =>
  simp only[evOp] at he
  dsimp only
  split at he <;> try (cases he;done)
  .rename_i hx;exact T9 hC hx (dS hR he hr)
  .rename_i hx;cases he;exact T9 hC hx (hr _ hR)
 case panic x =>
  simp only[evOp] at he
  dsimp only
  split at he <;> cases he
  rename_i hx
  rw[hx];exact hr _ hR
def Yc {C:CE}(hC:F6 P C) {Kp:AV->List AV->AH->Prop}{K:List AV->AH->Prop} : ∀ (al:List AOper) (M:TM) (T:List AV) (h:AH) (r:AX×TM×AH),Rl m M T->Yf m C al M h=some r->Pr1 m r Kp K->arun P Kp al T h K
 | [],M,T,h,r,hR,he,hr=>by cases he;exact hr _ hR
 | o::rest,M,T,h,r,hR,he,hr=>by
  simp only[Yf] at he;simp only[arun];split at he <;> try (cases he;done)
  .rename_i hg;refine Ov hR hg ⟨λ_=>?_,λh=>by cases h⟩;split at he
   .rename_i M' h' ho;exact pR hC hR ho λT' hR'=>Yc hC rest M' T' h' r hR' he hr
   .rename_i hne;refine pR hC hR he ?_;obtain⟨x,T',h'⟩:=r;cases x
    .exact (hne T' h' he).elim
    all_goals exact hr
  .rename_i hg;split at he <;> try (cases he;done)
   rename_i hp;exact Ov hR hg ⟨λh=>(by cases h),λ_=>Yc hC rest _ _ h r (J1 hR hp) he hr⟩
abbrev ED:=Option (TM×AH×List Nat)
def evND (m:Nat) (M:TM) (d:Option Nat) (c:AV) (ents:AH) (rs:List Nat):ED:=match Qk m M d c with
 | some M'=>some (M',ents,rs)
 | none=>none
def jA (m:Nat) (C:CE) (h0:AH) (o:AOper) (M:TM) (ents:AH) (rs:List Nat):ED :=
 match o.op with
 | .call f xs=>match Q8 C h0 (evO M f) (xs.map (evO M)) with
  | some c=>evND m M o.dst c ents rs
  | none=>none
 | .loadR agg sz x=>match evO M x with
  | .rp cs=>match Ed agg sz cs with
   | some c=>evND m M o.dst c ents rs
   | none=>none
  | .ptr id v off=>match h0[id]? with
   | some (.mk v' _ _ cells)=>if v'=v then (match Ed agg sz (cells.drop off) with
    | some c=>evND m M o.dst c ents (id::rs)
    | none=>none) else none
   | _=>none
  | _=>none
 | op=>match aval h0 (evO M) op with
  | some c=>evND m M o.dst c ents rs
  | none=>match aallo (h0.length+ents.length) (evO M) op with
   | some (c,e)=>evND m M o.dst c (ents++[e]) rs
   | none=>match Fb (h0.length+ents.length) (evO M) op with
    | some (c,e)=>evND m M o.dst c (ents++[e]) rs
    | none=>none
def evD (m:Nat) (C:CE) (h0:AH):List AOper->TM->AH->List Nat->ED
 | [],M,ents,rs=>some (M,ents,rs)
 | o::rest,M,ents,rs=>match evG o.guard M with
  | some true=>match jA m C h0 o M ents rs with
   | some (M',ents',rs')=>evD m C h0 rest M' ents' rs'
   | none=>none
  | some false=>match Qk m M o.dst (.v undef) with
   | some M'=>evD m C h0 rest M' ents rs
   | none=>none
  | none=>none
def dU {M:TM}{T:List AV}(hR:Rl m M T) {d:Option Nat}{c:AV}{ents:AH}{rs:List Nat}{r:TM×AH×List Nat}(he:evND m M d c ents rs=some r):r.2.2=rs/\r.2.1=ents/\Rl m r.1 (aPut T d c):=by
 unfold evND at he;split at he <;> cases he;rename_i hp;exact⟨rfl,rfl,J1 hR hp⟩
def evOpD_ok {C:CE}(hC:F6 P C) {h0:AH}{o:AOper}{M:TM}{T:List AV}(hR:Rl m M T) {ents:AH}{rs:List Nat}{r:TM×AH×List Nat}(he:jA m C h0 o M ents rs=some r):(∀ i∈rs,i∈r.2.2) /\ ∀ (RS:List Nat) (K:List AV->AH->Prop),(∀ i∈r.2.2,i∈RS)->(∀ T',Rl m r.1 T'->K T' r.2.1)->adstep P RS h0 o T ents K:=by
 obtain⟨d,g,op⟩:=o;have fin : ∀ {c:AV} {ents':AH} {rs':List Nat},evND m M d c ents' rs'=some r->(∀ i∈rs,i∈rs')->(∀ i∈rs,i∈r.2.2) /\ ∀ (K:List AV->AH->Prop),(∀ T',Rl m r.1 T'->K T' r.2.1)->K (aPut T d c) ents':=by
  intro c ents' rs' he hm;obtain⟨e1,e2,e3⟩:=dU hR he;exact⟨by rw[e1];exact hm,λK hk=>by rw[<-e2];exact hk _ e3⟩
 have gen:(match aval h0 (evO M) op with
  | some c=>evND m M d c ents rs
  | none=>match aallo (h0.length+ents.length) (evO M) op with
   | some (c,e)=>evND m M d c (ents++[e]) rs
   | none=>match Fb (h0.length+ents.length) (evO M) op with
    | some (c,e)=>evND m M d c (ents++[e]) rs
    | none=>none)=some r->(∀ i∈rs,i∈r.2.2) /\ ∀ (RS:List Nat) (K:List AV->AH->Prop),(∀ i∈r.2.2,i∈RS)->(∀ T',Rl m r.1 T'->K T' r.2.1)->(match aval h0 (evO M) op with
  | some c=>K (aPut T d c) ents
  | none => ∃ c ent,(aallo (h0.length+ents.length) (evO M) op=some (c,ent)\/Fb (h0.length+ents.length) (evO M) op=some (c,ent))/\K (aPut T d c) (ents++[ent])):=by
  intro he;split at he
  .exact⟨(fin he λ_ h=>h).1,λ_ K _ hk=>(fin he λ_ h=>h).2 K hk⟩
  .split at he
   .rename_i c e h1;exact⟨(fin he λ_ h=>h).1,λ_ K _ hk=>⟨c,e,.inl h1,(fin he λ_ h=>h).2 K hk⟩⟩
   .split at he
    .rename_i c e h1;exact⟨(fin he λ_ h=>h).1,λ_ K _ hk=>⟨c,e,.inr h1,(fin he λ_ h=>h).2 K hk⟩⟩
    .cases he
 unfold adstep;rw[hR.eval];cases op <;> first | exact gen he | skip
 case loadR agg sz x =>
  simp only[jA] at he
  dsimp only
  split at he <;> try (cases he;done)
  .rename_i cs hx
   split at he <;> try (cases he;done)
   rename_i c hl
   rw[hx]
   simp only[hl]
   exact⟨(fin he λ_ h=>h).1,λ_ K _ hk=>(fin he λ_ h=>h).2 K hk⟩
  .rename_i id v off hx
   split at he <;> try (cases he;done)
   rename_i v' ty s cells hi
   split at he <;> try (cases he;done)
   rename_i hv
   subst hv
   split at he <;> try (cases he;done)
   rename_i c hl
   rw[hx]
   have hf:=fin he λ_ h=>List.mem_cons_of_mem _ h
   refine⟨hf.1,λRS K hm hk=>⟨ty,s,cells,c,hi,hl,hm _ ?_,hf.2 K hk⟩⟩
   rw[(dU hR he).1];exact List.mem_cons_self ..
 case call f xs =>
  simp only[jA] at he
  dsimp only
  split at he <;> try (cases he;done)
  rename_i c hx
  exact⟨(fin he λ_ h=>h).1,λ_ K _ hk=>⟨c,Mw hC hx,(fin he λ_ h=>h).2 K hk⟩⟩
def mP {C:CE}(hC:F6 P C) {h0:AH} : ∀ (al:List AOper) (M:TM) (T:List AV) (ents:AH) (rs:List Nat) (r:TM×AH×List Nat),Rl m M T->evD m C h0 al M ents rs=some r->(∀ i∈rs,i∈r.2.2) /\ ∀ (RS:List Nat) (K:List AV->AH->Prop),(∀ i∈r.2.2,i∈RS)->(∀ T',Rl m r.1 T'->K T' r.2.1)->adrun P RS h0 al T ents K
 | [],M,T,ents,rs,r,hR,he=>by cases he;exact⟨λ_ h=>h,λ_ _ _ h=>h _ hR⟩
 | o::rest,M,T,ents,rs,r,hR,he=>by
  simp only[evD] at he;split at he <;> try (cases he;done)
  .rename_i hg;split at he <;> try (cases he;done)
   rename_i M' e' rs' ho;obtain⟨h1,h2⟩:=evOpD_ok hC hR ho;have h3 : ∀ T',Rl m M' T'->_:=λT' hR'=>mP hC rest M' T' e' rs' r hR' he;have hex : ∃ T',Rl m M' T':=by
    have hh : ∃ c ents2 rs2,evND m M o.dst c ents2 rs2=some (M',e',rs'):=by
     unfold jA at ho;repeat' (split at ho)
     all_goals first | exact⟨_,_,_,ho⟩ | cases ho
    obtain⟨c,e2,r2,hh⟩:=hh;exact⟨_,(dU hR hh).2.2⟩
   obtain⟨T1,hR1⟩:=hex;exact⟨λi hi=>(h3 T1 hR1).1 i (h1 i hi),λRS K hm hk=>Ov hR hg ⟨λ_=>h2 RS _ (λi hi=>hm i ((h3 T1 hR1).1 i hi)) (λT' hR'=>(h3 T' hR').2 RS K hm hk),λh=>by cases h⟩⟩
  .rename_i hg;split at he <;> try (cases he;done)
   rename_i hp;obtain⟨h3,h4⟩:=mP hC rest _ _ _ _ _ (J1 hR hp) he;exact⟨h3,λRS K hm hk=>Ov hR hg ⟨λh=>(by cases h),λ_=>h4 RS K hm hk⟩⟩
abbrev EK:=Option (TM×AH)
def evNK (m:Nat) (M:TM) (d:Option Nat) (c:AV) (h:AH):EK:=match Qk m M d c with
 | some M'=>some (M',h)
 | none=>none
def iO {h:AH}:HExt [] h:=λi x hi=>by simp at hi
def chgE (τ:Operand->AV):AOp->Option Nat
 | .store _ p _=>match τ p with
  | .ptr id _ _=>some id
  | _=>none
 | .app _ _ _ s _=>match τ s with
  | .own id _ _=>some id
  | _=>none
 | _=>none
def chgOk (R:List Nat) (n:Nat) (g:Option Nat):Bool:=R.all λi=>Nat.blt i n&&(match g with
 | some j=>!(Nat.beq i j)
 | none=>true)
end
end
end
end Go.Ab
