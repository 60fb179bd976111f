/-
  A framework: contexts of facts on the abstract heap, contracts, drawn regions. No conditions.
-/
import Derived.Test.YtlnefhbbbikmgabGreatFa
import Derived.Laws.Tables
import Derived.Laws.MakeOwn
import Derived.Laws.StructEq
/-
 Data in the abstract heap: what may be read, what is our own; a context of such facts.
-/
namespace Go.Fw
open Go
structure Sv where
 a:Option Addr
 n:Nat
 m:Nat
abbrev Sv.v(s:Sv):Value:=.slice s.a s.n s.m
def fP(H H':aB):Prop:=∀(k:Nat) b,H[k]?=some (some b)->b.wr=false->H'[k]?=some (some b)
theorem fP.refl(H:aB):fP H H:=fun _ _ h _=>h
theorem fP.trans{a b c:aB}(h:fP a b)(g:fP b c):fP a c:=fun k x hx hw=>g k x (h k x hx hw) hw
theorem qc.mg{H H':aB}(h:qc H H'):fP H H':=fun _ _ hk _=>h.at hk
theorem qh{H:aB}{k:Nat}{x:Option eO}(h:H[k]?=some x):k<H.length:=by
 rcases aQ7 k H.length with h'|h'
 · exact h'
 · simp[aQR h']at h
class bz{α:Type}(R:aB->Value->α->Prop):Prop where
 up:∀{H H':aB}{v:Value}{a:α},R H v a->fP H H'->R H' v a
class Pure{α:Type}(R:aB->Value->α->Prop):Prop where
 any:∀{H H':aB}{v:Value}{a:α},R H v a->R H' v a
instance{α:Type}{R:aB->Value->α->Prop} [Pure R]:bz R:=⟨fun h _=>Pure.any h⟩
def ax(_:aB)(v:Value)(a:Int):Prop:=v= .int .i64 a
def abf(_:aB)(v:Value)(a:UInt8):Prop:=v= .int .u8 (a.toNat:Int)
def rdBool(_:aB)(v:Value)(a:Bool):Prop:=v= .bool a
def rdStr(_:aB)(v:Value)(a:List UInt8):Prop:=v=sv a
instance:Pure ax:=⟨fun h=>h⟩
instance:Pure abf:=⟨fun h=>h⟩
instance:Pure rdBool:=⟨fun h=>h⟩
instance:Pure rdStr:=⟨fun h=>h⟩
def ak{α:Type}(E:TypeId)(R:aB->Value->α->Prop)(H:aB)(v:Value)(xs:List α):Prop:=
 (v= .slice none 0 0/\xs=[])\/
 (∃k i m b,v= .slice (some ⟨k,i,none⟩) xs.length m/\H[k]?=some (some b)/\b.wr=false/\b.ty=E/\i+xs.length<=b.elems.length/\xs.length<4611686018427387904/\
   ∀(j:Nat) a,xs[j]?=some a-> ∃e,b.elems[i+j]?=some e/\R H e a)\/
 ∃k i m,v= .slice (some ⟨k,i,none⟩) 0 m/\xs=[]
instance{α:Type}{E:TypeId}{R:aB->Value->α->Prop} [bz R]:bz (ak E R):=⟨fun h hi=>by
 rcases h with h|⟨k,i,m,b,h1,h2,h3,h4,h5,hL,h6⟩|h
 · exact .inl h
 · exact .inr (.inl ⟨k,i,m,b,h1,hi _ _ h2 h3,h3,h4,h5,hL,fun j a hj=>let ⟨e,he,hr⟩:=h6 j a hj; ⟨e,he,bz.up hr hi⟩⟩)
 · exact .inr (.inr h)⟩
section
variable{α:Type}{E:TypeId}{R:aB->Value->α->Prop}{H H':aB}{v:Value}{xs:List α}
theorem ak.len(h:ak E R H v xs):∃a m,v= .slice a xs.length m:=by
 rcases h with⟨rfl,rfl⟩|⟨k,i,m,b,rfl,-⟩|⟨k,i,m,rfl,rfl⟩
 · exact⟨_,_,rfl⟩
 · exact⟨_,_,rfl⟩
 · exact⟨_,_,rfl⟩
theorem ak.bound(h:ak E R H v xs):xs.length<4611686018427387904:=by
 rcases h with⟨-,rfl⟩|⟨k,i,m,b,-,-,-,-,-,hL,-⟩|⟨k,i,m,-,rfl⟩
 · simp
 · exact hL
 · simp
def PtrTo(E:TypeId)(R:aB->Value->α->Prop)(H:aB)(k j:Nat)(a:α):Prop:=
 ∃b e,H[k]?=some (some b)/\b.wr=false/\b.ty=E/\b.elems[j]?=some e/\R H e a
theorem PtrTo.up [bz R]{k j:Nat}{a:α}(h:PtrTo E R H k j a)(hi:fP H H'):PtrTo E R H' k j a:=by
 obtain⟨b,e,h1,h2,h3,h4,h5⟩:=h
 exact⟨b,e,hi _ _ h1 h2,h2,h3,h4,bz.up h5 hi⟩
theorem ak.get(h:ak E R H v xs){j:Nat}{a:α}(hj:xs[j]?=some a):
   ∃k i m,v= .slice (some ⟨k,i,none⟩) xs.length m/\j<xs.length/\PtrTo E R H k (i+j) a:=by
 rcases h with⟨-,rfl⟩|⟨k,i,m,b,rfl,h2,h3,h4,h5,hL,h6⟩|⟨k,i,m,-,rfl⟩
 rotate_right
 · simp at hj
 · simp at hj
 · obtain⟨e,he,hr⟩:=h6 j a hj
   refine⟨k,i,m,rfl,?_,b,e,h2,h3,h4,he,hr⟩
   rcases aQ7 j xs.length with h|h
   · exact h
   · simp[aQR h]at hj
end
class Cells{α:Type}(R:aB->Value->α->Prop)(s:outParam Nat):Prop where
 cells:∀{H:aB}{v:Value}{a:α},R H v a->v.cells.size=s/\v.cells.toList.all scal=true
instance:Cells ax 1:=⟨fun h=>by subst h; exact⟨rfl,rfl⟩⟩
instance:Cells abf 1:=⟨fun h=>by subst h; exact⟨rfl,rfl⟩⟩
instance:Cells rdBool 1:=⟨fun h=>by subst h; exact⟨rfl,rfl⟩⟩
instance:Cells rdStr 1:=⟨fun h=>by subst h; exact⟨rfl,rfl⟩⟩
instance{α:Type}{E:TypeId}{R:aB->Value->α->Prop}:Cells (ak E R) 1:=⟨fun h=>by
 obtain⟨a,m,rfl⟩:=h.len
 exact⟨rfl,rfl⟩⟩
abbrev b_(α:Type):=List Nat->aB->Value->α->Prop
class bS{α:Type}(R:b_ α):Prop where
 keep:∀{F:List Nat}{H H':aB}{v:Value}{a:α},R F H v a->fP H H'->(∀k∈F,H'[k]?=H[k]?)->R F H' v a
class Local{α:Type}(R:b_ α):Prop where
 keep:∀{F:List Nat}{H H':aB}{v:Value}{a:α},R F H v a->(∀k∈F,H'[k]?=H[k]?)->R F H' v a
class j4{α:Type}(R:b_ α):Prop where
 owns:∀{F:List Nat}{H:aB}{v:Value}{a:α},R F H v a-> ∀k∈F,∃b,H[k]?=some (some b)/\b.wr=true
class kL{α:Type}(R:b_ α)(s:outParam Nat):Prop where
 cells:∀{F:List Nat}{H:aB}{v:Value}{a:α},R F H v a->v.cells.size=s/\v.cells.toList.all scal=true
def cO(H:aB)(F:List Nat):aB:=F.foldl (fun H k=>H.modify k (fun x=>x.map fun b=>{b with wr:=false})) H
def mh(H:aB)(F:List Nat):aB:=F.foldl (fun H k=>H.modify k (fun x=>x.map fun b=>{b with wr:=true})) H
theorem jv(F:List Nat):∀H:aB,(cO H F).length=H.length:=by
 induction F with
 |nil=>intro H; rfl
 |cons k F ih=>intro H; exact (ih _).trans (by simp)
theorem tH(F:List Nat):∀H:aB,(mh H F).length=H.length:=by
 induction F with
 |nil=>intro H; rfl
 |cons k F ih=>intro H; exact (ih _).trans (by simp)
theorem xg{k:Nat}:∀(F:List Nat)(H:aB),k∉F->(cO H F)[k]?=H[k]?:=by
 intro F
 induction F with
 |nil=>intro H _; rfl
 |cons j F ih=>
   intro H h
   have:=ih (H.modify j (fun x=>x.map fun b=>{b with wr:=false})) (fun hm=>h (by simp[hm]))
   refine this.trans ?_
   have hne:j≠k:=fun e=>h (by simp[e])
   simp[hne]
theorem xh{k:Nat}:∀(F:List Nat)(H:aB),k∉F->(mh H F)[k]?=H[k]?:=by
 intro F
 induction F with
 |nil=>intro H _; rfl
 |cons j F ih=>
   intro H h
   have:=ih (H.modify j (fun x=>x.map fun b=>{b with wr:=true})) (fun hm=>h (by simp[hm]))
   refine this.trans ?_
   have hne:j≠k:=fun e=>h (by simp[e])
   simp[hne]
theorem NC{k:Nat}:∀(F:List Nat)(H:aB)(b:eO),H[k]?=some (some b)->k∈F\/b.wr=false->(cO H F)[k]?=some (some {b with wr:=false}):=by
 intro F
 induction F with
 |nil=>intro H b hb h; rcases h with h|h; simp at h; rw[show cO H []=H from rfl,hb]; cases b; simp at h; subst h; rfl
 |cons j F ih=>
   intro H b hb h
   by_cases e:j=k
   · subst e
     exact ih (H.modify j (fun x=>x.map fun b=>{b with wr:=false})) {b with wr:=false} (by simp[hb]) (.inr rfl)
   · refine ih (H.modify j (fun x=>x.map fun b=>{b with wr:=false})) b (by simp[e,hb]) ?_
     rcases h with h|h
     · rcases List.mem_cons.1 h with h|h
       · exact absurd h.symm e
       · exact .inl h
     · exact .inr h
theorem aeL{k:Nat}:∀(F:List Nat)(H:aB)(b:eO),H[k]?=some (some b)->k∈F\/b.wr=true->(mh H F)[k]?=some (some {b with wr:=true}):=by
 intro F
 induction F with
 |nil=>intro H b hb h; rcases h with h|h; simp at h; rw[show mh H []=H from rfl,hb]; cases b; simp at h; subst h; rfl
 |cons j F ih=>
   intro H b hb h
   by_cases e:j=k
   · subst e
     exact ih (H.modify j (fun x=>x.map fun b=>{b with wr:=true})) {b with wr:=true} (by simp[hb]) (.inr rfl)
   · refine ih (H.modify j (fun x=>x.map fun b=>{b with wr:=true})) b (by simp[e,hb]) ?_
     rcases h with h|h
     · rcases List.mem_cons.1 h with h|h
       · exact absurd h.symm e
       · exact .inl h
     · exact .inr h
theorem ve(H:aB)(F:List Nat):fP H (cO H F):=by
 intro k b hk hw
 rw[NC F H b hk (.inr hw)]
 cases b; simp_all
theorem wX(F:List Nat):∀(H:aB)(k:Nat),((cO H F)[k]?).map core=(H[k]?).map core:=by
 induction F with
 |nil=>intro H k; rfl
 |cons j F ih=>
   intro H k
   refine (ih (H.modify j (fun x=>x.map fun b=>{b with wr:=false})) k).trans ?_
   by_cases e:j=k
   · subst e
     simp only[List.getElem?_modify]
     cases h:H[j]? with
     |none=>simp
     |some x=>cases x<;>simp[core]
   · simp[e]
theorem Fg(F:List Nat):∀(H:aB)(k:Nat),((mh H F)[k]?).map core=(H[k]?).map core:=by
 induction F with
 |nil=>intro H k; rfl
 |cons j F ih=>
   intro H k
   refine (ih (H.modify j (fun x=>x.map fun b=>{b with wr:=true})) k).trans ?_
   by_cases e:j=k
   · subst e
     simp only[List.getElem?_modify]
     cases h:H[j]? with
     |none=>simp
     |some x=>cases x<;>simp[core]
   · simp[e]
theorem alY{H H':aB}{k:Nat}{b:eO}(hc:(H'[k]?).map core=(H[k]?).map core)(hb:H[k]?=some (some b)):∃b',H'[k]?=some (some b')/\b'.elems=b.elems/\b'.ty=b.ty/\b'.own=b.own:=by
 rw[hb]at hc
 cases hH:H'[k]? with
 |none=>rw[hH]at hc; simp at hc
 |some x=>
   cases x with
   |none=>rw[hH]at hc; simp[core]at hc
   |some b'=>rw[hH]at hc; simp[core]at hc; exact⟨b',rfl,hc.1,hc.2.1,hc.2.2⟩
theorem aD.recore{P:Program} [bF P]{ρ:dI}{H H':aB}{w:World}(h:aD P ρ H w)(hl:H'.length=H.length)(hc:∀k:Nat,(H'[k]?).map core=(H[k]?).map core):aD P ρ H' w:=by
 refine⟨fun k L hk=>?_,fun k b hb hk=>?_,fun k hk=>h.dom k (by rwa [hl]at hk),h.inj,h.xU⟩
 · obtain⟨b,hb,hr⟩:=h.blk k L hk
   obtain⟨b',hb',e1,e2,e3⟩:=alY (hc k) hb
   refine⟨b',hb',by rw[e3]; exact hr.own,by rw[e2]; exact hr.sz,?_⟩
   rw[e1,e2]; exact hr.cells
 · obtain⟨b',hb',-⟩:=alY (hc k).symm hb
   exact h.alive k b' hb' hk
theorem Step.recore{ρ:dI}{H H':aB}{w:World}(hl:H'.length=H.length)(hc:∀k:Nat,(H'[k]?).map core=(H[k]?).map core):Step ρ H w ρ H' w:=
 ⟨Up.refl ρ,rfl,rfl,rfl,aQT _,fun _ _ _=>rfl,fun _ _ h=>.inl h,aRe hl.symm,fun k _ hn=>⟨hn,hc k⟩⟩
class jS{α:Type}(R:b_ α)(R':outParam (aB->Value->α->Prop)):Prop where
 cO:∀{F G:List Nat}{H:aB}{v:Value}{a:α},R F H v a->(∀k∈F,k∈G)->R' (cO H G) v a
def az{α:Type}(R:aB->Value->α->Prop):b_ α:=fun F H v a=>F=[]/\R H v a
section
variable{α:Type}{R:aB->Value->α->Prop}
instance [bz R]:bS (az R):=⟨fun h hi _=>⟨h.1,bz.up h.2 hi⟩⟩
instance [Pure R]:Local (az R):=⟨fun h _=>⟨h.1,Pure.any h.2⟩⟩
instance:j4 (az R):=⟨fun h k hk=>by rw[h.1]at hk; simp at hk⟩
instance{s:Nat} [Cells R s]:kL (az R) s:=⟨fun h=>Cells.cells h.2⟩
instance [bz R]:jS (az R) R:=⟨fun h _=>bz.up h.2 (ve _ _)⟩
end
inductive cZ {α:Type} (Ro:b_ α) (H:aB):List Value->List α->List Nat->Prop
 |nil:cZ Ro H [] [] []
 |cons {e:Value} {es:List Value} {a:α} {xs:List α} {F G:List Nat} (h:Ro F H e a) (t:cZ Ro H es xs G):cZ Ro H (e::es) (a::xs) (F++G)
section
variable{α:Type}{Ro:b_ α}{H H':aB}
theorem cZ.length{es:List Value}{xs:List α}{F:List Nat}(h:cZ Ro H es xs F):es.length=xs.length:=by
 induction h with
 |nil=>rfl
 |cons _ _ ih=>simp[ih]
theorem cZ.keep [bS Ro]{es:List Value}{xs:List α}{F:List Nat}(h:cZ Ro H es xs F)(hi:fP H H'):(∀k∈F,H'[k]?=H[k]?)->cZ Ro H' es xs F:=by
 induction h with
 |nil=>intro _; exact .nil
 |cons h _ ih=>intro hk; exact .cons (bS.keep h hi (fun k hm=>hk k (by simp[hm]))) (ih (fun k hm=>hk k (by simp[hm])))
theorem cZ.local [Local Ro]{es:List Value}{xs:List α}{F:List Nat}(h:cZ Ro H es xs F):(∀k∈F,H'[k]?=H[k]?)->cZ Ro H' es xs F:=by
 induction h with
 |nil=>intro _; exact .nil
 |cons h _ ih=>intro hk; exact .cons (Local.keep h (fun k hm=>hk k (by simp[hm]))) (ih (fun k hm=>hk k (by simp[hm])))
theorem cZ.owns [j4 Ro]{es:List Value}{xs:List α}{F:List Nat}(h:cZ Ro H es xs F):∀k∈F,∃b,H[k]?=some (some b)/\b.wr=true:=by
 induction h with
 |nil=>intro k hk; simp at hk
 |cons h _ ih=>
   intro k hk
   rcases List.mem_append.1 hk with hk|hk
   · exact j4.owns h k hk
   · exact ih k hk
theorem cZ.append{es es':List Value}{xs xs':List α}{F F':List Nat}(h:cZ Ro H es xs F)(h':cZ Ro H es' xs' F'):cZ Ro H (es++es') (xs++xs') (F++F'):=by
 induction h with
 |nil=>exact h'
 |cons h _ ih=>rw[aQY]; exact .cons h ih
theorem cZ.at{es:List Value}{xs:List α}{F:List Nat}(h:cZ Ro H es xs F):∀{j:Nat}{a:α},xs[j]?=some a-> ∃e F1 Fj F2,es[j]?=some e/\F=F1++Fj++F2/\Ro Fj H e a/\
   ∀{H':aB}{e':Value}{a':α}{Ke:List Nat},(∀(Fi:List Nat)(x:Value)(y:α),Ro Fi H x y->(∀k∈Fi,k∈F1\/k∈F2)->Ro Fi H' x y)->Ro Ke H' e' a'->cZ Ro H' (es.set j e') (xs.set j a') (F1++Ke++F2):=by
 induction h with
 |nil=>intro j a hj; simp at hj
 | @cons e es a0 xs F G h t ih=>
   intro j a hj
   cases j with
   |zero=>
     obtain rfl:a0=a:=by simpa using hj
     refine⟨e,[],F,G,by simp,by simp,h,fun{H' e' a' Ke} hk hr=>?_⟩
     simp only[List.set_cons_zero,aRa]
     refine .cons hr ?_
     clear ih h
     have:∀{es:List Value}{xs:List α}{G':List Nat},cZ Ro H es xs G'->(∀k∈G',k∈G)->cZ Ro H' es xs G':=by
       intro es xs G' t
       induction t with
       |nil=>intro _; exact .nil
       |cons h _ ih2=>intro hm; exact .cons (hk _ _ _ h (fun k Kg=>.inr (hm k (by simp[Kg])))) (ih2 (fun k Kg=>hm k (by simp[Kg])))
     exact this t (fun _ h=>h)
   |succ j=>
     obtain⟨e1,F1,Fj,F2,h1,h2,h3,h4⟩:=ih (by simpa using hj)
     refine⟨e1,F++F1,Fj,F2,by simpa using h1,by rw[h2]; simp,h3,fun{H' e' a' Ke} hk hr=>?_⟩
     simp only[List.set_cons_succ]
     rw[show F++F1++Ke++F2=F++(F1++Ke++F2) by simp]
     exact .cons (hk _ _ _ h (fun k Kg=>.inl (by simp[Kg]))) (h4 (fun Fi x y hr0 hm=>hk Fi x y hr0 (fun k Kg=>by rcases hm k Kg with h|h; exact .inl (by simp[h]); exact .inr h)) hr)
theorem cZ.cells{s:Nat} [kL Ro s]{es:List Value}{xs:List α}{F:List Nat}(h:cZ Ro H es xs F):∀e∈es,e.cells.size=s/\e.cells.toList.all scal=true:=by
 induction h with
 |nil=>intro e he; simp at he
 |cons h _ ih=>
   intro e he
   rcases List.mem_cons.1 he with rfl|he
   · exact kL.cells h
   · exact ih e he
theorem cZ.cO{R':aB->Value->α->Prop} [jS Ro R']{G:List Nat}{es:List Value}{xs:List α}{F:List Nat}(h:cZ Ro H es xs F):(∀k∈F,k∈G)-> ∀(j:Nat) a,xs[j]?=some a-> ∃e,es[j]?=some e/\R' (Fw.cO H G) e a:=by
 induction h with
 |nil=>intro _ j a hj; simp at hj
 |cons h _ ih=>
   intro hm j a hj
   cases j with
   |zero=>
     simp only[List.getElem?_cons_zero,aR2]at hj
     subst hj
     exact⟨_,by simp,jS.cO h (fun k hk=>hm k (by simp[hk]))⟩
   |succ j=>
     obtain⟨e,he,hr⟩:=ih (fun k hk=>hm k (by simp[hk])) j a (by simpa using hj)
     exact⟨e,by simpa using he,hr⟩
end
def aa{α:Type}(E:TypeId)(Ro:b_ α):b_ (List α):=fun F H v xs=>
 (v= .slice none 0 0/\xs=[]/\F=[])\/
 ∃k m b G,v= .slice (some ⟨k,0,none⟩) xs.length m/\(m=1\/m=2)/\H[k]?=some (some b)/\b.wr=true/\b.own=true/\b.ty=E/\xs.length<4611686018427387904/\F=k::G/\cZ Ro H b.elems xs G
section
variable{α:Type}{E:TypeId}{Ro:b_ α}
instance [bS Ro]:bS (aa E Ro):=⟨fun h hi hk=>by
 rcases h with h|⟨k,m,b,G,h1,h2,h3,h4,h5,h6,h7,rfl,h9⟩
 · exact .inl h
 · exact .inr ⟨k,m,b,G,h1,h2,(hk k (by simp)).trans h3,h4,h5,h6,h7,rfl,h9.keep hi (fun q hq=>hk q (by simp[hq]))⟩⟩
instance [Local Ro]:Local (aa E Ro):=⟨fun h hk=>by
 rcases h with h|⟨k,m,b,G,h1,h2,h3,h4,h5,h6,h7,rfl,h9⟩
 · exact .inl h
 · exact .inr ⟨k,m,b,G,h1,h2,(hk k (by simp)).trans h3,h4,h5,h6,h7,rfl,h9.local (fun q hq=>hk q (by simp[hq]))⟩⟩
instance [j4 Ro]:j4 (aa E Ro):=⟨fun h k hk=>by
 rcases h with⟨-,-,rfl⟩|⟨k',m,b,G,h1,h2,h3,h4,h5,h6,h7,rfl,h9⟩
 · simp at hk
 · rcases List.mem_cons.1 hk with rfl|hk
   · exact⟨b,h3,h4⟩
   · exact h9.owns k hk⟩
theorem aa.len{F:List Nat}{H:aB}{v:Value}{xs:List α}(h:aa E Ro F H v xs):∃a m,v= .slice a xs.length m:=by
 rcases h with⟨rfl,rfl,-⟩|⟨k,m,b,G,rfl,-⟩
 · exact⟨_,_,rfl⟩
 · exact⟨_,_,rfl⟩
theorem aa.bound{F:List Nat}{H:aB}{v:Value}{xs:List α}(h:aa E Ro F H v xs):xs.length<4611686018427387904:=by
 rcases h with⟨-,rfl,-⟩|⟨k,m,b,G,-,-,-,-,-,-,h,-⟩
 · simp
 · exact h
instance:kL (aa E Ro) 1:=⟨fun h=>by
 obtain⟨a,m,rfl⟩:=h.len
 exact⟨rfl,rfl⟩⟩
instance{R':aB->Value->α->Prop} [jS Ro R']:jS (aa E Ro) (ak E R'):=⟨fun{F G H v xs} h hm=>by
 rcases h with⟨rfl,rfl,-⟩|⟨k,m,b,G',rfl,h2,h3,h4,h5,h6,h7,rfl,h9⟩
 · exact .inl ⟨rfl,rfl⟩
 · refine .inr (.inl ⟨k,0,m,{b with wr:=false},rfl,NC G H b h3 (.inl (hm k (by simp))),rfl,h6,by simp[h9.length],h7,fun j a hj=>?_⟩)
   obtain⟨e,he,hr⟩:=h9.cO (fun q hq=>hm q (by simp[hq])) j a hj
   exact⟨e,by simpa using he,hr⟩⟩
end
section
variable{P:Program} [bF P]{n:Nat}{f:Fr}{H:aB}{A:Array Oper}{l:List Oper}{K:Fr->aB->Prop}
theorem aw5{K1:Fr->aB->Prop}(h:pg P n A l f H K1)(hk:∀f' H',K1 f' H'->K f' H'):pg P n A l f H K:=
 fun ρ w a Q' hr hf hkk=>h ρ w a Q' hr hf fun f' ρ' H' a' w' h1 h2 h3 h4=>hkk f' ρ' H' a' w' h1 h2 h3 (hk f' H' h4)
def dm(g:Fr)(l:List (Nat×Value)):Fr:=l.foldr (fun p f=>upd f p.1 p.2) g
inductive fB (f:Fr):List (Nat×Value)->Prop
 |nil:fB f []
 |cons {t:Nat} {v:Value} {l:List (Nat×Value)} (h:f t=v) (r:fB f l):fB f ((t,v)::l)
theorem fB.eq{f:Fr}{l:List (Nat×Value)}(h:fB f l):f=dm f l:=by
 induction h with
 |nil=>rfl
 |cons h _ ih=>simp only[dm,List.foldr_cons]at ih ⊢; rw[←ih,←h,axP]
def TY(P:Program) [bF P](t:TypeId)(s by':Nat)(z:Value):Prop:=(P.info? t).map (fun i=>(i.size,i.bytes,i.zero))=some (s,by',some z)
theorem TY.inv{t:TypeId}{s b:Nat}{zv:Value}(h:TY P t s b zv):∃i,P.info? t=some i/\i.size=s/\i.bytes=b/\i.zero=some zv:=by
 unfold TY at h
 cases hi:P.info? t with
 |none=>rw[hi]at h; simp at h
 |some i=>
   rw[hi]at h
   have h':(i.size,i.bytes,i.zero)=(s,b,some zv):=by simpa using h
   injection h' with e1 e2
   injection e2 with e2 e3
   exact⟨i,rfl,e1,e2,e3⟩
theorem TY.sz{t:TypeId}{s b:Nat}{zv:Value}(h:TY P t s b zv):SZ P t s:=by
 obtain⟨i,hi,h1,-,-⟩:=h.inv
 simp[SZ,hi,h1]
end
end Go.Fw
/-
 Contexts: lists of facts on the abstract heap, each with the blocks that it owns.
-/
set_option linter.unusedVariables false
namespace Go.Fw
open Go
structure ay where
 F:List Nat
 P:aB->Prop
 keep:∀{H H':aB},P H->fP H H'->(∀k∈F,H'[k]?=H[k]?)->P H'
def fT(k:Nat)(b:eO):ay:=⟨[k],fun H=>b.wr=true/\H[k]?=some (some b),fun h _ hk=>⟨h.1,(hk k (by simp)).trans h.2⟩⟩
def pR(k:Nat)(b:eO):ay:=⟨[],fun H=>b.wr=false/\H[k]?=some (some b),fun h hi _=>⟨h.1,hi _ _ h.2 h.1⟩⟩
abbrev aW(k:Nat)(T:TypeId)(v:Value):ay:=fT k ⟨[v],T,true,true⟩
abbrev bC(k:Nat)(T:TypeId)(v:Value):ay:=pR k ⟨[v],T,true,false⟩
def aI{α:Type}(R:aB->Value->α->Prop) [bz R](v:Value)(a:α):ay:=⟨[],fun H=>R H v a,fun h hi _=>bz.up h hi⟩
def jM{α:Type}(E:TypeId)(R:aB->Value->α->Prop) [bz R](k j:Nat)(a:α):ay:=⟨[],fun H=>PtrTo E R H k j a,fun h hi _=>h.up hi⟩
def ah{α:Type}(Ro:b_ α) [bS Ro](F:List Nat)(v:Value)(a:α):ay:=⟨F,fun H=>Ro F H v a,fun h hi hk=>bS.keep h hi hk⟩
class JK(c:ay):Prop where
 keep:∀{H H':aB},c.P H->(∀k∈c.F,H'[k]?=H[k]?)->c.P H'
instance(k:Nat)(b:eO):JK (fT k b):=⟨fun h hk=>⟨h.1,(hk k (by simp[fT])).trans h.2⟩⟩
instance{α:Type}(Ro:b_ α) [bS Ro] [Local Ro](F:List Nat)(v:Value)(a:α):JK (ah Ro F v a):=⟨fun h hk=>Local.keep (R:=Ro) h hk⟩
inductive Mem (c:ay):List ay->Prop
 |h {l:List ay}:Mem c (c::l)
 |t {d:ay} {l:List ay} (h:Mem c l):Mem c (d::l)
inductive dU:List ay->ay->List ay->Prop
 |h {c:ay} {l:List ay}:dU (c::l) c l
 |t {c d:ay} {l r:List ay} (h:dU l c r):dU (d::l) c (d::r)
inductive fq:List ay->List ay->List ay->Prop
 |nil {l:List ay}:fq l [] l
 |cons {l l1 r cs:List ay} {c:ay} (h:dU l c l1) (t:fq l1 cs r):fq l (c::cs) r
 |rd {l r cs:List ay} {c:ay} (h:Mem c l) (hf:c.F=[]) (t:fq l cs r):fq l (c::cs) r
inductive rF:List ay->List ay->List ay->Prop
 |nil {l:List ay}:rF [] l l
 |cons {c:ay} {l r o:List ay} (h:rF l r o):rF (c::l) r (c::o)
inductive JL:List ay->List ay->Prop
 |nil:JL [] []
 |k {c:ay} {l r:List ay} (h:JL l r):JL (c::l) (c::r)
 |d {c:ay} {l r:List ay} (h:JL l r):JL (c::l) r
theorem Mem.mem{c:ay}{l:List ay}(h:Mem c l):c∈l:=by induction h with|h=>simp|t _ ih=>simp[ih]
theorem dU.perm{l r:List ay}{c:ay}(h:dU l c r):l.Perm (c::r):=by
 induction h with
 |h=>exact .refl _
 |t _ ih=>exact (ih.cons _).trans (.swap _ _ _)
theorem rF.eq{l r o:List ay}(h:rF l r o):o=l++r:=by
 induction h with
 |nil=>rfl
 |cons _ ih=>simp[ih]
theorem JL.sub{l r:List ay}(h:JL l r):r.Sublist l:=by
 induction h with
 |nil=>exact .slnil
 |k _ ih=>exact ih.cons_cons _
 |d _ ih=>exact ih.cons _
abbrev foot(cs:List ay):List Nat:=cs.flatMap ay.F
structure Ctx(H0:aB)(F0:List Nat)(H:aB)(cs:List ay):Prop where
 len:H0.length<=H.length
 mg:fP H0 H
 qI:∀k,k<H0.length->k∉F0->H[k]?=H0[k]?
 hold:∀c∈cs,c.P H
 nd:(foot cs).Nodup
 own:∀k∈foot cs,(k∈F0\/H0.length<=k)/\k<H.length
section
variable{H0 H H':aB}{F0:List Nat}{cs cs' pre post rest:List ay}
theorem Ctx.perm(h:Ctx H0 F0 H cs)(hp:cs.Perm cs'):Ctx H0 F0 H cs':=
 ⟨h.len,h.mg,h.qI,fun c hc=>h.hold c (hp.symm.subset hc),(List.Perm.nodup_iff (hp.flatMap_right _)).1 h.nd,fun k hk=>h.own k ((hp.flatMap_right _).symm.subset hk)⟩
theorem alZ{cs cs':List ay}(hs:cs'.Sublist cs):(foot cs').Sublist (foot cs):=by
 induction hs with
 |slnil=>exact .slnil
 |cons a _ ih=>simp only[foot,av1]; exact ih.trans (aSd _ _)
 |cons_cons a _ ih=>simp only[foot,av1]; exact (aSQ _).append ih
theorem Ctx.sublist(h:Ctx H0 F0 H cs)(hs:cs'.Sublist cs):Ctx H0 F0 H cs':=
 ⟨h.len,h.mg,h.qI,fun c hc=>h.hold c (hs.subset hc),h.nd.sublist (alZ hs),fun k hk=>h.own k ((alZ hs).subset hk)⟩
theorem Ctx.dup{c:ay}(h:Ctx H0 F0 H cs)(hc:c.P H)(hf:c.F=[]):Ctx H0 F0 H (c::cs):=
 ⟨h.len,h.mg,h.qI,fun d hd=>by rcases List.mem_cons.1 hd with rfl|hd; exact hc; exact h.hold d hd,by simp only[foot,av1,hf,aRa]; exact h.nd,
   fun k hk=>by simp only[foot,av1,hf,aRa]at hk; exact h.own k hk⟩
theorem Ctx.sel(hs:fq cs pre rest):∀{A:List ay},Ctx H0 F0 H (A++cs)->Ctx H0 F0 H (A++(pre++rest)):=by
 induction hs with
 |nil=>intro A h; exact h
 |cons hs _ ih=>
   intro A h
   have h':=h.perm (hs.perm.append_left A)
   have h2:=ih (A:=A++[_]) (by simpa using h')
   simpa using h2
 | @rd l r cs c hm hf _ ih=>
   intro A h
   have hc:c.P H:=h.hold c (List.mem_append.2 (.inr hm.mem))
   have h2:=ih (A:=c::A) (by simpa using h.dup hc hf)
   refine h2.perm ?_
   simpa using (aR6 (a:=c) (l₁:=A) (l₂:=cs++r)).symm
theorem Ctx.take(h:Ctx H0 F0 H cs)(hs:fq cs pre rest):Ctx H0 F0 H (pre++rest):=Ctx.sel hs (A:=[]) h
theorem Ctx.mem{c:ay}(h:Ctx H0 F0 H cs)(hm:Mem c cs):c.P H:=h.hold c hm.mem
theorem Ctx.step(h:Ctx H0 F0 H (pre++rest))(hl:H.length<=H'.length)(hi:fP H H')(ha:∀k,k<H.length->k∉foot pre->H'[k]?=H[k]?)
   (hh:∀c∈post,c.P H') (hn:(foot post).Nodup) (ho:∀k∈foot post,(k∈foot pre\/H.length<=k)/\k<H'.length):Ctx H0 F0 H' (post++rest):=by
 have hnd:=h.nd
 simp only[foot,aRO]at hnd
 obtain⟨n1,n2,n3⟩:=List.nodup_append.1 hnd
 have hown:=h.own
 simp only[foot,aRO,aQZ]at hown
 refine⟨aQ6 h.len hl,h.mg.trans hi,fun k hk hf=>?_,fun c hc=>?_,?_,fun k hk=>?_⟩
 · rw[ha k (aQ2 hk h.len) ?_,h.qI k hk hf]
   intro hm
   rcases (hown k (.inl hm)).1 with h1|h1
   · exact hf h1
   · omega
 · rcases List.mem_append.1 hc with hc|hc
   · exact hh c hc
   · refine c.keep (h.hold c (List.mem_append.2 (.inr hc))) hi fun k hk=>?_
     have hkr:k∈foot rest:=List.mem_flatMap.2 ⟨c,hc,hk⟩
     exact ha k (hown k (.inr hkr)).2 (fun hp=>n3 k hp k hkr rfl)
 · simp only[foot,aRO]
   refine List.nodup_append.2 ⟨hn,n2,fun a h1 b h2 e=>?_⟩
   subst e
   rcases (ho a h1).1 with h3|h3
   · exact n3 a h3 a h2 rfl
   · have:=(hown a (.inr h2)).2
     omega
 · simp only[foot,aRO,aQZ]at hk
   rcases hk with hk|hk
   · refine⟨?_,(ho k hk).2⟩
     rcases (ho k hk).1 with h1|h1
     · exact (hown k (.inl h1)).1
     · exact .inr (aQ6 h.len h1)
   · exact⟨(hown k (.inr hk)).1,aQ2 (hown k (.inr hk)).2 hl⟩
theorem Ctx.view(h:Ctx H0 F0 H (pre++rest)):Ctx H (foot pre) H pre:=by
 have hnd:=h.nd
 simp only[foot,aRO]at hnd
 refine⟨aQT _,fP.refl H,fun _ _ _=>rfl,fun c hc=>h.hold c (List.mem_append.2 (.inl hc)),(List.nodup_append.1 hnd).1,fun k hk=>⟨.inl hk,(h.own k ?_).2⟩⟩
 simp only[foot,aRO,aQZ]
 exact .inl hk
theorem Ctx.back(h:Ctx H0 F0 H (pre++rest))(g:Ctx H (foot pre) H' post):Ctx H0 F0 H' (post++rest):=
 h.step g.len g.mg g.qI g.hold g.nd (fun k hk=>⟨(g.own k hk).1,(g.own k hk).2⟩)
end
def aBT(H0:aB)(F0:List Nat)(Q:Exit->Fr->List ay->Prop):Exit->Fr->aB->Prop:=fun e f H=>∃cs,Q e f cs/\Ctx H0 F0 H cs
def CW(P:Program) [bF P](n:Nat)(H0:aB)(F0:List Nat)(c:Code)(Q:Exit->Fr->List ay->Prop)(f:Fr)(cs:List ay):Prop:=
 ∀H,Ctx H0 F0 H cs->AW P n c (aBT H0 F0 Q) f H
def jB(next:Fr->List ay->Prop)(Q:Exit->Fr->List ay->Prop):Exit->Fr->List ay->Prop
 | .normal,f,cs=>next f cs
 |e,f,cs=>Q e f cs
def D_(id:Nat)(Q:Exit->Fr->List ay->Prop):Exit->Fr->List ay->Prop
 | .exit id',f,cs=>if id'=id then Q .normal f cs else Q (.exit id') f cs
 |e,f,cs=>Q e f cs
def aR(P:Program) [bF P](n:Nat)(H0:aB)(F0:List Nat)(A:Array Oper)(l:List Oper)(f:Fr)(cs:List ay)(K:Fr->List ay->Prop):Prop:=
 ∀H,Ctx H0 F0 H cs->pg P n A l f H (fun f' H'=>∃cs',K f' cs'/\Ctx H0 F0 H' cs')
section
variable{P:Program} [bF P]{n:Nat}{H0:aB}{F0:List Nat}{Q:Exit->Fr->List ay->Prop}{f:Fr}{cs cs':List ay}{c1 c2 c3:Code}{A:Array Oper}{l r:List Oper}{K:Fr->List ay->Prop}{x:Operand}
theorem CW.mono{c:Code}{Q':Exit->Fr->List ay->Prop}(h:CW P n H0 F0 c Q f cs)(hq:∀e f cs,Q e f cs->Q' e f cs):CW P n H0 F0 c Q' f cs:=
 fun H hc=>(h H hc).mono fun e f H ⟨cs,h1,h2⟩=>⟨cs,hq e f cs h1,h2⟩
theorem uo(h:Q .normal f cs):CW P n H0 F0 .skip Q f cs:=fun _ hc=>axQ ⟨cs,h,hc⟩
theorem Z4{id:Nat}(h:Q (.exit id) f cs):CW P n H0 F0 (.exit id) Q f cs:=fun _ hc=>axR ⟨cs,h,hc⟩
theorem vz(h:Q .ret f cs):CW P n H0 F0 .ret Q f cs:=fun _ hc=>ay7 ⟨cs,h,hc⟩
theorem pU(M:Fr->List ay->Prop)(h:CW P n H0 F0 c1 (jB M Q) f cs)(hm:∀f' cs',M f' cs'->CW P n H0 F0 c2 Q f' cs'):CW P n H0 F0 (.seq c1 c2) Q f cs:=
 fun H hc=>ay8 (M:=fun f H=>∃cs,M f cs/\Ctx H0 F0 H cs) ((h H hc).mono fun e f H ⟨cs,h1,h2⟩=>by
   cases e<;>exact⟨cs,h1,h2⟩) fun f' H' ⟨cs',h1,h2⟩=>hm f' cs' h1 H' h2
theorem dZ(h:CW P n H0 F0 c1 (jB (fun f cs=>CW P n H0 F0 c2 Q f cs) Q) f cs):CW P n H0 F0 (.seq c1 c2) Q f cs:=pU _ h fun _ _ h=>h
theorem azb(h:CW P n H0 F0 c2 Q f cs):CW P n H0 F0 (.seq .skip c2) Q f cs:=dZ (uo h)
theorem azc{id:Nat}(h:Q (.exit id) f cs):CW P n H0 F0 (.seq (.exit id) c2) Q f cs:=pU (fun _ _=>False) (Z4 h) fun _ _ h=>h.elim
theorem aBU(h:Q .ret f cs):CW P n H0 F0 (.seq .ret c2) Q f cs:=pU (fun _ _=>False) (vz h) fun _ _ h=>h.elim
theorem nY{b:Bool}(hc:EV n f x (.bool b))(h1:b=true->CW P n H0 F0 c1 Q f cs)(h2:b=false->CW P n H0 F0 c2 Q f cs):CW P n H0 F0 (.cond x c1 c2) Q f cs:=
 fun H hx=>axS hc (fun e=>h1 e H hx) (fun e=>h2 e H hx)
theorem gU{id:Nat}(h:CW P n H0 F0 c1 (D_ id Q) f cs):CW P n H0 F0 (.block id c1) Q f cs:=
 fun H hc=>aw1 ((h H hc).mono fun e f H ⟨cs,h1,h2⟩=>by
   cases e with
   |exit id'=>
     simp only[D_]at h1
     simp only[aej]
     split at h1
     · rename_i e; rw[atV e]; exact⟨cs,h1,h2⟩
     · rename_i e; rw[aqA e]; exact⟨cs,h1,h2⟩
   |_=>exact⟨cs,h1,h2⟩)
theorem qj{id:Nat}(h:CW P n H0 F0 c1 (D_ id (jB (fun f cs=>CW P n H0 F0 c2 Q f cs) Q)) f cs):CW P n H0 F0 (.seq (.block id c1) c2) Q f cs:=dZ (gU h)
theorem ad5{id:Nat}(h:Q .normal f cs):D_ id Q (.exit id) f cs:=by simp only[D_,aRr]; exact h
theorem anq{id i:Nat}(hi:Nat.beq i id=false)(h:Q (.exit i) f cs):D_ id Q (.exit i) f cs:=by
 have:i≠id:=fun e=>by subst e; simp at hi
 simp only[D_,aqA this]; exact h
theorem Zn{i:Nat}(h:Q (.exit i) f cs):jB K Q (.exit i) f cs:=h
theorem alk(h:Q .ret f cs):jB K Q .ret f cs:=h
theorem amB{id:Nat}(h:Q .ret f cs):D_ id Q .ret f cs:=h
theorem kI(I:Nat->Fr->List ay->Prop)(m:Nat)(h0:I m f cs)
   (round:∀m f cs,I m f cs->CW P n H0 F0 c1 (jB (fun f' cs'=>∃m',m'<m/\I m' f' cs') Q) f cs):CW P n H0 F0 (.loop c1) Q f cs:=
 fun H hc=>axT (fun m f H=>∃cs,I m f cs/\Ctx H0 F0 H cs) m ⟨cs,h0,hc⟩ fun m f H ⟨cs,h1,h2⟩=>
   (round m f cs h1 H h2).mono fun e _ _ ⟨cs,h1,h2⟩=>by
     cases e with
     |normal=>obtain⟨m',hlt,hI⟩:=h1; exact⟨m',hlt,cs,hI,h2⟩
     |_=>exact⟨cs,h1,h2⟩
theorem IC{id:Nat}(h:aR P n H0 F0 l.toArray l f cs (fun f' cs'=>Q .normal f' cs')):CW P n H0 F0 (.region id l.toArray false) Q f cs:=
 fun H hc=>awn (h H hc)
theorem eB{id:Nat}(h:aR P n H0 F0 l.toArray l f cs (fun f' cs'=>CW P n H0 F0 c2 Q f' cs')):CW P n H0 F0 (.seq (.region id l.toArray false) c2) Q f cs:=
 dZ (IC h)
theorem zV{c:ay}{p:Prop}(hm:Mem c cs)(hp:∀H,c.P H->p)(h:p->CW P n H0 F0 c1 Q f cs):CW P n H0 F0 c1 Q f cs:=fun H hc=>h (hp H (hc.mem hm)) H hc
theorem qo(K1:Fr->List ay->Prop)(h:aR P n H0 F0 A l f cs K1)(hk:∀f' cs',K1 f' cs'->K f' cs'):aR P n H0 F0 A l f cs K:=
 fun H hc=>aw5 (h H hc) fun f' H' ⟨cs',h1,h2⟩=>⟨cs',hk f' cs' h1,h2⟩
theorem eQ(h:K f cs):aR P n H0 F0 A [] f cs K:=fun _ hc=>aw2 ⟨cs,h,hc⟩
variable{d:Option Tmp}{op:Op}{T T' T'' T2 E:TypeId}{ps:String}{af:Array Edge}{v:Value}
theorem aP(hv:∀{H},fK P n ⟨d,op,T,ps,af,none⟩ f H v)(h:aR P n H0 F0 A r (put f d v) cs K):aR P n H0 F0 A (⟨d,op,T,ps,af,none⟩::r) f cs K:=
 fun H hc=>vV hv (h H hc)
theorem gM{c:ay}(hm:Mem c cs)(hv:∀{H},c.P H->fK P n ⟨d,op,T,ps,af,none⟩ f H v)(h:aR P n H0 F0 A r (put f d v) cs K):aR P n H0 F0 A (⟨d,op,T,ps,af,none⟩::r) f cs K:=
 fun H hc=>vV (hv (hc.mem hm)) (h H hc)
theorem aFc{j:Nat}{t:Tmp}{b:Bool}(hd:(A[j]?).bind (·.dst)=some t)(hv:f t= .bool b)(ht:Nat.blt t n=true)(h:aR P n H0 F0 A (⟨d,op,T,ps,af,none⟩::r) f cs K):
   aR P n H0 F0 A (⟨d,op,T,ps,af,some (j,b)⟩::r) f cs K:=fun H hc=>aBS hd hv ht (h H hc)
theorem aBV{j:Nat}{t:Tmp}{b:Bool}(hd:(A[j]?).bind (·.dst)=some t)(hv:f t= .bool (!b))(ht:Nat.blt t n=true)(h:aR P n H0 F0 A r (put f d undef) cs K):
   aR P n H0 F0 A (⟨d,op,T,ps,af,some (j,b)⟩::r) f cs K:=fun H hc=>aza hd hv ht (h H hc)
structure Conv(pre post:List ay):Prop where
 hold:∀H,(∀c∈pre,c.P H)-> ∀c∈post,c.P H
 foot:(foot post).Sublist (foot pre)
theorem Ctx.conv{pre post rest:List ay}{H:aB}(h:Ctx H0 F0 H cs)(hs:fq cs pre rest)(hv:Conv pre post):Ctx H0 F0 H (post++rest):=by
 have h':=h.take hs
 have hv1:=h'.view
 exact h'.step (aQT _) (fP.refl _) (fun _ _ _=>rfl) (hv.hold H hv1.hold) (hv1.nd.sublist hv.foot) (fun k hk=>⟨.inl (hv.foot.subset hk),(hv1.own k (hv.foot.subset hk)).2⟩)
theorem S_{pre post rest cs':List ay}(hs:fq cs pre rest)(hv:Conv pre post)(ha:rF post rest cs')(h:aR P n H0 F0 A l f cs' K):aR P n H0 F0 A l f cs K:=
 fun H hc=>h H (by rw[ha.eq]; exact hc.conv hs hv)
theorem azd{pre post rest cs':List ay}(hs:fq cs pre rest)(hv:Conv pre post)(ha:rF post rest cs')(h:CW P n H0 F0 c1 Q f cs'):CW P n H0 F0 c1 Q f cs:=
 fun H hc=>h H (by rw[ha.eq]; exact hc.conv hs hv)
def XC(P:Program) [bF P](n:Nat)(o:Oper)(f:Fr)(pre:List ay){ι:Type}(val:ι->Value)(post:ι->List ay):Prop:=
 ∀H,Ctx H (foot pre) H pre->AU P n o f H (fun f' H'=>∃x,f'=put f o.dst (val x)/\Ctx H (foot pre) H' (post x))
theorem uL{pre rest:List ay}{ι:Type}{val:ι->Value}{post cs':ι->List ay}(hs:fq cs pre rest)(hx:XC P n ⟨d,op,T,ps,af,none⟩ f pre val post)(ha:∀x,rF (post x) rest (cs' x))
   (h:∀x,aR P n H0 F0 A r (put f d (val x)) (cs' x) K):aR P n H0 F0 A (⟨d,op,T,ps,af,none⟩::r) f cs K:=by
 intro H hc
 refine ad3 (.none rfl) ?_
 intro ρ w a K' Q' hr hf hkk
 have hc':=hc.take hs
 refine hx H hc'.view ρ w a K' Q' hr hf fun f' ρ' H' a' w' h1 h2 h3 h4=>?_
 obtain⟨x,rfl,h5⟩:=h4
 have h6:=hc'.back h5
 rw[←(ha x).eq]at h6
 exact hkk _ _ _ _ _ h1 h2 h3 (h x H' h6)
theorem lJ{vk:Nat->Value}{b:eO}(hw:b.wr=true)(hn:uJ P n ⟨d,op,T,ps,af,none⟩ f vk b)(h:∀k,aR P n H0 F0 A r (put f d (vk k)) (fT k b::cs) K):aR P n H0 F0 A (⟨d,op,T,ps,af,none⟩::r) f cs K:=by
 intro H hc
 refine hn.run rfl (h H.length _ ?_)
 refine Ctx.step (pre:=[]) (post:=[fT H.length b]) (rest:=cs) hc (by simp) (qc.app _ _).mg (fun k hk _=>by rw[aQQ hk]) ?_ (by simp[fT]) (by simp[fT])
 intro c hcm
 simp at hcm
 subst hcm
 exact⟨hw,by simp⟩
theorem aze{vk:Nat->Value}{b:eO}(hw:b.wr=false)(hn:uJ P n ⟨d,op,T,ps,af,none⟩ f vk b)(h:∀k,aR P n H0 F0 A r (put f d (vk k)) (pR k b::cs) K):aR P n H0 F0 A (⟨d,op,T,ps,af,none⟩::r) f cs K:=by
 intro H hc
 refine hn.run rfl (h H.length _ ?_)
 refine Ctx.step (pre:=[]) (post:=[pR H.length b]) (rest:=cs) hc (by simp) (qc.app _ _).mg (fun k hk _=>by rw[aQQ hk]) ?_ (by simp[pR]) (by simp[pR])
 intro c hcm
 simp at hcm
 subst hcm
 exact⟨hw,by simp⟩
theorem Ctx.cO{c c':ay}{rest:List ay}{H:aB}(h:Ctx H0 F0 H cs)(hs:dU cs c rest)(hc:∀H,c.P H->c'.P (cO H c.F))(hw:∀H,c.P H-> ∀k∈c.F,∃b,H[k]?=some (some b)/\b.wr=true)(hF:c'.F=[]):Ctx H0 F0 (cO H c.F) (c'::rest):=by
 have h':=h.perm hs.perm
 have hp:=h'.hold c (by simp)
 refine Ctx.step (pre:=[c]) (post:=[c']) h' (by rw[jv]; exact aQT _) (ve _ _) (fun k _ hk=>xg _ _ (by simpa[foot]using hk)) ?_ (by simp[foot,hF]) (by simp[foot,hF])
 intro d hd
 simp at hd
 subst hd
 exact hc H hp
theorem akx{H H':aB}{K:Fr->aB->Prop}(hl:H'.length=H.length)(hc:∀k:Nat,(H'[k]?).map core=(H[k]?).map core)(h:pg P n A l f H' K):pg P n A l f H K:=
 fun ρ w a Q' hr hf hk=>h ρ w a Q' (hr.recore hl hc) hf fun f' ρ' H2 a' w' h1 h2 h3 h4=>hk f' ρ' H2 a' w' h1 h2 ((Step.recore hl hc).trans h3) h4
theorem alm{H H':aB}{Q:Exit->Fr->aB->Prop}(hl:H'.length=H.length)(hc:∀k:Nat,(H'[k]?).map core=(H[k]?).map core)(h:AW P n c1 Q f H'):AW P n c1 Q f H:=
 fun ρ w a hr hf=>aTl (h ρ w a (hr.recore hl hc) hf) fun _ _ _ ⟨f',ρ',H2,h1,h2,h3,h4⟩=>⟨f',ρ',H2,h1,h2,(Step.recore hl hc).trans h3,h4⟩
structure xC(c c':ay):Prop where
 P:∀H,c.P H->c'.P (cO H c.F)
 w:∀H,c.P H-> ∀k∈c.F,∃b,H[k]?=some (some b)/\b.wr=true
 F:c'.F=[]
theorem afg{c c':ay}{rest:List ay}(hs:dU cs c rest)(hf:xC c c')(h:aR P n H0 F0 A l f (c'::rest) K):aR P n H0 F0 A l f cs K:=
 fun H hc=>akx (jv _ _) (wX _ H) (h _ (hc.cO hs hf.P hf.w hf.F))
theorem uq{c c':ay}{rest:List ay}(hs:dU cs c rest)(hf:xC c c')(h:CW P n H0 F0 c1 Q f (c'::rest)):CW P n H0 F0 c1 Q f cs:=
 fun H hc=>alm (jv _ _) (wX _ H) (h _ (hc.cO hs hf.P hf.w hf.F))
def bL(cs cs':List ay):Prop:=∀H0 F0 H,Ctx H0 F0 H cs-> ∃H2:aB,H2.length=H.length/\(∀k:Nat,(H2[k]?).map core=(H[k]?).map core)/\Ctx H0 F0 H2 cs'
theorem bL.sel{pre rest:List ay}(hs:fq cs pre rest):bL cs pre:=fun _ _ H hc=>⟨H,rfl,fun _=>rfl,(hc.take hs).sublist (aSe _ _)⟩
theorem bL.conv{pre post rest cs' cs2:List ay}(hs:fq cs pre rest)(hv:Conv pre post)(ha:rF post rest cs')(h:bL cs' cs2):bL cs cs2:=fun H0 F0 H hc=>h H0 F0 H (by rw[ha.eq]; exact hc.conv hs hv)
theorem bL.cO{c c':ay}{rest cs2:List ay}(hs:dU cs c rest)(hf:xC c c')(h:bL (c'::rest) cs2):bL cs cs2:=fun H0 F0 H hc=>by
 obtain⟨H2,h1,h2,h3⟩:=h H0 F0 _ (hc.cO hs hf.P hf.w hf.F)
 exact⟨H2,h1.trans (jv _ _),fun k=>(h2 k).trans (wX _ H k),h3⟩
theorem gV(he:bL cs cs')(h:CW P n H0 F0 c1 Q f cs'):CW P n H0 F0 c1 Q f cs:=fun H hc=>by
 obtain⟨H2,h1,h2,h3⟩:=he H0 F0 H hc
 exact alm h1 h2 (h H2 h3)
theorem aX{α:Type}{Ro:b_ α} [bS Ro] [j4 Ro]{R':aB->Value->α->Prop} [bz R'] [jS Ro R']{F:List Nat}{v:Value}{a:α}:xC (ah Ro F v a) (aI R' v a):=
 ⟨fun H h=>jS.cO (R:=Ro) h (fun _ h=>h),fun H h=>j4.owns (R:=Ro) h,rfl⟩
theorem amC{k:Nat}{es:List Value}{T:TypeId}{o:Bool}:xC (fT k ⟨es,T,o,true⟩) (pR k ⟨es,T,o,false⟩):=
 ⟨fun H h=>⟨rfl,by have:=NC [k] H _ h.2 (.inl (by simp)); exact this⟩,fun H h q hq=>by
   obtain rfl:q=k:=by simpa[fT]using hq
   exact⟨_,h.2,rfl⟩,rfl⟩
end
end Go.Fw
/-
 Contracts of functions; calls; stores; append.
-/
set_option linter.unusedVariables false
namespace Go.Fw
open Go
def Spec(P:Program) [bF P](g:FuncId)(args:List Value)(pre:List ay){ι:Type}(val:ι->Value)(post:ι->List ay):Prop:=
 ∀H F0,Ctx H F0 H pre->AC P g args H (fun r H'=>∃x,r=val x/\Ctx H F0 H' (post x))
section
variable{P:Program} [bF P]{n:Nat}{f:Fr}{H0:aB}{F0:List Nat}{cs:List ay}
def UM(tmps:Array Value):ResultVar->Sem Value
 | .tmp t=>pure (tmps.getD t undef)
 | .cell a t=>do loadVar t (←asAddr (tmps.getD a undef))
inductive Ta (P:Program) [bF P] (tmps:Array Value) (w:World):List ResultVar->List Value->Prop
 |nil:Ta P tmps w [] []
 |cons {r:ResultVar} {v:Value} {rs:List ResultVar} {vs:List Value} (h:(UM tmps r).run P w= .ok v w) (t:Ta P tmps w rs vs):Ta P tmps w (r::rs) (v::vs)
def qX(vs:List Value):Value:=match vs with|[v]=>v|vs=>.tuple vs.toArray
theorem auv{fn:Func}{rs:List ResultVar}{vs:List Value}{tmps:Array Value}{w:World}(hr:fn.results=rs.toArray)(hl:rs.length<=6)(h:Ta P tmps w rs vs):
   (results fn tmps).run P w= .ok (qX vs) w:=by
 have e:results fn tmps=(do
     let vs ←fn.results.mapM (UM tmps)
     pure (if h:vs.size=1 then vs[0]else .tuple vs)):=by
   unfold results
   congr 1
 rw[e,hr]
 cases h with
 |nil=>simp[qX]
 |cons h1 t1=>
   cases t1 with
   |nil=>simp[qX,h1]
   |cons h2 t2=>
     cases t2 with
     |nil=>simp[qX,h1,h2]
     |cons h3 t3=>
       cases t3 with
       |nil=>simp[qX,h1,h2,h3]
       |cons h4 t4=>
         cases t4 with
         |nil=>simp[qX,h1,h2,h3,h4]
         |cons h5 t5=>
           cases t5 with
           |nil=>simp[qX,h1,h2,h3,h4,h5]
           |cons h6 t6=>
             cases t6 with
             |nil=>simp[qX,h1,h2,h3,h4,h5,h6]
             |cons _ _=>simp at hl
inductive mJ (P:Program) [bF P] (n:Nat) (f:Fr) (cs:List ay):List ResultVar->List Value->Prop
 |nil:mJ P n f cs [] []
 |tmp {t:Tmp} {v:Value} {rs:List ResultVar} {vs:List Value} (hv:f t=v) (ht:Nat.blt t n=true) (h:mJ P n f cs rs vs):mJ P n f cs (.tmp t::rs) (v::vs)
 |lZ {t:Tmp} {T:TypeId} {k s:Nat} {b:eO} {l:List Value} {rs:List ResultVar} {vs:List Value} (hv:f t= .pointer (some ⟨k,0,some 0⟩)) (ht:Nat.blt t n=true) (hm:Mem (fT k b) cs) (hb:b.elems=[.agg l.toArray])
     (hA:AG P T true) (hs:SZ P T s) (h0:Nat.blt 0 s=true) (hl:l.length=s) (h:mJ P n f cs rs vs):mJ P n f cs (.cell t T::rs) (.agg l.toArray::vs)
 |cellS {t:Tmp} {T:TypeId} {k:Nat} {b:eO} {v:Value} {rs:List ResultVar} {vs:List Value} (hv:f t= .pointer (some ⟨k,0,some 0⟩)) (ht:Nat.blt t n=true) (hm:Mem (fT k b) cs) (hb:b.elems=[v])
     (hA:AG P T false) (hc:v.cells= #[v]) (h:mJ P n f cs rs vs):mJ P n f cs (.cell t T::rs) (v::vs)
theorem mJ.run{ρ:dI}{H:aB}{w:World}{a:Act}(hrel:aD P ρ H w)(hf:kY ρ n f a)(hc:∀c∈cs,c.P H){rs:List ResultVar}{vs:List Value}(h:mJ P n f cs rs vs):
   ∃ws,Ta P a.tmps w rs ws/\bn ρ vs ws:=by
 induction h with
 |nil=>exact⟨[],.nil,.nil⟩
 | @tmp t v rs vs hv ht _ ih=>
   obtain⟨ws,h1,h2⟩:=ih
   have:=hf.get t (by simpa[aRg]using ht)
   rw[hv]at this
   exact⟨_::ws,.cons (by simp[UM]) h1,.cons _ _ _ _ this h2⟩
 | @lZ t T k s b l rs vs hv ht hm hb hA hs h0 hl _ ih=>
   obtain⟨ws,h1,h2⟩:=ih
   have hp:=hf.get t (by simpa[aRg]using ht)
   rw[hv]at hp
   have hbk:H[k]?=some (some b):=(hc _ hm.mem).2
   obtain⟨L,hl',hbr,hcc⟩:=hp.ptr_inv hrel hbk
   have hs0:0<s:=by simpa[aRg]using h0
   obtain⟨c1,ct,fr,hh,hle,hrl⟩:=hbr.part (i:=0) (e:=.agg l.toArray) (by rw[hb]; rfl) (s:=s) (j:=0) (by simp[Value.cells,hl]) hs0
   have hrun:=run_loadCells P hh s hle
   refine⟨.agg ((c1.toList.drop (L.off+0*L.sz+0)).take s).toArray::ws,.cons ?_ h1,.cons _ _ _ _ ?_ h2⟩
   · have hlv:(loadVar T ⟨L.blk,L.off+0*L.sz+0,none⟩).run P w= .ok (.agg ((c1.toList.drop (L.off+0*L.sz+0)).take s).toArray) w:=by
       simp only[loadVar]
       have hrun':=hrun
       simp at hrun'
       simp[AG.run hA,SZ.run hs,hrun']
     simp only[UM,hcc,asAddr]
     simp only[aR5,aRV]at hlv ⊢
     simp[hlv]
   · have:((Value.agg l.toArray).cells.toList.drop 0).take s=l:=by
       rw[aRl,←hl]; simp[Value.cells]
     rw[this]at hrl
     exact bW.agg _ _ hrl
 | @cellS t T k b v rs vs hv ht hm hb hA hcv _ ih=>
   obtain⟨ws,h1,h2⟩:=ih
   have hp:=hf.get t (by simpa[aRg]using ht)
   rw[hv]at hp
   have hbk:H[k]?=some (some b):=(hc _ hm.mem).2
   obtain⟨L,hl',hbr,hcc⟩:=hp.ptr_inv hrel hbk
   obtain⟨c1,ct,fr,hh,hle,hrl⟩:=hbr.part (i:=0) (e:=v) (by rw[hb]; rfl) (s:=1) (j:=0) (by simp[hcv]) (by omega)
   obtain⟨c,hc',hvc⟩:=hrl.get 0 v (by simp[hcv])
   refine⟨c::ws,.cons ?_ h1,.cons _ _ _ _ hvc h2⟩
   have hcell:w.cell? ⟨L.blk,L.off+0*L.sz+0,none⟩=some c:=by
     rw[Nv hh]
     simpa[aSa]using hc'
   simp only[aR5,aRV]at hcell
   simp only[UM,hcc,asAddr,aR5,aRV]
   simp[loadVar,AG.run hA,load,Sem.run,hcell]
def Du(P:Program) [bF P](n:Nat)(rs:List ResultVar){ι:Type}(val:ι->Value)(post:ι->List ay):Exit->Fr->List ay->Prop:=fun e f cs=>
 match e with
 | .normal| .ret=>∃x vs,mJ P n f cs rs vs/\qX vs=val x/\bL cs (post x)
 |_=>False
theorem iW{rs:List ResultVar}{ι:Type}{val:ι->Value}{post:ι->List ay}{vs:List Value}(x:ι)(h1:mJ P n f cs rs vs)(h2:qX vs=val x)(h3:bL cs (post x)):
   Du P n rs val post .ret f cs:=⟨x,vs,h1,h2,h3⟩
theorem axW{rs:List ResultVar}{ι:Type}{val:ι->Value}{post:ι->List ay}{vs:List Value}(x:ι)(h1:mJ P n f cs rs vs)(h2:qX vs=val x)(h3:bL cs (post x)):
   Du P n rs val post .normal f cs:=⟨x,vs,h1,h2,h3⟩
theorem bn.pack{ρ:dI}{vs ws:List Value}(h:bn ρ vs ws):bW ρ (qX vs) (qX ws):=by
 match vs,ws,h with
 |[],[],h=>exact .tuple _ _ h
 |[_],[_],.cons _ _ _ _ h .nil=>exact h
 |_::_::_,_::_::_,h=>exact .tuple _ _ h
theorem Im{g:FuncId}{fn:Func}{c:Code}{rs:List ResultVar}{args:List Value}{pre:List ay}{ι:Type}{val:ι->Value}{post:ι->List ay}(hf:P.funcs[g]?=some fn)(hb:fn.body=some c)
   (hn:fn.ntmps=n) (hr:fn.results=rs.toArray) (hl:Nat.ble rs.length 6=true) (ha:Nat.ble args.length n=true)
   (h:∀H0 F0,CW P n H0 F0 c (Du P n rs val post) (Z_ args) pre):Spec P g args pre val post:=by
 intro H F0 dD ρ w lI hrel hargs
 have ha':args.length<=n:=by simpa[aSV]using ha
 have hlen:lI.size=args.length:=by rw[hargs.length]; simp
 refine calls_of_wp hf hb ?_
 have hF:kY ρ n (Z_ args) {tmps:=lI++Array.replicate (fn.ntmps-lI.size) undef,defers:=[]}:=by
   refine⟨rfl,by simp[hn,hlen]; omega,fun t htn=>?_⟩
   have hg:(lI++Array.replicate (fn.ntmps-lI.size) undef).getD t undef=lI.toList.getD t undef:=by
     rcases aQ7 t lI.size with h|h
     · simp[aRp,aSn,aSB h]
     · rw[aRp,aSn,Array.getElem?_append_right h,aQR (by simpa using h)]
       rw[Array.getElem?_replicate]; split<;>rfl
   show bW ρ (args.getD t undef) _
   rw[hg]
   exact hargs.getD t
 refine aTl (h H F0 H dD ρ w _ hrel hF) fun e a' w' hp=>?_
 obtain⟨f',ρ',H',h1,h2,h3,cs',h4,h5⟩:=hp
 have key:(∃x vs,mJ P n f' cs' rs vs/\qX vs=val x/\bL cs' (post x))->
     a'.defers=[]/\ ∃v,(results fn a'.tmps).run P w'= .ok v w'/\ ∃v0 r xV xW,Ending.returned v= .returned v0/\bW xV r v0/\aD P xV xW w'/\Step ρ H w xV xW w'/\ ∃x,r=val x/\Ctx H F0 xW (post x):=by
   rintro⟨x,vs,g1,g2,g3⟩
   obtain⟨ws,r1,r2⟩:=g1.run h2 h1 h5.hold
   obtain⟨H2,e1,e2,e3⟩:=g3 H F0 H' h5
   exact⟨h1.defers,_,auv hr (by simpa[aSV]using hl) r1,_,qX vs,ρ',H2,rfl,r2.pack,h2.recore e1 e2,h3.trans (Step.recore e1 e2),x,g2,e3⟩
 cases e<;>simp only[Du]at h4
 · exact key h4
 · exact key h4
variable{d:Option Tmp}{x y z:Operand}{T T' T'' T2 E:TypeId}{ps:String}{af:Array Edge}{gd:Option (Nat×Bool)}{pre:List ay}
theorem cK{g:FuncId}{xs:List Operand}{ts:Array TypeId}{vs:List Value}{ι:Type}{val:ι->Value}{post:ι->List ay}(hg:CF P g)(hxs:fE n f xs vs)(hs:Spec P g vs pre val post):
   XC P n ⟨d,.call ⟨.value (.func g),xs.toArray,ts⟩,T',ps,af,gd⟩ f pre val post:=
 fun H hc=>ay9 hg hxs (hs H _ hc) fun v H' ⟨x,e,h⟩=>⟨x,by rw[e],h⟩
theorem ZQ{g:FuncId}{xs:List Operand}{ts:Array TypeId}{vs first cap:List Value}{ι:Type}{val:ι->Value}{post:ι->List ay}(hg:CF P g)(hx:EV n f x (.func (.func g) first.toArray cap.toArray))(hxs:fE n f xs vs)
   (hs:Spec P g (first++vs++cap) pre val post):XC P n ⟨d,.call ⟨.value x,xs.toArray,ts⟩,T',ps,af,gd⟩ f pre val post:=
 fun H hc=>axV hg hx hxs (hs H _ hc) fun v H' ⟨x,e,h⟩=>⟨x,by rw[e],h⟩
theorem Ctx.one{H:aB}{k:Nat}{b b':eO}(hc:Ctx H [k] H [fT k b])(hw:b'.wr=true):Ctx H [k] (H.set k (some b')) [fT k b']:=by
 have hb:=hc.hold (fT k b) (by simp)
 refine⟨by simp,?_,fun j _ hj=>?_,?_,by simp[fT],?_⟩
 · intro j c hj hcw
   have hne:k≠j:=fun e=>by
     subst e
     have:=hb.2
     rw[hj]at this
     injection this with this; injection this with this
     rw[this,hb.1]at hcw; simp at hcw
   rw[aQ8 hne]; exact hj
 · rw[aQ8 (fun e=>hj (by simp[e]))]
 · intro c hm
   simp at hm; subst hm
   exact⟨hw,aRo (qh hb.2)⟩
 · intro j hj
   simp[fT]at hj; subst hj
   exact⟨.inl (by simp),by simpa using qh hb.2⟩
theorem iO{k j s:Nat}{e e' v:Value}{TB:TypeId}(hs:SZ P T s)(hx:EV n f x (.pointer (some ⟨k,0,some j⟩)))(hy:EV n f y v)
   (hv:v.cells.size=s) (hsc:v.cells.toList.all scal=true) (h0:Nat.blt 0 s=true) (hj:Nat.ble (j+s) e.cells.size=true) (he:lW e j v.cells.toList=e'):
   XC P n ⟨d,.store T x y,T',ps,af,gd⟩ f [aW k TB e] (fun _:Unit=>undef) (fun _=>[aW k TB e']):=fun H hc=>by
 have hb:=hc.hold _ (List.mem_singleton.2 rfl)
 refine aek (b:=⟨[e],TB,true,true⟩) (e:=e) hs hx hy hb.2 rfl rfl hv hsc (by simpa[aRg]using h0) (by simpa[aSV]using hj) ⟨(),rfl,?_⟩
 rw[he]
 exact hc.one rfl
end
end Go.Fw
/-
 Slices: literals, append, elements.
-/
set_option linter.unusedVariables false
namespace Go.Fw
open Go
def app{α:Type}(xs ys:List α):Option (List α):=if xs.length+ys.length<4294967296 then some (xs++ys)else none
theorem aw6{α:Type}{xs ys zs:List α}(h:app xs ys=some zs):zs=xs++ys/\xs.length+ys.length<4294967296:=by
 unfold app at h
 split at h
 · exact⟨by simpa using h.symm,by assumption⟩
 · simp at h
def ix{α:Type}(l:List α)(i:Int):Option α:=if 0<=i then l[i.toNat]? else none
theorem kU{α:Type}{l:List α}{i:Int}{a:α}(h:ix l i=some a):0<=i/\l[i.toNat]?=some a:=by
 unfold ix at h
 split at h
 · exact⟨by assumption,h⟩
 · simp at h
def j5(b:Bool):Option Unit:=if b then some ()else none
theorem tF{b:Bool}{u:Unit}(h:j5 b=some u):b=true:=by
 unfold j5 at h
 split at h
 · assumption
 · simp at h
def jD:Value->Option Nat
 | .slice (some a) _ _=>some a.block
 |_=>none
theorem kH{α:Type}{xs:List α}{k:Nat}{a:α}{l:List α}(h:List.drop k xs=a::l):k<xs.length/\xs[(k:Int).toNat]?=some a/\List.drop (k+1) xs=l:=by
 have hlt:k<xs.length:=by
   rcases aQ7 k xs.length with h'|h'
   · exact h'
   · rw[aRj h']at h; simp at h
 rw[aQV hlt]at h
 injection h with h1 h2
 exact⟨hlt,by rw[aRc,apA hlt,h1],h2⟩
def aaa(H:aB)(E:TypeId)(v:Value)(xs:List Value):Prop:=Reads H E v xs\/ ∃k i m,v= .slice (some ⟨k,i,none⟩) 0 m/\xs=[]
theorem aaa.rel{P:Program} [bF P]{ρ:dI}{H:aB}{w:World}{E:TypeId}{s:Nat}{v c:Value}{xs:List Value}(hs:SZ P E s)(h0:0<s)(hr:aD P ρ H w)(h:aaa H E v xs)(hv:bW ρ v c):
   ∃base cap,c= .slice base xs.length cap/\xs.length<=cap/\(∀e∈xs,e.cells.size=s)/\
     ∃cells:Array Value,(Builtin.firstCells s xs.length c).run P w= .ok cells w/\bn ρ (flat xs) cells.toList:=by
 rcases h with h|⟨k,i,m,rfl,rfl⟩
 · exact h.rel hs h0 hr hv
 · cases hv with
   |slice _ _ _ _ L p cap h hc h1 h2 hp=>exact⟨some p,cap,rfl,Nat.zero_le _,by simp,#[],by simp[Builtin.firstCells,loadCells,loadCellsFrom],.nil⟩
   |ui _ _ _ _ p cap h=>exact⟨some p,cap,rfl,Nat.zero_le _,by simp,#[],by simp[Builtin.firstCells,loadCells,loadCellsFrom],.nil⟩
structure Mk{α:Type}(Ro:b_ α)(F:List Nat)(e:Value)(a:α)(pre:List ay):Prop where
 hold:∀H,(∀c∈pre,c.P H)->Ro F H e a
 foot:F=foot pre
structure Kh{α:Type}(Ro:b_ α)(F:List Nat)(es:List Value)(xs:List α)(pre:List ay):Prop where
 hold:∀H,(∀c∈pre,c.P H)->cZ Ro H es xs F
 foot:F=foot pre
section
variable{α:Type}{Ro:b_ α}{R:aB->Value->α->Prop}
theorem vg{e:Value}{a:α}(h:∀H,R H e a):Mk (az R) [] e a []:=⟨fun H _=>⟨rfl,h H⟩,rfl⟩
theorem yA [bS Ro]{F:List Nat}{v:Value}{a:α}:Mk Ro F v a [ah Ro F v a]:=⟨fun H h=>h (ah Ro F v a) (by simp),by simp[ah]⟩
theorem aak [bz R]{v:Value}{a:α}:Mk (az R) [] v a [aI R v a]:=⟨fun H h=>⟨rfl,h (aI R v a) (by simp)⟩,by simp[aI]⟩
theorem fU:Kh Ro [] [] [] []:=⟨fun H _=>.nil,rfl⟩
theorem iV{F G:List Nat}{e:Value}{es:List Value}{a:α}{xs:List α}{p q pre:List ay}(h:Mk Ro F e a p)(t:Kh Ro G es xs q)(ha:rF p q pre):Kh Ro (F++G) (e::es) (a::xs) pre:=by
 obtain rfl:=ha.eq
 exact⟨fun H hh=>.cons (h.hold H fun c hc=>hh c (by simp[hc])) (t.hold H fun c hc=>hh c (by simp[hc])),by rw[h.foot,t.foot]; simp[foot]⟩
theorem jJ [bS Ro]{E:TypeId}:Conv [] [ah (aa E Ro) [] (.slice none 0 0) []]:=⟨fun H _ c hc=>by
 simp at hc; subst hc; exact .inl ⟨rfl,rfl,rfl⟩,by simp[ah]⟩
theorem zW [bz R]{E:TypeId}:Conv [] [aI (ak E R) (.slice none 0 0) []]:=⟨fun H _ c hc=>by
 simp at hc; subst hc; exact .inl ⟨rfl,rfl⟩,by simp[aI]⟩
theorem gu [bS Ro]{E:TypeId}{k m:Nat}{F:List Nat}{es:List Value}{xs:List α}{pre:List ay}(h:Kh Ro F es xs pre)(hl:xs.length=m)(hb:Nat.blt m 4611686018427387904=true):
   Conv (fT k ⟨es,E,true,true⟩::pre) [ah (aa E Ro) (k::F) (.slice (some ⟨k,0,none⟩) m 1) xs]:=by
 subst hl
 refine⟨fun H hh c hc=>?_,?_⟩
 · simp at hc; subst hc
   have hk:=hh (fT k ⟨es,E,true,true⟩) (by simp)
   exact .inr ⟨k,1,_,F,rfl,.inl rfl,hk.2,rfl,rfl,rfl,by simpa[aRg]using hb,rfl,h.hold H fun c hc=>hh c (by simp[hc])⟩
 · simp[ah,fT,h.foot]
theorem wY [bS Ro]{E:TypeId}{F:List Nat}{v:Value}{xs:List α}{H:aB}(h:(ah (aa E Ro) F v xs).P H):∃a m,v= .slice a xs.length m:=aa.len (Ro:=Ro) h
theorem amD [bz R]{E:TypeId}{v:Value}{xs:List α}{H:aB}(h:(aI (ak E R) v xs).P H):∃a m,v= .slice a xs.length m:=ak.len (R:=R) h
theorem akZ [bS Ro]{E:TypeId}{F:List Nat}{v:Value}{xs:List α}(H:aB)(h:(ah (aa E Ro) F v xs).P H):xs.length<4611686018427387904:=aa.bound (Ro:=Ro) h
theorem aln [bz R]{E:TypeId}{v:Value}{xs:List α}(H:aB)(h:(aI (ak E R) v xs).P H):xs.length<4611686018427387904:=ak.bound (R:=R) h
structure Src(E:TypeId)(Ro:b_ α)(u:Value)(ys:List α)(c:ay):Prop where
 h:∀H,c.P H-> ∃es G,aaa H E u es/\cZ Ro H es ys G/\G.Sublist c.F
theorem aa.reads{E:TypeId}{F:List Nat}{H:aB}{v:Value}{xs:List α}(h:aa E Ro F H v xs):∃es G,Reads H E v es/\cZ Ro H es xs G/\an0 H v/\((F=[]/\G=[]/\jD v=none)\/ ∃k,F=k::G/\jD v=some k/\ ∃b,H[k]?=some (some b)/\b.wr=true):=by
 rcases h with⟨rfl,rfl,rfl⟩|⟨k,m,b,G,rfl,h2,h3,h4,h5,h6,h7,rfl,h9⟩
 · exact⟨[],[],.inl ⟨rfl,rfl⟩,.nil,.inl rfl,.inl ⟨rfl,rfl,rfl⟩⟩
 · refine⟨b.elems,G,.inr ⟨k,0,_,m,b,rfl,h3,h6,by rw[h9.length]; omega,by rw[←h9.length]; simp⟩,h9,?_,.inr ⟨k,rfl,rfl,b,h3,h4⟩⟩
   exact .inr ⟨k,0,_,m,b,rfl,h3,h2.imp id fun h=>⟨h,rfl,h5⟩⟩
theorem kJ [bS Ro]{E:TypeId}{F:List Nat}{u:Value}{ys:List α}:Src E Ro u ys (ah (aa E Ro) F u ys):=⟨fun H h=>by
 obtain⟨es,G,h1,h2,-,h3⟩:=aa.reads (Ro:=Ro) h
 refine⟨es,G,.inl h1,h2,?_⟩
 rcases h3 with⟨rfl,rfl,-⟩|⟨k,rfl,-⟩
 · exact .refl _
 · exact List.sublist_cons_self _ _⟩
theorem aeM{H:aB}:∀{es:List Value}{ys:List α},es.length=ys.length->(∀(j:Nat) a,ys[j]?=some a-> ∃e,es[j]?=some e/\R H e a)->cZ (az R) H es ys []
 |[],[],_,_=>.nil
 |e::es,a::ys,hl,h=>by
   obtain⟨e',he,hr⟩:=h 0 a (by simp)
   obtain rfl:e=e':=by simpa using he
   have:=cZ.cons (F:=[]) (G:=[]) ⟨rfl,hr⟩ (aeM (es:=es) (ys:=ys) (by simpa using hl) (fun j a hj=>by simpa using h (j+1) a (by simpa using hj)))
   simpa using this
 |[],_::_,hl,_=>by simp at hl
 |_::_,[],hl,_=>by simp at hl
theorem zX [bz R]{E:TypeId}{u:Value}{ys:List α}:Src E (az R) u ys (aI (ak E R) u ys):=⟨fun H h=>by
 have h:ak E R H u ys:=h
 rcases h with⟨rfl,rfl⟩|⟨k,i,m,b,rfl,h2,h3,h4,h5,hL,h6⟩|⟨k,i,m,rfl,rfl⟩
 · exact⟨[],[],.inl (.inl ⟨rfl,rfl⟩),.nil,.refl _⟩
 · refine⟨_,[],.inl (.inr ⟨k,i,_,m,b,rfl,h2,h4,h5,rfl⟩),aeM (by simp; omega) (fun j a hj=>?_),.refl _⟩
   obtain⟨e,he,hr⟩:=h6 j a hj
   have hlt:j<ys.length:=by
     rcases aQ7 j ys.length with h|h
     · exact h
     · simp[aQR h]at hj
   exact⟨e,by rw[aRm hlt,aRE]; exact he,hr⟩
 · exact⟨[],[],.inr ⟨k,i,m,rfl,rfl⟩,.nil,.refl _⟩⟩
end
section
variable{P:Program} [bF P]{n:Nat}{f:Fr}{H0:aB}{F0:List Nat}{cs:List ay}{A:Array Oper}{l r:List Oper}{K:Fr->List ay->Prop}{d:Option Tmp}{x y z:Operand}{T T' T'' T2 E:TypeId}{ps:String}{af:Array Edge}{gd:Option (Nat×Bool)}
variable{α:Type}{Ro:b_ α}{R:aB->Value->α->Prop}{s by':Nat}{v u zv:Value}{xs ys zs:List α}{ts:List TypeId}
theorem Io(H:aB)(v:Value):(xn H v).length=H.length:=by
 unfold xn; split<;>simp
theorem adA(H:aB)(v:Value){k:Nat}(h:jD v≠some k):(xn H v)[k]?=H[k]?:=by
 unfold xn
 split
 · rw[aQ8 (fun e=>h (by simp[jD,e]))]
 · rfl
theorem awp{old:List Value}(hT:SL P T E)(qb:oH P T2)(hs:SZ P E s)(h0:0<s){H:aB}(hx:EV n f x v)(hy:EV n f y u)(hr:Reads H E v old)(hn:aaa H E u []):
   fK P n ⟨d,.call ⟨.builtin .append,[x,y].toArray,(T::T2::ts).toArray⟩,T',ps,af,gd⟩ f H v:=by
 intro ρ w a hrel hf
 obtain⟨base,cap,hcx,hcap,-,-,-,-⟩:=hr.rel hs h0 hrel (hx.use hf)
 obtain⟨an1,cap2,hcy,-,-,cells,NB,hcells⟩:=hn.rel hs h0 hrel (hy.use hf)
 have hu:P.underlying T=some (.slice E):=hT
 have hcn:cells= #[]:=by
   have:=hcells.length
   simp[flat]at this
   exact Array.eq_empty_of_size_eq_zero this.symm
 subst hcn
 rw[hcy,aQ']at NB
 rw[aQ']at hcy
 refine⟨a.eval x,?_,hx.use hf⟩
 cases base with
 |none=>
   rcases qb with hu2|⟨e2,hu2⟩<;>
     simp[execOp,resolve,invoke,builtin,Builtin.append_,hcx,hcy,underlying,hu,hu2,SZ.run hs,Builtin.lenOf,hcap,NB]
 |some b=>
   rcases qb with hu2|⟨e2,hu2⟩<;>
     simp[execOp,resolve,invoke,builtin,Builtin.append_,hcx,hcy,underlying,hu,hu2,SZ.run hs,Builtin.lenOf,hcap,NB,storeCells]
theorem iU [bS Ro] [kL Ro s]{F:List Nat}{c:ay}(hT:SL P T E)(qb:oH P T2)(ht:TY P E s by' zv)(h0:Nat.blt 0 s=true)(hzs:zv.cells.size=s)(hby:Nat.ble by' 16384=true)
   (hx:EV n f x v) (hy:EV n f y u) (hz:app xs ys=some zs) (hc:Src E Ro u ys c):
   XC P n ⟨d,.call ⟨.builtin .append,[x,y].toArray,(T::T2::ts).toArray⟩,T',ps,af,gd⟩ f [ah (aa E Ro) F v xs,c] (fun p:Sv×List Nat=>p.1.v) (fun p=>[ah (aa E Ro) p.2 p.1.v zs]):=by
 intro H dD
 have h0':0<s:=by simpa[aRg]using h0
 have JM:by'<=16384:=by simpa[aSV]using hby
 obtain⟨rfl,hroom⟩:=aw6 hz
 obtain⟨iE,xX,h1,h2,h3⟩:=ht.inv
 have ho:=dD.hold (ah (aa E Ro) F v xs) (by simp)
 obtain⟨new,G',hnr,hnew,hsub⟩:=hc.h H (dD.hold c (by simp))
 obtain⟨old,G,hor,hold,hgr,hF⟩:=aa.reads (Ro:=Ro) ho
 have hnd:(F++c.F).Nodup:=by have:=dD.nd; simpa[foot,ah]using this
 have Ty:∀k∈F++c.F,k<H.length:=fun k hk=>(dD.own k (by simpa[foot,ah]using hk)).2
 by_cases hne:ys=[]
 · subst hne
   have hes:new=[]:=List.length_eq_zero_iff.1 (by simpa using hnew.length)
   subst hes
   rw[aQ_]
   obtain⟨va,vm,rfl⟩:=aa.len (Ro:=Ro) ho
   refine Zy (awp hT qb ht.sz h0' hx hy hor hnr) ?_
   exact⟨(⟨va,xs.length,vm⟩,F),rfl,dD.sublist (by simp)⟩
 · have hes:new≠[]:=by
     intro e; subst e; have:=hnew.length; simp at this; exact hne (List.length_eq_zero_iff.1 this.symm)
   have hnc:=hnew.cells (s:=s)
   have hsc:(flat new).all scal=true:=by
     refine List.all_eq_true.2 fun q hq=>?_
     obtain⟨e,he,hce⟩:=List.mem_flatMap.1 hq
     exact (List.all_eq_true.1 (hnc e he).2) q hce
   refine aw3 (old:=old) (new:=new) hT qb ht.sz h0' xX h3 hzs h2 hx hy hor hgr (hnr.resolve_right fun ⟨_,_,_,_,h⟩=>hes h) hes hsc ?_ ?_ ?_
   · rw[hold.length,hnew.length]
     calc (2*(xs.length+ys.length)+1024)*by'<=(2*4294967296+1024)*16384:=aSP (by omega) JM
       _<=2 ^ 48:=by decide
   · rw[hold.length,hnew.length]; omega
   · have m_:fP H (xn H v++[some ⟨old++new,E,true,true⟩]):=by
       intro k b hk hw
       have hkl:=qh hk
       rw[aQQ (by rw[Io]; exact hkl),adA H v ?_,hk]
       intro e
       rcases hF with⟨-,-,h⟩|⟨k',-,h,b',g1,g2⟩
       · rw[h]at e; simp at e
       · rw[h]at e
         obtain rfl:k'=k:=by simpa using e
         rw[hk]at g1
         injection g1 with g1; injection g1 with g1
         rw[g1]at hw; rw[hw]at g2; simp at g2
     have hget:∀k,k<H.length->k∉F->(xn H v++[some ⟨old++new,E,true,true⟩])[k]?=H[k]?:=by
       intro k hk xY
       rw[aQQ (by rw[Io]; exact hk),adA]
       intro e
       rcases hF with⟨-,-,h⟩|⟨k',rfl,h,-⟩
       · rw[h]at e; simp at e
       · rw[h]at e
         obtain rfl:k'=k:=by simpa using e
         simp at xY
     have aal:G.Sublist F:=by
       rcases hF with⟨rfl,rfl,-⟩|⟨k',rfl,-⟩
       · exact .refl _
       · exact List.sublist_cons_self _ _
     have hGF:∀k∈G,(xn H v++[some ⟨old++new,E,true,true⟩])[k]?=H[k]?:=by
       intro k hk
       rw[aQQ (by rw[Io]; exact Ty k (List.mem_append.2 (.inl (aal.subset hk)))),adA]
       intro e
       rcases hF with⟨-,-,h⟩|⟨k',rfl,h,-⟩
       · rw[h]at e; simp at e
       · rw[h]at e
         obtain rfl:k'=k:=by simpa using e
         have:=(List.nodup_append.1 hnd).1
         simp at this
         exact this.1 hk
     have aFd:∀k∈G',(xn H v++[some ⟨old++new,E,true,true⟩])[k]?=H[k]?:=by
       intro k hk
       refine hget k (Ty k (List.mem_append.2 (.inr (hsub.subset hk)))) fun xY=>?_
       exact (List.nodup_append.1 hnd).2.2 k xY k (hsub.subset hk) rfl
     refine⟨(⟨some ⟨H.length,0,none⟩,old.length+new.length,2⟩,H.length::(G++G')),rfl,?_⟩
     refine⟨by simp[Io],m_,fun k hk xY=>?_,?_,?_,?_⟩
     · exact hget k hk (fun h=>xY (by simp[foot,ah,h]))
     · intro q hq
       simp at hq; subst hq
       refine .inr ⟨H.length,2,⟨old++new,E,true,true⟩,G++G',by simp[hold.length,hnew.length],.inr rfl,?_,rfl,rfl,rfl,by simp; omega,rfl,?_⟩
       · rw[aRq (by rw[Io]; exact aQT _)]; simp[Io]
       · exact (hold.keep m_ hGF).append (hnew.keep m_ aFd)
     · simp only[foot,av1,aRL,aQ_,ah]
       refine List.nodup_cons.2 ⟨fun hm=>?_,?_⟩
       · have:H.length∈F++c.F:=by
           rcases List.mem_append.1 hm with h|h
           · exact List.mem_append.2 (.inl (aal.subset h))
           · exact List.mem_append.2 (.inr (hsub.subset h))
         have:=Ty _ this
         omega
       · exact hnd.sublist (aal.append hsub)
     · intro k hk
       simp only[foot,av1,aRL,aQ_,ah,aQ1,aQZ]at hk
       have hlen:((xn H v++[some ⟨old++new,E,true,true⟩]:aB)).length=H.length+1:=by simp[Io]
       rw[hlen]
       rcases hk with rfl|hk|hk
       · exact⟨.inr (aQT _),by omega⟩
       · have:=aal.subset hk
         refine⟨.inl (by simp[foot,ah,this]),?_⟩
         have:=Ty k (List.mem_append.2 (.inl this)); omega
       · have:=hsub.subset hk
         refine⟨.inl (by simp[foot,this]),?_⟩
         have:=Ty k (List.mem_append.2 (.inr this)); omega
theorem tK{H:aB}{l:Nat}{ts:List TypeId}(hT:SL P T E)(hx:EV n f x v)(h:∃a m,v= .slice a l m):
   fK P n ⟨d,.call ⟨.builtin .len,[x].toArray,(T::ts).toArray⟩,T',ps,af,none⟩ f H (.int .i64 l):=by
 obtain⟨a,m,rfl⟩:=h
 exact aBK hT hx
theorem amE [bz R]{E:TypeId}{H:aB}{j:Nat}{a:α}(h:(aI (ak E R) v xs).P H)(hj:xs[j]?=some a):∃k i m,v= .slice (some ⟨k,i,none⟩) xs.length m/\j<xs.length/\PtrTo E R H k (i+j) a:=ak.get (R:=R) h hj
theorem Jk [bz R]{kk:IntKind}{i:Int}{a:α}(hT:SL P T E)(hs:SZ P E s)(hx:EV n f x v)(hy:EV n f y (.int kk i))(hm:Mem (aI (ak E R) v xs) cs)(h0:0<=i)(hi:xs[i.toNat]?=some a)
   (h:∀k j,aR P n H0 F0 A r (put f d (.pointer (some ⟨k,j,some 0⟩))) (jM E R k j a::cs) K):aR P n H0 F0 A (⟨d,.indexAddr T x y,T',ps,af,none⟩::r) f cs K:=by
 intro H hc
 obtain⟨k,j,m,rfl,hlt,hp⟩:=amE (hc.mem hm) hi
 have hp':=hp
 obtain⟨b,e,h1,h2,h3,h4,h5⟩:=hp'
 exact vV (Y2 hT hs hx hy h1 h3 h0 (by omega)) (h k _ H (hc.dup (c:=jM E R k _ a) hp rfl))
theorem an5 [bz R]{k j off:Nat}{a:α}{w:Value}(hA:AG P T false)(hx:EV n f x (.pointer (some ⟨k,j,some off⟩)))(hm:Mem (jM E R k j a) cs)(hop:∀H e,R H e a->e.cells.toList[off]?=some w)
   (h:aR P n H0 F0 A r (put f d w) cs K):aR P n H0 F0 A (⟨d,.load T x,T',ps,af,none⟩::r) f cs K:=
 gM hm (fun{H} hp=>by
   obtain⟨b,e,h1,h2,h3,h4,h5⟩:=hp
   exact gy hA hx h1 h4 (hop H e h5)) h
theorem Tz [bz R]{β:Type}{R':aB->Value->β->Prop} [bz R']{k j off:Nat}{a:α}{q:β}(hA:AG P T false)(hx:EV n f x (.pointer (some ⟨k,j,some off⟩)))(hm:Mem (jM E R k j a) cs)(hop:∀H e,R H e a-> ∃w:Sv,e.cells.toList[off]?=some w.v/\R' H w.v q)
   (h:∀w:Sv,aR P n H0 F0 A r (put f d w.v) (aI R' w.v q::cs) K):aR P n H0 F0 A (⟨d,.load T x,T',ps,af,none⟩::r) f cs K:=by
 intro H hc
 obtain⟨b,e,h1,h2,h3,h4,h5⟩:=hc.mem hm
 obtain⟨w,hw,hr⟩:=hop H e h5
 exact vV (gy hA hx h1 h4 hw) (h w H (hc.dup (c:=aI R' w.v q) hr rfl))
theorem aam [bz R]{ι:Type}{k j off s:Nat}{a:α}(ul:ι->List Value){cc cs':ι->List ay}(hA:AG P T true)(hs:SZ P T s)(h0:Nat.blt 0 s=true)(hx:EV n f x (.pointer (some ⟨k,j,some off⟩)))(hm:Mem (jM E R k j a) cs)
   (hop:∀H e,R H e a-> ∃i,off+s<=e.cells.size/\(e.cells.toList.drop off).take s=ul i/\ ∀c∈cc i,c.P H/\c.F=[]) (ha:∀i,rF (cc i) cs (cs' i))
   (h:∀i,aR P n H0 F0 A r (put f d (.agg (ul i).toArray)) (cs' i) K):aR P n H0 F0 A (⟨d,.load T x,T',ps,af,none⟩::r) f cs K:=by
 intro H hc
 obtain⟨b,e,h1,h2,h3,h4,h5⟩:=hc.mem hm
 obtain⟨i,g1,g2,g3⟩:=hop H e h5
 refine vV (pO hA hs hx h1 h4 (by simpa[aRg]using h0) g1 g2) (h i H ?_)
 rw[(ha i).eq]
 have:∀(l:List ay),(∀c∈l,c.P H/\c.F=[])->Ctx H0 F0 H (l++cs):=by
   intro l
   induction l with
   |nil=>intro _; exact hc
   |cons c l ih=>intro hl; exact (ih fun d hd=>hl d (by simp[hd])).dup (hl c (by simp)).1 (hl c (by simp)).2
 exact this _ g3
theorem iJ [bS Ro]{F:List Nat}{kk:IntKind}{i:Int}(hT:SL P T E)(hs:SZ P E s)(hx:EV n f x v)(hy:EV n f y (.int kk i))(hm:Mem (ah (aa E Ro) F v xs) cs)(hi:(decide (0<=i)&&decide (i<(xs.length:Int)))=true)
   (h:∀k,jD v=some k->aR P n H0 F0 A r (put f d (.pointer (some ⟨k,i.toNat,some 0⟩))) cs K):aR P n H0 F0 A (⟨d,.indexAddr T x y,T',ps,af,none⟩::r) f cs K:=by
 intro H hc
 simp only[age,ag3]at hi
 have ho:aa E Ro F H v xs:=hc.mem hm
 rcases ho with⟨rfl,rfl,-⟩|⟨k,m,b,G,rfl,h2,h3,h4,h5,h6,h7,-,h9⟩
 · simp at hi; omega
 · have:=h k rfl H hc
   exact vV (Y2 hT hs hx hy h3 h6 hi.1 (by omega)) (by simpa using this)
theorem lX{i:Int}{a:α}(h:ix xs i=some a):(decide (0<=i)&&decide (i<(xs.length:Int)))=true:=by
 obtain⟨h0,h1⟩:=kU h
 have:i.toNat<xs.length:=by
   rcases aQ7 i.toNat xs.length with h|h
   · exact h
   · simp[aQR h]at h1
 simp only[age,ag3]
 omega
theorem TC [bS Ro]{F:List Nat}{k j off:Nat}{a:α}{w:Value}(hA:AG P T false)(hx:EV n f x (.pointer (some ⟨k,j,some off⟩)))(hm:Mem (ah (aa E Ro) F v xs) cs)(hk:jD v=some k)(hj:xs[j]?=some a)
   (hop:∀F H e,Ro F H e a->e.cells.toList[off]?=some w) (h:aR P n H0 F0 A r (put f d w) cs K):aR P n H0 F0 A (⟨d,.load T x,T',ps,af,none⟩::r) f cs K:=
 gM hm (fun{H} ho=>by
   have ho:aa E Ro F H v xs:=ho
   rcases ho with⟨rfl,rfl,-⟩|⟨k',m,b,G,rfl,h2,h3,h4,h5,h6,h7,-,h9⟩
   · simp[jD]at hk
   · have e:k'=k:=by simpa[jD]using hk
     subst e
     obtain⟨e,F1,Fj,F2,g1,g2,g3,-⟩:=h9.at hj
     exact gy hA hx h3 g1 (hop Fj H e g3)) h
theorem uZ [bS Ro] [kL Ro s]{F G:List Nat}{k:Nat}{i:Int}{a:α}{pre:List ay}(hs:SZ P T s)(h0:Nat.blt 0 s=true)(hx:EV n f x (.pointer (some ⟨k,i.toNat,some 0⟩)))(hy:EV n f y u)(hk:jD v=some k)
   (hi:(decide (0<=i)&&decide (i<(xs.length:Int)))=true) (ha:Mk Ro G u a pre) (hagg:∀F H e a',Ro F H e a'->lW e 0 u.cells.toList=u):
   XC P n ⟨d,.store T x y,T',ps,af,gd⟩ f (ah (aa E Ro) F v xs::pre) (fun _:List Nat=>undef) (fun F'=>[ah (aa E Ro) F' v (xs.set i.toNat a)]):=by
 intro H dD
 simp only[age,ag3]at hi
 have ho:aa E Ro F H v xs:=dD.hold (ah (aa E Ro) F v xs) (by simp)
 have hu:=ha.hold H fun c hc=>dD.hold c (by simp[hc])
 have hnd:(F++G).Nodup:=by have:=dD.nd; simpa[foot,ah,ha.foot]using this
 have hown:∀q∈F++G,q<H.length:=fun q hq=>(dD.own q (by simpa[foot,ah,ha.foot]using hq)).2
 rcases ho with⟨rfl,rfl,-⟩|⟨k',m,b,G0,rfl,h2,h3,h4,h5,h6,h7,rfl,h9⟩
 · simp[jD]at hk
 · have e:k'=k:=by simpa[jD]using hk
   subst e
   have hlt:i.toNat<xs.length:=by omega
   obtain⟨e,F1,Fj,F2,g1,rfl,g3,g4⟩:=h9.at (apA hlt)
   have hcu:=kL.cells hu
   have hce:=kL.cells g3
   refine aek hs hx hy h3 h5 g1 hcu.1 hcu.2 (by simpa[aRg]using h0) (by rw[hce.1]; omega) ⟨k'::(F1++G++F2),rfl,?_⟩
   rw[hagg _ _ _ _ g3]
   have Cx:∀q,q≠k'->(H.set k' (some ⟨b.elems.set i.toNat u,b.ty,true,b.wr⟩))[q]?=H[q]?:=fun q hq=>by rw[aQ8 (fun e=>hq e.symm)]
   have m_:fP H (H.set k' (some ⟨b.elems.set i.toNat u,b.ty,true,b.wr⟩)):=by
     intro q b2 hq hw2
     rw[Cx q (fun e=>by
       subst e; rw[hq]at h3
       injection h3 with h3; injection h3 with h3
       rw[h3]at hw2; rw[hw2]at h4; simp at h4)]
     exact hq
   simp only[aSt,aTj,aQZ]at hnd
   have hkn:k'∉G:=fun h=>hnd.1 (.inr h)
   have hk1:∀q,q∈F1\/q∈Fj\/q∈F2->q≠k':=fun q hq e=>by subst e; exact hnd.1 (.inl (by rcases hq with h|h|h<;>simp[h]))
   refine⟨by simp,m_,fun q hq Ea=>Cx q (fun e=>Ea (by subst e; simp[foot,ah])),?_,?_,?_⟩
   · intro c hc
     simp at hc; subst hc
     refine .inr ⟨k',m,_,F1++G++F2,by rw[aRK],h2,aRo (qh h3),h4,rfl,h6,by simpa using h7,by simp,?_⟩
     refine g4 (fun Fi x y hr hm=>bS.keep hr m_ fun q hq=>Cx q (hk1 q ?_)) (bS.keep hu m_ fun q hq=>Cx q (fun e=>hkn (e ▸ hq)))
     rcases hm q hq with h|h
     · exact .inl h
     · exact .inr (.inr h)
   · simp only[foot,av1,aRL,aQ_,ah]
     have hn2:=hnd.2
     have p1:(k'::(F1++G++F2)).Perm (k'::(F1++F2++G)):=by
       refine List.Perm.cons _ ?_
       rw[aQY,aQY]
       exact List.Perm.append_left _ List.perm_append_comm
     refine (p1.nodup_iff).2 (List.nodup_cons.2 ⟨fun h=>?_,?_⟩)
     · refine hnd.1 ?_
       simp only[aQZ]at h
       rcases h with (h|h)|h
       · exact .inl (by simp[h])
       · exact .inl (by simp[h])
       · exact .inr h
     · refine hn2.sublist ?_
       have:(F1++F2).Sublist (F1++Fj++F2):=by
         rw[aQY]
         exact (aSQ _).append (aSd _ _)
       exact this.append (aSQ _)
   · intro q hq
     simp only[foot,av1,aRL,aQ_,ah,aQ1,aQZ]at hq
     have hmem:q∈(k'::(F1++Fj++F2))++G:=by
       rcases hq with rfl|hq
       · simp
       · rcases hq with (h|h)|h<;>simp[h]
     refine⟨.inl ?_,by simpa using hown q hmem⟩
     simp only[foot,av1,ah,aQZ]
     have Eb:=ha.foot
     simp only[foot]at Eb
     rw[←Eb]
     exact List.mem_append.1 hmem
end
end Go.Fw
/-
 Drawn regions: whatever order is drawn, the text's own order gives the result.
-/
set_option linter.unusedVariables false
namespace Go.Fw
open Go
def jf(A:List Oper)(o:Oper)(f f':Fr):Prop:=∀t,t∈dE A o->f' t=f t
def Ao(K:List Nat)(H H':aB):Prop:=H.length<=H'.length/\fP H H'/\ ∀k∈K,k<H.length->H'[k]?=H[k]?
theorem Ao.refl(K:List Nat)(H:aB):Ao K H H:=⟨aQT _,fP.refl _,fun _ _ _=>rfl⟩
theorem Ao.trans{K:List Nat}{a b c:aB}(h:Ao K a b)(g:Ao K b c):Ao K a c:=⟨aQ6 h.1 g.1,h.2.1.trans g.2.1,fun k hk hl=>(g.2.2 k hk (aQ2 hl h.1)).trans (h.2.2 k hk hl)⟩
def aab(tb:List Nat)(ps:List Nat):Nat:=ps.foldl (fun m j=>m ||| ((1<<<j) ||| tb.getD j 0)) 0
def agE(l:List Oper)(tb:List Nat):Bool:=l.zipIdx.all fun(o,i)=>Nat.beq (aab tb (mZ o) ||| tb.getD i 0) (aab tb (mZ o))
def bit(tb:List Nat)(i j:Nat):Bool:=(tb.getD i 0).testBit j
theorem alo(tb:List Nat)(q:Nat):∀(ps:List Nat)(m:Nat),(ps.foldl (fun m j=>m ||| ((1<<<j) ||| tb.getD j 0)) m).testBit q=true->m.testBit q=true\/ ∃j∈ps,j=q\/bit tb j q=true
 |[],m,h=>.inl h
 |j::ps,m,h=>by
   rcases alo tb q ps _ h with h|⟨j',h1,h2⟩
   · rw[aTn,aTn,aR4,aR4]at h
     rcases h with h|h|h
     · exact .inl h
     · refine .inr ⟨j,by simp,.inl ?_⟩
       rw[Nat.testBit_shiftLeft]at h
       simp only[age,ag3]at h
       have:=Nat.testBit_one_eq_true_iff_self_eq_zero.1 h.2
       omega
     · exact .inr ⟨j,by simp,.inr h⟩
   · exact .inr ⟨j',by simp[h1],h2⟩
theorem avH{l:List Oper}{tb:List Nat}(hok:okD l=true)(ht:agE l tb=true){S:Nat->Prop}(hS:∀i o,l[i]?=some o->S i-> ∀j∈mZ o,S j):
   ∀i o,l[i]?=some o->(∀j∈mZ o,S j)-> ∀q,bit tb i q=true->S q:=by
 intro i
 induction i using Nat.strongRecOn with
 |_ i ih=>
   intro o ho hp q hq
   have h1:=(List.all_eq_true.1 ht) (o,i) (by rw[aSi]; exact ho)
   have h2:=aRU h1
   have h3:(aab tb (mZ o)).testBit q=true:=by
     rw[←h2,aTn,aR4]; exact .inr hq
   rcases alo tb q _ _ h3 with h|⟨j,hj,rfl|hb⟩
   · simp at h
   · exact hp _ hj
   · have hji:=anp hok ho hj
     have hjl:j<l.length:=by
       have:i<l.length:=by
         rcases aQ7 i l.length with h|h
         · exact h
         · simp[aQR h]at ho
       omega
     exact ih j hji l[j] (apA hjl) (fun r hr=>hS j _ (apA hjl) (hp j hj) r hr) q hb
section
variable(P:Program) [bF P](n:Nat)
def CR(K:List Nat)(A:List Oper)(o:Oper)(f:Fr)(H:aB)(v:Value):Prop:=
 ((∀f',jf A o f f'->Wanted n A.toArray f' o true)/\ ∀f' H',jf A o f f'->Ao K H H'->fK P n o f' H' v)\/(v=undef/\ ∀f',jf A o f f'->Wanted n A.toArray f' o false)
def TD(A:List Oper)(o:Oper)(f:Fr)(H:aB)(Qc:Value->aB->Prop):Prop:=
 (∀f',jf A o f f'->Wanted n A.toArray f' o true)/\ ∀f',jf A o f f'->AU P n o f' H (fun Oj H'=>∃v,Oj=put f' o.dst v/\Qc v H')
def NF(A:List Oper)(o:Oper)(f:Fr)(vk:Nat->Value)(b:eO):Prop:=
 (∀f',jf A o f f'->Wanted n A.toArray f' o true)/\ ∀f',jf A o f f'->uJ P n o f' vk b
end
def agF(tb:List Nat)(i:Nat)(fl:List (Nat×List Nat))(H H':aB):Prop:=∀p∈fl,bit tb i p.1=true\/ ∀k∈p.2,H'[k]?=H[k]?
inductive lM (P:Program) [bF P] (n:Nat) (l:List Oper) (tb aO:List Nat) (K:Fr->aB->Prop):List Nat->(Nat->Prop)->List (Nat×List Nat)->Fr->aB->Prop
 |done {pend:Nat->Prop} {fl:List (Nat×List Nat)} {f:Fr} {H:aB} (hp:∀k,¬ pend k) (h:K f H):lM P n l tb aO K [] pend fl f H
 |qJ {i:Nat} {r Ks:List Nat} {pend:Nat->Prop} {fl:List (Nat×List Nat)} {o:Oper} {f:Fr} {H:aB} {v:Value} (ho:l[i]?=some o) (hv:CR P n Ks l o f H v) (h:lM P n l tb aO K r pend ((i,Ks)::fl) (put f o.dst v) H):lM P n l tb aO K (i::r) pend fl f H
 |act {i:Nat} {r:List Nat} {pend:Nat->Prop} {fl:List (Nat×List Nat)} {o:Oper} {f:Fr} {H:aB} {Qc:Value->aB->Prop} (hA:aO.any (Nat.beq i)=true) (ho:l[i]?=some o) (hv:TD P n l o f H Qc)
     (hq:∀v H',Qc v H'->H.length<=H'.length/\fP H H'/\agF tb i fl H H') (h:∀v H',Qc v H'->lM P n l tb aO K r pend fl (put f o.dst v) H'):lM P n l tb aO K (i::r) pend fl f H
 |res {r:List Nat} {pend pV:Nat->Prop} {fl:List (Nat×List Nat)} {f:Fr} {H:aB} {b:eO} (hp:∀q,pV q↔pend q\/q=H.length) (h:lM P n l tb aO K r pV fl f (H++[some b])):lM P n l tb aO K r pend fl f H
 |xZ {i k:Nat} {r:List Nat} {pend pV:Nat->Prop} {fl:List (Nat×List Nat)} {o:Oper} {f:Fr} {H:aB} {b:eO} {vk:Nat->Value} (ho:l[i]?=some o) (hk:pend k) (hb:H[k]?=some (some b)) (hp:∀q,pV q↔pend q/\q≠k)
     (hv:NF P n l o f vk b) (h:lM P n l tb aO K r pV ((i,[k])::fl) (put f o.dst (vk k)) H):lM P n l tb aO K (i::r) pend fl f H
def agG(l:List Oper)(tb aO:List Nat)(j i:Nat):Prop:=i≠j/\(∀o,l[j]?=some o->i∉mZ o)/\(aO.any (Nat.beq j)=true->bit tb i j=true)
def TE(l:List Oper)(tb aO:List Nat):List Nat->Bool
 |[]=>true
 |j::r=>(r.all fun i=>!Nat.beq i j&&((match l[j]? with|some o=>(mZ o).all (fun q=>!Nat.beq q i)|none=>true)&&(!aO.any (Nat.beq j)||bit tb i j)))&&TE l tb aO r
theorem ak0{l:List Oper}{tb aO:List Nat}:∀{r:List Nat},TE l tb aO r=true->r.Pairwise (agG l tb aO)
 |[],_=>.nil
 |j::r,h=>by
   simp only[TE,age]at h
   refine .cons (fun i hi=>?_) (ak0 h.2)
   have:=(List.all_eq_true.1 h.1) i hi
   simp only[age,aR4,aR1]at this
   obtain⟨h1,h2,h3⟩:=this
   refine⟨fun e=>by subst e; simp at h1,fun o ho hm=>?_,fun ha=>?_⟩
   · rw[ho]at h2
     have:=(List.all_eq_true.1 h2) i hm
     simp at this
   · rcases h3 with h3|h3
     · rw[ha]at h3; simp at h3
     · exact h3
section
variable{P:Program} [bF P]{n:Nat}{l:List Oper}{tb aO:List Nat}{K:Fr->aB->Prop}
theorem lM.less{todo:List Nat}{pend:Nat->Prop}{fl:List (Nat×List Nat)}{f:Fr}{H:aB}(h:lM P n l tb aO K todo pend fl f H):∀{qK:List (Nat×List Nat)},(∀p∈qK,p∈fl)->lM P n l tb aO K todo pend qK f H:=by
 induction h with
 |done hp h=>intro qK _; exact .done hp h
 |qJ ho hv _ ih=>intro qK hs; exact .qJ ho hv (ih fun p hp=>by rcases List.mem_cons.1 hp with h|h; simp[h]; simp[hs p h])
 |act hA ho hv hq _ ih=>
   intro qK hs
   exact .act hA ho hv (fun v H' hc=>⟨(hq v H' hc).1,(hq v H' hc).2.1,fun p hp=>(hq v H' hc).2.2 p (hs p hp)⟩) fun v H' hc=>ih v H' hc hs
 |res hp _ ih=>intro qK hs; exact .res hp (ih hs)
 |xZ ho hk hb hp hv _ ih=>intro qK hs; exact .xZ ho hk hb hp hv (ih fun p hp=>by rcases List.mem_cons.1 hp with h|h; simp[h]; simp[hs p h])
theorem CR.frame{Ks:List Nat}{o:Oper}{f f2:Fr}{H:aB}{v:Value}(h:CR P n Ks l o f H v)(hn:jf l o f f2):CR P n Ks l o f2 H v:=by
 have hh:∀f',jf l o f2 f'->jf l o f f':=fun f' h t ht=>(h t ht).trans (hn t ht)
 exact h.imp (fun ⟨a,b⟩=>⟨fun f' q=>a f' (hh f' q),fun f' H' q=>b f' H' (hh f' q)⟩) (fun ⟨a,b⟩=>⟨a,fun f' q=>b f' (hh f' q)⟩)
theorem CR.heap{Ks:List Nat}{o:Oper}{f:Fr}{H H2:aB}{v:Value}(h:CR P n Ks l o f H v)(hl:Ao Ks H H2):CR P n Ks l o f H2 v:=
 h.imp (fun ⟨a,b⟩=>⟨a,fun f' H' q r=>b f' H' q (hl.trans r)⟩) id
theorem TD.frame{o:Oper}{f f2:Fr}{H:aB}{Qc:Value->aB->Prop}(h:TD P n l o f H Qc)(hn:jf l o f f2):TD P n l o f2 H Qc:=by
 have hh:∀f',jf l o f2 f'->jf l o f f':=fun f' h t ht=>(h t ht).trans (hn t ht)
 exact⟨fun f' q=>h.1 f' (hh f' q),fun f' q=>h.2 f' (hh f' q)⟩
theorem NF.frame{o:Oper}{f f2:Fr}{vk:Nat->Value}{b:eO}(h:NF P n l o f vk b)(hn:jf l o f f2):NF P n l o f2 vk b:=by
 have hh:∀f',jf l o f2 f'->jf l o f f':=fun f' h t ht=>(h t ht).trans (hn t ht)
 exact⟨fun f' q=>h.1 f' (hh f' q),fun f' q=>h.2 f' (hh f' q)⟩
theorem put_comm(f:Fr)(d d':Option Tmp)(v v':Value)(h:∀t,d=some t->d'≠some t):put (put f d v) d' v'=put (put f d' v') d v:=by
 cases d with
 |none=>rfl
 |some t=>
   cases d' with
   |none=>rfl
   |some t'=>
     have hne:t'≠t:=fun e=>h t rfl (by rw[e])
     funext s
     simp only[put]
     by_cases e:s=t
     · subst e; rw[upd_ne _ _ (fun e=>hne e.symm),IL,IL]
     · rw[upd_ne _ v e]
       by_cases e':s=t'
       · subst e'; rw[IL,IL]
       · rw[upd_ne _ _ e',upd_ne _ _ e',upd_ne _ _ e]
theorem E5{A:List Oper}{o:Oper}{f:Fr}{d:Option Tmp}{v:Value}(h:∀t,d=some t->t∉dE A o):jf A o f (put f d v):=by
 intro t ht
 cases d with
 |none=>rfl
 |some u=>exact upd_ne _ _ (fun e=>h u rfl (e ▸ ht))
theorem jf.symm{A:List Oper}{o:Oper}{f f':Fr}(h:jf A o f f'):jf A o f' f:=fun t ht=>(h t ht).symm
def Ext(H:aB)(pend:Nat->Prop)(H1:aB)(tN:Nat->Prop):Prop:=(∃bs:List eO,H1=H++bs.map some)/\ ∀q,tN q↔pend q\/(H.length<=q/\q<H1.length)
theorem Ext.refl(H:aB)(pend:Nat->Prop):Ext H pend H pend:=⟨⟨[],by simp⟩,fun q=>⟨.inl,fun h=>h.elim id fun h=>by omega⟩⟩
theorem Ext.sub{H H1:aB}{pend tN:Nat->Prop}(h:Ext H pend H1 tN):qc H H1:=by
 obtain⟨⟨bs,rfl⟩,-⟩:=h
 exact qc.app _ _
def Tc(P:Program) [bF P](n:Nat)(l:List Oper)(tb aO:List Nat)(K:Fr->aB->Prop)(i:Nat)(o:Oper)(r:List Nat)(pend:Nat->Prop)(fl:List (Nat×List Nat))(f:Fr)(H:aB):Prop:=
 (∃Ks v,CR P n Ks l o f H v/\lM P n l tb aO K r pend fl (put f o.dst v) H)\/
 (∃Qc,TD P n l o f H Qc/\ ∀v H',Qc v H'->(H.length<=H'.length/\fP H H'/\agF tb i fl H H')/\lM P n l tb aO K r pend fl (put f o.dst v) H')\/
 (∃k b vk,∃pV:Nat->Prop,pend k/\H[k]?=some (some b)/\(∀q,pV q↔pend q/\q≠k)/\NF P n l o f vk b/\lM P n l tb aO K r pV fl (put f o.dst (vk k)) H)
variable(hok:okD l=true)
include hok
theorem aky{i j:Nat}{o p:Oper}(hi:l[i]?=some o)(hj:l[j]?=some p)(hne:i≠j)(h1:j∉mZ o)(h2:i∉mZ p):
   (∀t,p.dst=some t->t∉dE l o)/\(∀t,o.dst=some t->t∉dE l p)/\(∀t,p.dst=some t->o.dst≠some t):=by
 refine⟨fun t ht hm=>?_,fun t ht hm=>?_,fun t ht=>?_⟩
 · rcases (ad4 hok hi hj ht).2 hm with e|⟨-,e⟩|⟨-,e⟩
   · exact hne e.symm
   · exact h1 e
   · exact h2 e
 · rcases (ad4 hok hj hi ht).2 hm with e|⟨-,e⟩|⟨-,e⟩
   · exact hne e
   · exact h2 e
   · exact h1 e
 · rcases (ad4 hok hi hj ht).1 with e|e
   · exact absurd e.symm hne
   · exact e
theorem aBW{i j:Nat}{o p:Oper}{r Kj:List Nat}{pend:Nat->Prop}{fl:List (Nat×List Nat)}{f:Fr}{H:aB}{vj:Value}(hi:l[i]?=some o)(hj:l[j]?=some p)(hne:i≠j)(h1:j∉mZ o)(h2:i∉mZ p)(hb:bit tb i j=false)
   (hf:CR P n Kj l p f H vj) (h:Tc P n l tb aO K i o r pend ((j,Kj)::fl) (put f p.dst vj) H):Tc P n l tb aO K i o (j::r) pend fl f H:=by
 obtain⟨n1,n2,n3⟩:=aky hok hi hj hne h1 h2
 have e1:jf l o (put f p.dst vj) f:=(E5 n1).symm
 rcases h with⟨Ks,v,g1,g2⟩|⟨Qc,g1,g2⟩|⟨k,b,vk,pV,g1,g2,g3,g4,g5⟩
 · refine .inl ⟨Ks,v,g1.frame e1,.qJ hj (hf.frame (E5 n2)) ?_⟩
   rw[put_comm _ _ _ _ _ n3]at g2
   exact g2
 · refine .inr (.inl ⟨Qc,g1.frame e1,fun v H' hc=>?_⟩)
   obtain⟨⟨q1,q2,q3⟩,g2⟩:=g2 v H' hc
   refine⟨⟨q1,q2,fun p hp=>q3 p (by simp[hp])⟩,.qJ hj ((hf.frame (E5 n2)).heap ⟨q1,q2,?_⟩) ?_⟩
   · rcases q3 (j,Kj) (by simp)with h|h
     · rw[hb]at h; simp at h
     · exact fun k hk _=>h k hk
   · rw[put_comm _ _ _ _ _ n3]at g2
     exact g2
 · refine .inr (.inr ⟨k,b,vk,pV,g1,g2,g3,g4.frame e1,.qJ hj (hf.frame (E5 n2)) ?_⟩)
   rw[put_comm _ _ _ _ _ n3]at g5
   exact g5
theorem wrapN{i j kj:Nat}{o p:Oper}{r:List Nat}{pend an6:Nat->Prop}{fl:List (Nat×List Nat)}{f:Fr}{H:aB}{bj:eO}{vj:Nat->Value}(hi:l[i]?=some o)(hj:l[j]?=some p)(hne:i≠j)(h1:j∉mZ o)(h2:i∉mZ p)(hb:bit tb i j=false)
   (hf:NF P n l p f vj bj) (hk:pend kj) (hbk:H[kj]?=some (some bj)) (hp0:∀q,an6 q↔pend q/\q≠kj) (h:Tc P n l tb aO K i o r an6 ((j,[kj])::fl) (put f p.dst (vj kj)) H):Tc P n l tb aO K i o (j::r) pend fl f H:=by
 obtain⟨n1,n2,n3⟩:=aky hok hi hj hne h1 h2
 have e1:jf l o (put f p.dst (vj kj)) f:=(E5 n1).symm
 rcases h with⟨Ks,v,g1,g2⟩|⟨Qc,g1,g2⟩|⟨k,b,vk,pV,g1,g2,g3,g4,g5⟩
 · refine .inl ⟨Ks,v,g1.frame e1,.xZ hj hk hbk hp0 (hf.frame (E5 n2)) ?_⟩
   rw[put_comm _ _ _ _ _ n3]at g2
   exact g2
 · refine .inr (.inl ⟨Qc,g1.frame e1,fun v H' hc=>?_⟩)
   obtain⟨⟨q1,q2,q3⟩,g2⟩:=g2 v H' hc
   have hbk':H'[kj]?=some (some bj):=by
     rcases q3 (j,[kj]) (by simp)with h|h
     · rw[hb]at h; simp at h
     · rw[h kj (by simp)]; exact hbk
   refine⟨⟨q1,q2,fun p hp=>q3 p (by simp[hp])⟩,.xZ hj hk hbk' hp0 (hf.frame (E5 n2)) ?_⟩
   rw[put_comm _ _ _ _ _ n3]at g2
   exact g2
 · have hp1:=(hp0 k).1 g1
   refine .inr (.inr ⟨k,b,vk,fun q=>pend q/\q≠k,hp1.1,g2,fun q=>Iff.rfl,g4.frame e1,.xZ (pV:=pV) hj ⟨hk,fun e=>hp1.2 e.symm⟩ hbk (fun q=>?_) (hf.frame (E5 n2)) ?_⟩)
   · rw[g3 q,hp0 q]
     constructor
     · exact fun ⟨⟨a,b⟩,c⟩=>⟨⟨a,c⟩,b⟩
     · exact fun ⟨⟨a,b⟩,c⟩=>⟨⟨a,c⟩,b⟩
   · rw[put_comm _ _ _ _ _ n3]at g5
     exact g5
theorem pick{i:Nat}{o:Oper}(hi:l[i]?=some o){todo:List Nat}{pend:Nat->Prop}{fl:List (Nat×List Nat)}{f:Fr}{H:aB}(h:lM P n l tb aO K todo pend fl f H):todo.Pairwise (agG l tb aO)->i∈todo->
   (∀j∈todo,j∉mZ o)->(∀j∈todo,bit tb i j=false)-> ∃H1 tN,Ext H pend H1 tN/\Tc P n l tb aO K i o (todo.erase i) tN fl f H1:=by
 induction h with
 |done hp h=>intro _ hm; simp at hm
 | @qJ j r Kj pend fl p f H vj ho hv hr ih=>
   intro Dv hm hpr hbt
   cases Dv with
   |cons ho1 ho2=>
     by_cases e:j=i
     · subst e
       rw[hi]at ho
       obtain rfl:o=p:=by simpa using ho
       refine⟨H,pend,Ext.refl _ _,?_⟩
       rw[aSW]
       exact .inl ⟨Kj,vj,hv,hr.less fun q hq=>by simp[hq]⟩
     · have hm':i∈r:=by rcases List.mem_cons.1 hm with h|h; exact absurd h.symm e; exact h
       obtain⟨H1,tN,pY,hp⟩:=ih ho2 hm' (fun q hq=>hpr q (by simp[hq])) (fun q hq=>hbt q (by simp[hq]))
       refine⟨H1,tN,pY,?_⟩
       rw[List.erase_cons_tail (by simpa using e)]
       have hs:=pY.sub
       refine aBW hok hi ho (fun h=>e h.symm) (hpr j (by simp)) ((ho1 i hm').2.1 p ho) (hbt j (by simp)) (hv.heap ⟨hs.len,hs.mg,fun k _ hk=>hs.get k hk⟩) hp
 | @act j r pend fl p f H Qc hA ho hv hq hr ih=>
   intro Dv hm hpr hbt
   cases Dv with
   |cons ho1 ho2=>
     by_cases e:j=i
     · subst e
       rw[hi]at ho
       obtain rfl:o=p:=by simpa using ho
       refine⟨H,pend,Ext.refl _ _,?_⟩
       rw[aSW]
       exact .inr (.inl ⟨Qc,hv,fun v H' hc=>⟨hq v H' hc,hr v H' hc⟩⟩)
     · have hm':i∈r:=by rcases List.mem_cons.1 hm with h|h; exact absurd h.symm e; exact h
       have:=(ho1 i hm').2.2 hA
       rw[hbt j (by simp)]at this
       simp at this
 | @res r pend pV fl f H b hp hr ih=>
   intro Dv hm hpr hbt
   obtain⟨H1,tN,⟨⟨bs,hbs⟩,hq⟩,hpk⟩:=ih Dv hm hpr hbt
   refine⟨H1,tN,⟨⟨b::bs,by rw[hbs]; simp⟩,fun q=>?_⟩,hpk⟩
   rw[hq q,hp q,hbs]
   simp only[aQW,aRB,agr,aQ']
   constructor
   · rintro ((h|h)|h)
     · exact .inl h
     · exact .inr (by omega)
     · exact .inr (by omega)
   · rintro (h|h)
     · exact .inl (.inl h)
     · by_cases e:q=H.length
       · exact .inl (.inr e)
       · exact .inr (by omega)
 | @xZ j kj r pend pV fl p f H bj vj ho hk hb hp hv hr ih=>
   intro Dv hm hpr hbt
   cases Dv with
   |cons ho1 ho2=>
     by_cases e:j=i
     · subst e
       rw[hi]at ho
       obtain rfl:o=p:=by simpa using ho
       refine⟨H,pend,Ext.refl _ _,?_⟩
       rw[aSW]
       exact .inr (.inr ⟨kj,bj,vj,pV,hk,hb,hp,hv,hr.less fun q hq=>by simp[hq]⟩)
     · have hm':i∈r:=by rcases List.mem_cons.1 hm with h|h; exact absurd h.symm e; exact h
       obtain⟨H1,tN,pY,hpk⟩:=ih ho2 hm' (fun q hq=>hpr q (by simp[hq])) (fun q hq=>hbt q (by simp[hq]))
       have hs:=pY.sub
       have hkl:=qh hb
       refine⟨H1,fun q=>pend q\/(H.length<=q/\q<H1.length),⟨pY.1,fun q=>Iff.rfl⟩,?_⟩
       rw[List.erase_cons_tail (by simpa using e)]
       refine wrapN hok hi ho (fun h=>e h.symm) (hpr j (by simp)) ((ho1 i hm').2.1 p ho) (hbt j (by simp)) hv (.inl hk) (hs.at hb) (fun q=>?_) hpk
       rw[pY.2 q,hp q]
       constructor
       · rintro (⟨a,b⟩|h)
         · exact⟨.inl a,b⟩
         · exact⟨.inr h,by omega⟩
       · rintro⟨a|h,b⟩
         · exact .inl ⟨a,b⟩
         · exact .inr h
end
end Go.Fw
set_option linter.unusedVariables false
namespace Go.Fw
open Go
theorem Mo{α:Type}{l:List α}{k:Nat}{x:α}(h:l[k]?=some x):k<l.length:=by
 rcases aQ7 k l.length with h'|h'
 · exact h'
 · simp[aQR h']at h
structure StepB(m:Nat)(ρ:dI)(H:aB)(w:World)(ρ':dI)(H':aB)(w':World):Prop where
 up:Up ρ ρ'
 os:w'.os=w.os
 output:w'.output=w.output
 tape:w'.tape=w.tape
 size:w.heap.size<=w'.heap.size
 frame:∀b,b<w.heap.size->(∀k L,ρ k=some (some L)->L.own=true->L.blk≠b)->w'.heap[b]?=w.heap[b]?
 fresh:∀k L,ρ' k=some (some L)->ρ k=some (some L)\/(L.own=true/\(w.heap.size<=L.blk\/ ∃k0 L0,ρ k0=some (some L0)/\L0.own=true/\L0.blk=L.blk))
 len:H.length<=H'.length
 hold:∀k,k<m->ρ k=none->ρ' k=none/\(H'[k]?).map core=(H[k]?).map core
theorem Step.toB{m:Nat}{ρ ρ':dI}{H H':aB}{w w':World}(h:Step ρ H w ρ' H' w')(hm:m<=H.length):StepB m ρ H w ρ' H' w':=
 ⟨h.up,h.os,h.output,h.tape,h.size,h.frame,h.fresh,h.len,fun k hk hn=>h.hold k (aQ2 hk hm) hn⟩
theorem StepB.toStep{ρ ρ':dI}{H H':aB}{w w':World}(h:StepB H.length ρ H w ρ' H' w'):Step ρ H w ρ' H' w':=
 ⟨h.up,h.os,h.output,h.tape,h.size,h.frame,h.fresh,h.len,h.hold⟩
theorem StepB.trans{m:Nat}{ρ ρ₁ ρ₂:dI}{H H₁ H₂:aB}{w w₁ w₂:World}(h:StepB m ρ H w ρ₁ H₁ w₁)(g:StepB m ρ₁ H₁ w₁ ρ₂ H₂ w₂):StepB m ρ H w ρ₂ H₂ w₂ where
 up:=h.up.trans g.up
 os:=g.os.trans h.os
 output:=g.output.trans h.output
 tape:=g.tape.trans h.tape
 size:=aQ6 h.size g.size
 frame b hb hn:=by
   rw[g.frame b (aQ2 hb h.size) ?_,h.frame b hb hn]
   intro k L hk ho he
   rcases h.fresh k L hk with e|⟨-,e|⟨k0,L0,h0,ho0,e⟩⟩
   · exact hn k L e ho he
   · omega
   · exact hn k0 L0 h0 ho0 (e.trans he)
 fresh k L hk:=by
   rcases g.fresh k L hk with e|⟨ho,e|⟨k0,L0,h0,ho0,e⟩⟩
   · exact h.fresh k L e
   · exact .inr ⟨ho,.inl (aQ6 h.size e)⟩
   · rcases h.fresh k0 L0 h0 with e'|⟨-,e'|⟨k1,L1,h1,ho1,e'⟩⟩
     · exact .inr ⟨ho,.inr ⟨k0,L0,e',ho0,e⟩⟩
     · exact .inr ⟨ho,.inl (e ▸ e')⟩
     · exact .inr ⟨ho,.inr ⟨k1,L1,h1,ho1,e'.trans e⟩⟩
 len:=aQ6 h.len g.len
 hold k hk hn:=by
   obtain⟨h1,h2⟩:=h.hold k hk hn
   obtain⟨g1,g2⟩:=g.hold k hk h1
   exact⟨g1,g2.trans h2⟩
section
variable{P:Program} [bF P]{n:Nat}{l:List Oper}{tb aO:List Nat}{K:Fr->aB->Prop}
theorem aD.more{ρ:dI}{H:aB}{w:World}(h:aD P ρ H w)(bs:List eO):aD P ρ (H++bs.map some) w:=by
 constructor
 · intro k L hk
   obtain⟨b',hb',hr⟩:=h.blk k L hk
   exact⟨b',by rw[aQQ (qh hb')]; exact hb',hr⟩
 · intro k b' hb' hk
   by_cases e:k<H.length
   · rw[aQQ e]at hb'; exact h.alive k b' hb' hk
   · rw[h.dom k (by omega)]at hk; simp at hk
 · intro k hk; simp at hk; exact h.dom k (by omega)
 · exact h.inj
 · exact h.xU
theorem StepB.more{m:Nat}{ρ ρ':dI}{H H':aB}{w w':World}(h:StepB m ρ H w ρ' H' w')(hm:m<=H'.length)(bs:List eO):StepB m ρ H w ρ' (H'++bs.map some) w':=
 ⟨h.up,h.os,h.output,h.tape,h.size,h.frame,h.fresh,by have:=h.len; simp; omega,fun k hk hn=>by
   have:=h.hold k hk hn
   rwa [aQQ (by omega)]⟩
theorem aD.fill{ρ:dI}{H:aB}{w w':World}{k:Nat}{b:eO}{cs:Array Value}{cap:Nat}(h:aD P ρ H w)(hk:ρ k=none)(hb:H[k]?=some (some b))(ho:b.own=true)(hh:w'.heap=w.heap.push (.cells cs b.ty (0,0)))
   (he:∀(i:Nat) e,b.elems[i]?=some e->e.cells.size=P.cellsOf b.ty/\bn ρ e.cells.toList ((cs.toList.drop (i*P.cellsOf b.ty)).take (P.cellsOf b.ty))) (hc:cap*P.cellsOf b.ty<=cs.size) (hl:b.elems.length<=cap):
   aD P (ny ρ k (some ⟨w.heap.size,0,P.cellsOf b.ty,cap,true⟩)) H w':=by
 have hu:Up ρ (ny ρ k (some ⟨w.heap.size,0,P.cellsOf b.ty,cap,true⟩)):=by
   intro j
   by_cases e:j=k
   · subst e; exact .inl hk
   · exact .inr (.inl (eH _ _ e))
 constructor
 · intro j L hj
   by_cases e:j=k
   · subst e
     rw[gX]at hj
     obtain rfl:_=L:=by simpa using hj
     refine⟨b,hb,ho,rfl,cs,b.ty,(0,0),by rw[hh]; simp,?_,?_⟩
     · intro i e hi
       have:=(he i e hi).2.up hu
       exact⟨(he i e hi).1,by simpa using this⟩
     · intro _
       exact⟨rfl,hc,hl,fun o _ hx=>by simp at hx,rfl⟩
   · rw[eH _ _ e]at hj
     obtain⟨b',hb',hr⟩:=h.blk j L hj
     have hlt:=h.lt hj
     refine⟨b',hb',hr.of_same hu ?_⟩
     rw[hh,aSh,aqA (by omega)]
 · intro j b' hb' hj
   by_cases e:j=k
   · subst e; rw[gX]at hj; simp at hj
   · rw[eH _ _ e]at hj; exact h.alive j b' hb' hj
 · intro j hj
   have:=qh hb
   rw[eH _ _ (by omega)]
   exact h.dom j hj
 · intro j j' L L' hj hj' ho' hb'
   by_cases e:j=k<;>by_cases e':j'=k
   · rw[e,e']
   · subst e
     rw[gX]at hj; rw[eH _ _ e']at hj'
     obtain rfl:_=L:=by simpa using hj
     have:=h.lt hj'
     simp at hb'; omega
   · subst e'
     rw[gX]at hj'; rw[eH _ _ e]at hj
     obtain rfl:_=L':=by simpa using hj'
     have:=h.lt hj
     simp at hb'; omega
   · rw[eH _ _ e]at hj; rw[eH _ _ e']at hj'
     exact h.inj j j' L L' hj hj' ho' hb'
 · refine h.xU.keep (by rw[hh]; simp) (fun b hb _=>by rw[hh,aSh,aqA (by omega)]) fun j L hj _=>?_
   by_cases e:j=k
   · subst e
     rw[gX]at hj
     obtain rfl:_=L:=by simpa using hj
     exact .inr (.inl (aQT _))
   · rw[eH _ _ e]at hj; exact .inl hj
theorem StepB.fill{m:Nat}{ρ:dI}{H:aB}{w w':World}{k:Nat}{L:Loc}{o:Obj}(hk:ρ k=none)(hm:m<=k)(hL:L.own=true/\L.blk=w.heap.size)(hh:w'.heap=w.heap.push o)(h1:w'.os=w.os)(h2:w'.output=w.output)(h3:w'.tape=w.tape):
   StepB m ρ H w (ny ρ k (some L)) H w' where
 up j:=by
   by_cases e:j=k
   · subst e; exact .inl hk
   · exact .inr (.inl (eH _ _ e))
 os:=h1
 output:=h2
 tape:=h3
 size:=by rw[hh]; simp
 frame b hb _:=by rw[hh,aSh,aqA (by omega)]
 fresh j L' hj:=by
   by_cases e:j=k
   · subst e
     rw[gX]at hj
     obtain rfl:L=L':=by simpa using hj
     exact .inr ⟨hL.1,.inl (by omega)⟩
   · rw[eH _ _ e]at hj; exact .inl hj
 len:=aQT _
 hold j hj hn:=⟨by rw[eH _ _ (by omega)]; exact hn,rfl⟩
theorem lM.done_inv{pend:Nat->Prop}{fl:List (Nat×List Nat)}{f:Fr}{H:aB}{todo:List Nat}(h:lM P n l tb aO K todo pend fl f H)(ht:todo=[]):(∀k,¬ pend k)/\K f H:=by
 induction h with
 |done hp h=>exact⟨hp,h⟩
 |qJ=>simp at ht
 |act=>simp at ht
 |res hp _ ih=>
   obtain⟨h1,-⟩:=ih ht
   exact absurd ((hp _).2 (.inr rfl)) (h1 _)
 |xZ=>simp at ht
theorem aw7{id:Nat}{order:List Nat}{f:Fr}{H:aB}{Q:Exit->Fr->aB->Prop}(hm:P.follows .mixedOrders=true)(hok:okD l=true)(htb:agE l tb=true)(Dv:TE l tb aO order=true)
   (hlen:Nat.beq order.length l.length=true) (hlt:(order.all (fun i=>Nat.blt i l.length)&&(List.range l.length).all fun i=>order.any (Nat.beq i))=true)
   (h:lM P n l tb aO (fun f' H'=>Q .normal f' H') order (fun _=>False) [] f H):AW P n (.region id l.toArray true) Q f H:=by
 intro ρ w a hr hf
 refine wp_region_any hm ?_
 have key:∀(fuel:Nat)(listed:Array Bool)(todo:List Nat)(pend:Nat->Prop)(f':Fr)(H':aB)(ρ':dI)(a:Act)(w':World),listed.size=l.length->
     (∀i,i<l.length->(listed.toList[i]?=some false↔i∈todo))->(∀i∈todo,i<l.length)->(∀(i:Nat) o,l[i]?=some o->i∉todo-> ∀j∈mZ o,j∉todo)->
     todo.length<=fuel->todo.Pairwise (agG l tb aO)->lM P n l tb aO (fun f' H'=>Q .normal f' H') todo pend [] f' H'->(∀k,pend k->ρ' k=none/\H.length<=k/\k<H'.length)->
     aD P ρ' H' w'->StepB H.length ρ H w ρ' H' w'->kY ρ' n f' a->wpAny P .any l.toArray (Tt P n ρ H w Q) fuel listed a w':=by
   intro fuel
   have hdone:∀(listed:Array Bool)(pend:Nat->Prop)(f':Fr)(H':aB)(ρ':dI)(a:Act)(w':World),listed.size=l.length->(∀i,i<l.length->(listed.toList[i]?=some false↔i∈([]:List Nat)))->
       lM P n l tb aO (fun f' H'=>Q .normal f' H') [] pend [] f' H'->aD P ρ' H' w'->StepB H.length ρ H w ρ' H' w'->kY ρ' n f' a->
       Region.ready .any l.toArray listed=[]/\Tt P n ρ H w Q .normal a w':=by
     intro listed pend f' H' ρ' a w' hsz AV hd hr' hst hF
     refine⟨List.eq_nil_iff_forall_not_mem.2 fun i hi=>?_,f',ρ',H',hF,hr',hst.toStep,(hd.done_inv rfl).2⟩
     obtain⟨o,ho,h1,-⟩:=mem_ready.1 hi
     have hil:i<l.length:=Mo ho
     rw[aRp,aSH (by rw[hsz]; exact hil)]at h1
     simp at h1
     have:=(AV i hil).1 (by simp[hsz,hil,h1])
     simp at this
   induction fuel with
   |zero=>
     intro listed todo pend f' H' ρ' a w' hsz AV htl hcl hle hpw hd hpd hr' hst hF
     obtain rfl:todo=[]:=List.length_eq_zero_iff.1 (by omega)
     exact hdone listed pend f' H' ρ' a w' hsz AV hd hr' hst hF
   |succ fuel ih=>
     intro listed todo pend f' H' ρ' a w' hsz AV htl hcl hle hpw hd hpd hr' hst hF
     refine⟨fun hnone=>?_,fun i hi=>?_⟩
     · -- nothing is ready:nothing is left
       cases todo with
       |nil=>exact (hdone listed pend f' H' ρ' a w' hsz AV hd hr' hst hF).2
       |cons j r=>
         exfalso
         have hjl:=htl j (by simp)
         have hmem:j∈Region.ready .any l.toArray listed:=by
           refine mem_ready.2 ⟨l[j],apA hjl,?_,fun q hq=>?_⟩
           · have:=(AV j hjl).2 (by simp)
             rw[aRp]
             have:listed[j]?=some false:=by simpa using this
             rw[this]; rfl
           · have Ka:q<j:=anp hok (apA hjl) hq
             have GH:q∉j::r:=by
               intro hm'
               rcases List.mem_cons.1 hm' with e|e
               · omega
               · cases hpw with
                 |cons h1 h2=>exact (h1 q e).2.1 _ (apA hjl) hq
             have:listed.toList[q]?≠some false:=fun e=>GH ((AV q (by omega)).1 e)
             have apO:q<listed.toList.length:=by simp[hsz]; omega
             rw[apA apO]at this
             refine auu ?_
             rw[apA apO]
             cases e:listed.toList[q]with
             |true=>rfl
             |false=>rw[e]at this; simp at this
         rw[hnone]at hmem; simp at hmem
     · obtain⟨o,ho,h1,h2⟩:=mem_ready.1 hi
       have hil:i<l.length:=Mo ho
       have hun:listed.toList[i]?=some false:=by
         rw[aRp,aSH (by rw[hsz]; exact hil)]at h1
         simp at h1
         simp[hsz,hil,h1]
       have hit:i∈todo:=(AV i hil).1 hun
       have hnd:todo.Nodup:=hpw.imp fun h=>aSO h.1
       have hpr:∀j∈todo,j∉mZ o:=by
         intro j hj hjp
         have h3:=awo (h2 j hjp)
         have:=(AV j (htl j hj)).2 hj
         rw[h3]at this; simp at this
       have hbt:∀j∈todo,bit tb i j=false:=by
         intro j hj
         cases hb:bit tb i j with
         |false=>rfl
         |true=>
           exact absurd hj (avH hok htb (S:=fun q=>q∉todo) (fun q o' hq hs r hr=>hcl q o' hq hs r hr) i o ho (fun q hq hqt=>hpr q hqt hq) j hb)
       obtain⟨H1,tN,pY,hpk⟩:=pick hok ho hd hpw hit hpr hbt
       obtain⟨⟨bs,rfl⟩,hpe⟩:=pY
       have hHl:H.length<=H'.length:=hst.len
       have hr1:=hr'.more bs
       have xB:=hst.more hHl bs
       have NT:∀k,tN k->ρ' k=none/\H.length<=k/\k<(H'++bs.map some).length:=by
         intro k hk
         rcases (hpe k).1 hk with h|h
         · exact⟨(hpd k h).1,(hpd k h).2.1,by have:=(hpd k h).2.2; simp; omega⟩
         · exact⟨hr'.dom k h.1,by omega,h.2⟩
       have hnext:∀(aan:Nat->Prop)(f2:Fr)(H2:aB)(ρ2:dI)(a2:Act)(w2:World),lM P n l tb aO (fun f' H'=>Q .normal f' H') (todo.erase i) aan [] f2 H2->(∀k,aan k->ρ2 k=none/\H.length<=k/\k<H2.length)->
           aD P ρ2 H2 w2->StepB H.length ρ H w ρ2 H2 w2->kY ρ2 n f2 a2->wpAny P .any l.toArray (Tt P n ρ H w Q) fuel (listed.setIfInBounds i true) a2 w2:=by
         intro aan f2 H2 ρ2 a2 w2 g1 g2 g3 g4 g5
         have hset:(listed.setIfInBounds i true).toList=listed.toList.set i true:=by simp
         refine ih _ (todo.erase i) aan f2 H2 ρ2 a2 w2 (by simpa using hsz) (fun q hq=>?_) (fun q hq=>htl q (List.mem_of_mem_erase hq)) (fun q o' hq GH r hr=>?_) ?_ (hpw.sublist List.erase_sublist) g1 g2 g3 g4 g5
         · rw[hset,hnd.mem_erase_iff]
           by_cases e:q=i
           · subst e
             rw[aRo (by simpa[hsz]using hq)]
             simp
           · rw[aQ8 (fun e'=>e e'.symm),AV q hq]
             simp[e]
         · rw[hnd.mem_erase_iff]
           intro ⟨hri,hrt⟩
           rw[hnd.mem_erase_iff]at GH
           by_cases e:q=i
           · subst e
             rw[ho]at hq
             obtain rfl:o=o':=by simpa using hq
             exact hpr r hrt hr
           · exact hcl q o' hq (fun h=>GH ⟨e,h⟩) r hr hrt
         · rw[List.length_erase_of_mem hit]; omega
       unfold wpOp
       simp only[List.getElem?_toArray,ho]
       rcases hpk with⟨Ks,v,g1,g2⟩|⟨Qc,g1,g2⟩|⟨k,b,vk,pV,g1,g2,g3,g4,g5⟩
       · rcases g1 with⟨hw,hv⟩|⟨rfl,hw⟩
         · rw[atV (hw f' (fun _ _=>rfl) ρ' a hF)]
           obtain⟨c,hrun,hrel⟩:=hv f' _ (fun _ _=>rfl) (Ao.refl _ _) ρ' w' a hr1 hF
           refine .inl ?_
           show o.upon P a _ _ _
           rw[hrun]
           exact hnext tN _ _ ρ' _ _ g2 NT hr1 xB (hF.put o.dst hrel)
         · rw[aqA (by rw[hw f' (fun _ _=>rfl) ρ' a hF]; simp)]
           exact hnext tN _ _ ρ' _ _ g2 NT hr1 xB (hF.put o.dst (bW.undef _))
       · rw[atV (g1.1 f' (fun _ _=>rfl) ρ' a hF)]
         refine .inl ?_
         refine g1.2 f' (fun _ _=>rfl) ρ' w' a _ _ hr1 hF fun f2 ρ2 H2 a2 w2 q1 q2 q3 q4=>?_
         obtain⟨v,rfl,hc⟩:=q4
         refine hnext tN _ _ ρ2 _ _ (g2 v H2 hc).2 (fun k hk=>?_) q2 (xB.trans (q3.toB (by simp; omega))) q1
         have:=NT k hk
         exact⟨(q3.hold k this.2.2 this.1).1,this.2.1,aQ2 this.2.2 (g2 v H2 hc).1.1⟩
       · rw[atV (g4.1 f' (fun _ _=>rfl) ρ' a hF)]
         refine .inl ?_
         obtain⟨hown,hn⟩:=g4.2 f' (fun _ _=>rfl)
         obtain⟨c,cs,cap,w2,hrun,hh,e1,e2,e3,hval,he,hcap,hlc⟩:=hn ρ' _ w' a hr1 hF
         show o.upon P a _ _ _
         rw[hrun]
         have hkn:=NT k g1
         have aao:=StepB.fill (H:=H'++bs.map some) (m:=H.length) (L:=⟨w'.heap.size,0,P.cellsOf b.ty,cap,true⟩) hkn.1 hkn.2.1 ⟨rfl,rfl⟩ hh e1 e2 e3
         refine hnext pV _ _ _ _ _ g5 (fun q hq=>?_) (hr1.fill hkn.1 g2 hown hh he hcap hlc) (xB.trans aao) ((hF.up aao.up).put o.dst (hval _ _ (gX _ _ _)))
         have hq2:=(g3 q).1 hq
         exact⟨by rw[eH _ _ hq2.2]; exact (NT q hq2.1).1,(NT q hq2.1).2⟩
 have hpw:=ak0 Dv
 have hnd:order.Nodup:=hpw.imp fun h=>aSO h.1
 rw[age]at hlt
 have hlt':∀i∈order,i<l.length:=fun i hi=>by simpa[aRg]using (List.all_eq_true.1 hlt.1) i hi
 have hlen':order.length=l.length:=aRU hlen
 have hall:∀i,i<l.length->i∈order:=by
   intro i hi
   obtain⟨j,hj,he⟩:=List.any_eq_true.1 ((List.all_eq_true.1 hlt.2) i (List.mem_range.2 hi))
   rw[aRU he]; exact hj
 refine key _ _ order (fun _=>False) f H ρ a _ (by simp) (fun i hi=>?_) hlt' (fun i o ho hn=>absurd (hall i (Mo ho)) hn) (by simp[hlen']) hpw h (fun k hk=>hk.elim) (hr.of_heap rfl)
   ⟨Up.refl ρ,rfl,rfl,rfl,aQT _,fun _ _ _=>rfl,fun _ _ h=>.inl h,aQT _,fun _ _ h=>⟨h,rfl⟩⟩ hf
 simp[hall i hi,hi]
end
end Go.Fw
/-
 Drawn regions, over contexts.
-/
set_option linter.unusedVariables false
namespace Go.Fw
open Go
theorem lM.cov{P:Program} [bF P]{n:Nat}{l:List Oper}{tb aO:List Nat}{K:Fr->aB->Prop}{todo:List Nat}{pend:Nat->Prop}{fl:List (Nat×List Nat)}{f:Fr}{H:aB}(h:lM P n l tb aO K todo pend fl f H):
   ∀{qK:List (Nat×List Nat)},(∀p∈qK,p∈fl\/p.2=[])->lM P n l tb aO K todo pend qK f H:=by
 have ext:∀{fl qK:List (Nat×List Nat)}(q:Nat×List Nat),(∀p∈qK,p∈fl\/p.2=[])-> ∀p∈q::qK,p∈q::fl\/p.2=[]:=by
   intro fl qK q hs p hp
   rcases List.mem_cons.1 hp with h|h
   · exact .inl (by simp[h])
   · exact (hs p h).imp (fun h=>by simp[h]) id
 induction h with
 |done hp h=>intro qK _; exact .done hp h
 |qJ ho hv _ ih=>intro qK hs; exact .qJ ho hv (ih (ext _ hs))
 |act hA ho hv hq _ ih=>
   intro qK hs
   exact .act hA ho hv (fun v H' hc=>⟨(hq v H' hc).1,(hq v H' hc).2.1,fun p hp=>by
     rcases hs p hp with h|h
     · exact (hq v H' hc).2.2 p h
     · exact .inr fun k hk=>by rw[h]at hk; simp at hk⟩) fun v H' hc=>ih v H' hc hs
 |res hp _ ih=>intro qK hs; exact .res hp (ih hs)
 |xZ ho hk hb hp hv _ ih=>intro qK hs; exact .xZ ho hk hb hp hv (ih (ext _ hs))
def dP:Operand->List Tmp->Bool
 | .tmp t,l=>l.any (Nat.beq t)
 |_,_=>true
theorem EN{n:Nat}{f f':Fr}{x:Operand}{v:Value}{l:List Oper}{o:Oper}(ha:jf l o f f')(h:EV n f x v)(hx:dP x (dE l o)=true):EV n f' x v:=by
 rcases h with⟨t,rfl,rfl,ht⟩|h
 · refine .inl ⟨t,rfl,ha t ?_,ht⟩
   obtain⟨u,hu,he⟩:=List.any_eq_true.1 hx
   rw[Nat.beq_eq]at he
   subst he; exact hu
 · exact .inr h
def Wt(n:Nat)(l:List Oper)(f:Fr)(gd:Option (Nat×Bool)):Prop:=gd=none\/ ∃j b t,gd=some (j,b)/\(l[j]?).bind (·.dst)=some t/\f t= .bool b/\Nat.blt t n=true
theorem Wt.no{n:Nat}{l:List Oper}{f:Fr}:Wt n l f none:=.inl rfl
theorem Wt.on{n:Nat}{l:List Oper}{f:Fr}{j:Nat}{b:Bool}(t:Tmp)(h1:(l[j]?).bind (·.dst)=some t)(h2:f t= .bool b)(h3:Nat.blt t n=true):Wt n l f (some (j,b)):=.inr ⟨j,b,t,rfl,h1,h2,h3⟩
section
variable{P:Program} [bF P]{n:Nat}{l:List Oper}{tb aO:List Nat}{H0:aB}{F0:List Nat}{K:Fr->List ay->Prop}{f:Fr}{cs:List ay}{r:List Nat}{fl:List (Nat×List Nat)}{i:Nat}
variable{d:Option Tmp}{op:Op}{T T' T'' T2 E:TypeId}{ps:String}{af:Array Edge}{gd:Option (Nat×Bool)}{v:Value}{x y z:Operand}
theorem adm{j:Nat}{b:Bool}{t:Tmp}(h:(l[j]?).bind (·.dst)=some t):t∈dE l ⟨d,op,T,ps,af,some (j,b)⟩:=by
 simp only[dE,h]
 simp
theorem Wt.wanted(h:Wt n l f gd):∀f',jf l ⟨d,op,T,ps,af,gd⟩ f f'->Wanted n l.toArray f' ⟨d,op,T,ps,af,gd⟩ true:=by
 intro f' ha
 rcases h with rfl|⟨j,b,t,rfl,h1,h2,h3⟩
 · exact Wanted.none rfl
 · have hv:f' t= .bool b:=(ha t (adm h1)).trans h2
   have:=Wanted.guard (n:=n) (A:=l.toArray) (f:=f') (o:=⟨d,op,T,ps,af,some (j,b)⟩) rfl (by simpa using h1) hv h3
   simpa using this
def DC(P:Program) [bF P](n:Nat)(l:List Oper)(tb aO:List Nat)(H0:aB)(F0:List Nat)(K:Fr->List ay->Prop)(todo:List Nat)(fl:List (Nat×List Nat))(f:Fr)(cs:List ay):Prop:=
 ∀H,Ctx H0 F0 H cs->lM P n l tb aO (fun f' H'=>∃cs',K f' cs'/\Ctx H0 F0 H' cs') todo (fun _=>False) fl f H
theorem FL(h:K f cs):DC P n l tb aO H0 F0 K [] fl f cs:=fun H hc=>.done (fun _ h=>h) ⟨cs,h,hc⟩
theorem aac{f':Fr}{H:aB}(h:fK P n ⟨d,op,T,ps,af,none⟩ f' H v):fK P n ⟨d,op,T,ps,af,gd⟩ f' H v:=fun ρ w a hr hf=>h ρ w a hr hf
theorem dw(ho:l[i]?=some ⟨d,op,T,ps,af,gd⟩)(hw:Wt n l f gd)(hv:∀{f' H},jf l ⟨d,op,T,ps,af,gd⟩ f f'->fK P n ⟨d,op,T,ps,af,none⟩ f' H v)(h:DC P n l tb aO H0 F0 K r fl (put f d v) cs):
   DC P n l tb aO H0 F0 K (i::r) fl f cs:=
 fun H hc=>.qJ (Ks:=[]) ho (.inl ⟨hw.wanted,fun f' H' ha _=>aac (hv ha)⟩) ((h H hc).cov fun p hp=>by
   rcases List.mem_cons.1 hp with h|h
   · exact .inr (by rw[h])
   · exact .inl h)
theorem aBX(t:Tmp){j:Nat}{b:Bool}(ho:l[i]?=some ⟨d,op,T,ps,af,some (j,b)⟩)(h1:(l[j]?).bind (·.dst)=some t)(h2:f t= .bool (!b))(h3:Nat.blt t n=true)(h:DC P n l tb aO H0 F0 K r fl (put f d undef) cs):
   DC P n l tb aO H0 F0 K (i::r) fl f cs:=
 fun H hc=>.qJ (Ks:=[]) ho (.inr ⟨rfl,fun f' ha=>by
   have hv:f' t= .bool (!b):=(ha t (adm h1)).trans h2
   have:=Wanted.guard (n:=n) (A:=l.toArray) (f:=f') (o:=⟨d,op,T,ps,af,some (j,b)⟩) rfl (by simpa using h1) hv h3
   simpa using this⟩) ((h H hc).cov fun p hp=>by
   rcases List.mem_cons.1 hp with h|h
   · exact .inr (by rw[h])
   · exact .inl h)
theorem Ctx.qJ{c:ay}{H H':aB}(hc:Ctx H0 F0 H cs)(hm:Mem c cs)(hl:Ao c.F H H'):c.P H':=
 c.keep (hc.mem hm) hl.2.1 fun k hk=>hl.2.2 k hk (hc.own k (List.mem_flatMap.2 ⟨c,hm.mem,hk⟩)).2
theorem dF{c:ay}(ho:l[i]?=some ⟨d,op,T,ps,af,gd⟩)(hw:Wt n l f gd)(hm:Mem c cs)(hv:∀{f' H},jf l ⟨d,op,T,ps,af,gd⟩ f f'->c.P H->fK P n ⟨d,op,T,ps,af,none⟩ f' H v)
   (h:DC P n l tb aO H0 F0 K r ((i,c.F)::fl) (put f d v) cs):DC P n l tb aO H0 F0 K (i::r) fl f cs:=
 fun H hc=>.qJ (Ks:=c.F) ho (.inl ⟨hw.wanted,fun f' H' ha hl=>aac (hv ha (hc.qJ hm hl))⟩) (h H hc)
theorem Ar{c:ay}(ho:l[i]?=some ⟨d,op,T,ps,af,gd⟩)(hw:Wt n l f gd)(hm:Mem c cs)(hF:c.F=[])(hv:∀{f' H},jf l ⟨d,op,T,ps,af,gd⟩ f f'->c.P H->fK P n ⟨d,op,T,ps,af,none⟩ f' H v)
   (h:DC P n l tb aO H0 F0 K r fl (put f d v) cs):DC P n l tb aO H0 F0 K (i::r) fl f cs:=
 dF ho hw hm hv fun H hc=>(h H hc).cov fun p hp=>by
   rcases List.mem_cons.1 hp with h|h
   · exact .inr (by rw[h]; exact hF)
   · exact .inl h
theorem anr{pre post rest cs':List ay}(hs:fq cs pre rest)(hv:Conv pre post)(ha:rF post rest cs')(h:DC P n l tb aO H0 F0 K r fl f cs'):DC P n l tb aO H0 F0 K r fl f cs:=
 fun H hc=>h H (by rw[ha.eq]; exact hc.conv hs hv)
theorem jw{vk:Nat->Value}{b:eO}(ho:l[i]?=some ⟨d,op,T,ps,af,gd⟩)(hw:Wt n l f gd)(hb:b.wr=true)(hn:∀{f'},jf l ⟨d,op,T,ps,af,gd⟩ f f'->uJ P n ⟨d,op,T,ps,af,gd⟩ f' vk b)
   (h:∀k,DC P n l tb aO H0 F0 K r ((i,[k])::fl) (put f d (vk k)) (fT k b::cs)):DC P n l tb aO H0 F0 K (i::r) fl f cs:=by
 intro H hc
 refine .res (b:=b) (pV:=fun q=>q=H.length) (fun q=>by simp) (.xZ (k:=H.length) (pV:=fun _=>False) ho rfl (by simp) (fun q=>by simp) ⟨hw.wanted,fun f' ha=>hn ha⟩ (h H.length _ ?_))
 refine Ctx.step (pre:=[]) (post:=[fT H.length b]) (rest:=cs) hc (by simp) (qc.app _ _).mg (fun k hk _=>by rw[aQQ hk]) ?_ (by simp[fT]) (by simp[fT])
 intro c hcm
 simp at hcm
 subst hcm
 exact⟨hb,by simp⟩
inductive iF (tb:List Nat) (i:Nat) (rest:List ay):List (Nat×List Nat)->Prop
 |nil:iF tb i rest []
 |aV {j:Nat} {Ks:List Nat} {fl:List (Nat×List Nat)} (h:bit tb i j=true) (t:iF tb i rest fl):iF tb i rest ((j,Ks)::fl)
 |own {j:Nat} {Ks:List Nat} {fl:List (Nat×List Nat)} {c:ay} (hm:Mem c rest) (hK:∀k,k∈Ks->k∈c.F) (t:iF tb i rest fl):iF tb i rest ((j,Ks)::fl)
 |mg {j k:Nat} {b:eO} {fl:List (Nat×List Nat)} (hm:Mem (pR k b) rest) (t:iF tb i rest fl):iF tb i rest ((j,[k])::fl)
theorem iF.ok{pre rest:List ay}{H H':aB}(hc:Ctx H0 F0 H (pre++rest))(hi:fP H H')(ha:∀k,k<H.length->k∉foot pre->H'[k]?=H[k]?)(h:iF tb i rest fl):agF tb i fl H H':=by
 have hnd:=hc.nd
 simp only[foot,aRO]at hnd
 obtain⟨n1,n2,n3⟩:=List.nodup_append.1 hnd
 induction h with
 |nil=>intro p hp; simp at hp
 |aV h _ ih=>
   intro p hp
   rcases List.mem_cons.1 hp with rfl|hp
   · exact .inl h
   · exact ih p hp
 |own hm hK _ ih=>
   intro p hp
   rcases List.mem_cons.1 hp with rfl|hp
   · refine .inr fun k hk=>?_
     have hkr:k∈foot rest:=List.mem_flatMap.2 ⟨_,hm.mem,hK k hk⟩
     refine ha k (hc.own k ?_).2 (fun hp=>n3 k hp k hkr rfl)
     simp only[foot,aRO,aQZ]
     exact .inr hkr
   · exact ih p hp
 |mg hm _ ih=>
   intro p hp
   rcases List.mem_cons.1 hp with rfl|hp
   · refine .inr fun k hk=>?_
     simp at hk; subst hk
     have hb:=hc.hold _ (List.mem_append.2 (.inr hm.mem))
     rw[hb.2]
     exact hi _ _ hb.2 hb.1
   · exact ih p hp
theorem yE{pre rest:List ay}{ι:Type}{val:ι->Value}{post cs':ι->List ay}(hA:aO.any (Nat.beq i)=true)(ho:l[i]?=some ⟨d,op,T,ps,af,gd⟩)(hw:Wt n l f gd)(hs:fq cs pre rest)
   (hx:∀{f'},jf l ⟨d,op,T,ps,af,gd⟩ f f'->XC P n ⟨d,op,T,ps,af,gd⟩ f' pre val post) (hfl:iF tb i rest fl) (ha:∀x,rF (post x) rest (cs' x))
   (h:∀x,DC P n l tb aO H0 F0 K r fl (put f d (val x)) (cs' x)):DC P n l tb aO H0 F0 K (i::r) fl f cs:=by
 intro H hc
 have hc':=hc.take hs
 refine .act (Qc:=fun v H'=>∃x,v=val x/\Ctx H (foot pre) H' (post x)) hA ho ⟨hw.wanted,fun f' hn=>?_⟩ ?_ ?_
 · intro ρ w a K' Q' hr hf hk
   refine hx hn H hc'.view ρ w a K' Q' hr hf fun f2 ρ' H' a' w' h1 h2 h3 h4=>?_
   obtain⟨x,rfl,h5⟩:=h4
   exact hk _ _ _ _ _ h1 h2 h3 ⟨_,rfl,x,rfl,h5⟩
 · rintro v H' ⟨x,rfl,h5⟩
   exact⟨h5.len,h5.mg,hfl.ok hc' h5.mg h5.qI⟩
 · rintro v H' ⟨x,rfl,h5⟩
   have h6:=hc'.back h5
   rw[←(ha x).eq]at h6
   exact h x H' h6
variable{α:Type}{R:aB->Value->α->Prop}
theorem an7 [bz R]{s:Nat}{xs:List α}{kk:IntKind}{q:Int}{a:α}(hT:SL P T E)(hs:SZ P E s)(ho:l[i]?=some ⟨d,.indexAddr T x y,T',ps,af,gd⟩)(hw:Wt n l f gd)(hx:EV n f x v)(hy:EV n f y (.int kk q))
   (lg:dP x (dE l ⟨d,.indexAddr T x y,T',ps,af,gd⟩)=true) (hyn:dP y (dE l ⟨d,.indexAddr T x y,T',ps,af,gd⟩)=true) (hm:Mem (aI (ak E R) v xs) cs) (h0:0<=q) (hi:xs[q.toNat]?=some a)
   (h:∀k j,DC P n l tb aO H0 F0 K r fl (put f d (.pointer (some ⟨k,j,some 0⟩))) (jM E R k j a::cs)):DC P n l tb aO H0 F0 K (i::r) fl f cs:=by
 intro H hc
 obtain⟨k,j,m,rfl,hlt,hp⟩:=amE (hc.mem hm) hi
 have hc2:=hc.dup (c:=jM E R k (j+q.toNat) a) hp rfl
 refine Ar (c:=jM E R k (j+q.toNat) a) (cs:=jM E R k (j+q.toNat) a::cs) ho hw .h rfl (fun ha hp=>?_) (h k _) H hc2
 obtain⟨b,e,h1,h2,h3,h4,h5⟩:=hp
 exact Y2 hT hs (EN ha hx lg) (EN ha hy hyn) h1 h3 h0 (by omega)
theorem an8 [bz R]{k j off:Nat}{a:α}{w:Value}(hA:AG P T false)(ho:l[i]?=some ⟨d,.load T x,T',ps,af,gd⟩)(hw:Wt n l f gd)(hx:EV n f x (.pointer (some ⟨k,j,some off⟩)))
   (lg:dP x (dE l ⟨d,.load T x,T',ps,af,gd⟩)=true) (hm:Mem (jM E R k j a) cs) (hop:∀H e,R H e a->e.cells.toList[off]?=some w) (h:DC P n l tb aO H0 F0 K r fl (put f d w) cs):DC P n l tb aO H0 F0 K (i::r) fl f cs:=
 Ar ho hw hm rfl (fun{f' H} ha hp=>by
   obtain⟨b,e,h1,h2,h3,h4,h5⟩:=hp
   exact gy hA (EN ha hx lg) h1 h4 (hop H e h5)) h
theorem afh [bz R]{β:Type}{R':aB->Value->β->Prop} [bz R']{k j off:Nat}{a:α}{q:β}(hA:AG P T false)(ho:l[i]?=some ⟨d,.load T x,T',ps,af,gd⟩)(hw:Wt n l f gd)(hx:EV n f x (.pointer (some ⟨k,j,some off⟩)))
   (lg:dP x (dE l ⟨d,.load T x,T',ps,af,gd⟩)=true) (hm:Mem (jM E R k j a) cs) (hop:∀H e,R H e a-> ∃w:Sv,e.cells.toList[off]?=some w.v/\R' H w.v q)
   (h:∀w:Sv,DC P n l tb aO H0 F0 K r fl (put f d w.v) (aI R' w.v q::cs)):DC P n l tb aO H0 F0 K (i::r) fl f cs:=by
 intro H hc
 have hp:=hc.mem hm
 obtain⟨b,e,h1,h2,h3,h4,h5⟩:=hp
 obtain⟨w,hw',hr⟩:=hop H e h5
 refine .qJ (Ks:=[]) ho (.inl ⟨hw.wanted,fun f' H' ha hl=>aac (gy hA (EN ha hx lg) (hl.2.1 _ _ h1 h2) h4 hw')⟩) (((h w) H (hc.dup (c:=aI R' w.v q) hr rfl)).cov fun p hp=>by
   rcases List.mem_cons.1 hp with h|h
   · exact .inr (by rw[h])
   · exact .inl h)
theorem afi [bz R]{ι:Type}{k j off s:Nat}{a:α}(ul:ι->List Value){cc cs':ι->List ay}(hA:AG P T true)(hs:SZ P T s)(h0:Nat.blt 0 s=true)(ho:l[i]?=some ⟨d,.load T x,T',ps,af,gd⟩)(hw:Wt n l f gd)(hx:EV n f x (.pointer (some ⟨k,j,some off⟩)))
   (lg:dP x (dE l ⟨d,.load T x,T',ps,af,gd⟩)=true) (hm:Mem (jM E R k j a) cs) (hop:∀H e,R H e a-> ∃i,off+s<=e.cells.size/\(e.cells.toList.drop off).take s=ul i/\ ∀c∈cc i,c.P H/\c.F=[]) (ha:∀i,rF (cc i) cs (cs' i))
   (h:∀i,DC P n l tb aO H0 F0 K r fl (put f d (.agg (ul i).toArray)) (cs' i)):DC P n l tb aO H0 F0 K (i::r) fl f cs:=by
 intro H hc
 have hp:=hc.mem hm
 obtain⟨b,e,h1,h2,h3,h4,h5⟩:=hp
 obtain⟨q,g1,g2,g3⟩:=hop H e h5
 have hcc:Ctx H0 F0 H (cs' q):=by
   rw[(ha q).eq]
   have:∀(l:List ay),(∀c∈l,c.P H/\c.F=[])->Ctx H0 F0 H (l++cs):=by
     intro l
     induction l with
     |nil=>intro _; exact hc
     |cons c l ih=>intro hl; exact (ih fun d hd=>hl d (by simp[hd])).dup (hl c (by simp)).1 (hl c (by simp)).2
   exact this _ g3
 refine .qJ (Ks:=[]) ho (.inl ⟨hw.wanted,fun f' H' hn hl=>aac (pO hA hs (EN hn hx lg) (hl.2.1 _ _ h1 h2) h4 (by simpa[aRg]using h0) g1 g2)⟩) ((h q H hcc).cov fun p hp=>by
   rcases List.mem_cons.1 hp with h|h
   · exact .inr (by rw[h])
   · exact .inl h)
def ND(l:List Oper)(tb aO order:List Nat):Bool:=
 okD l&&(agE l tb&&(TE l tb aO order&&(Nat.beq order.length l.length&&(order.all (fun i=>Nat.blt i l.length)&&(List.range l.length).all fun i=>order.any (Nat.beq i)))))
theorem qP{id:Nat}{Q:Exit->Fr->List ay->Prop}(order:List Nat)(tb aO:List Nat)(hm:P.follows .mixedOrders=true)(hd:ND l tb aO order=true)
   (h:DC P n l tb aO H0 F0 (fun f' cs'=>Q .normal f' cs') order [] f cs):CW P n H0 F0 (.region id l.toArray true) Q f cs:=by
 simp only[ND,age]at hd
 exact fun H hc=>aw7 hm hd.1 hd.2.1 hd.2.2.1 hd.2.2.2.1 (by rw[age]; exact hd.2.2.2.2) (h H hc)
theorem iQ{id:Nat}{c2:Code}{Q:Exit->Fr->List ay->Prop}(order:List Nat)(tb aO:List Nat)(hm:P.follows .mixedOrders=true)(hd:ND l tb aO order=true)
   (h:DC P n l tb aO H0 F0 (fun f' cs'=>CW P n H0 F0 c2 Q f' cs') order [] f cs):CW P n H0 F0 (.seq (.region id l.toArray true) c2) Q f cs:=
 dZ (qP order tb aO hm hd h)
end
end Go.Fw
/-
 make, struct values, structs compared.
-/
set_option linter.unusedVariables false
namespace Go.Fw
open Go
section
variable{P:Program} [bF P]{n:Nat}{f:Fr}{H:aB}{A:Array Oper}{d:Option Tmp}{x y z:Operand}{T T' T'' T2 E:TypeId}{ps:String}{af:Array Edge}{gd:Option (Nat×Bool)}
theorem al0{ρ:dI}(off:Nat):∀(cs cs':List Value)(j:Nat)(Z Z':Array Value),bn ρ cs cs'->bn ρ Z.toList Z'.toList->
   bn ρ ((cs.zipIdx j).foldl (fun(a:Array Value)(q:Value×Nat)=>a.setIfInBounds (off+q.2) q.1) Z).toList ((cs'.zipIdx j).foldl (fun(a:Array Value)(q:Value×Nat)=>a.setIfInBounds (off+q.2) q.1) Z').toList
 |[],[],_,_,_,_,h=>by simpa using h
 |c::cs,c'::cs',j,Z,Z',h,hz=>by
   cases h with
   |cons _ _ _ _ h1 h2=>
     simp only[aSR,aRv]
     refine al0 off cs cs' (j+1) _ _ h2 ?_
     rw[aSm,aSm]
     refine bn.of_get (by simp only[aRK]; exact hz.length) fun i v u e e'=>?_
     by_cases hi:off+j=i
     · subst hi
       have hl:off+j<Z.toList.length:=by
         rcases aQ7 (off+j) Z.toList.length with h|h
         · exact h
         · rw[aQR (by simpa using h)]at e; simp at e
       have hl':off+j<Z'.toList.length:=by rw[←hz.length]; exact hl
       rw[aRo hl]at e
       rw[aRo hl']at e'
       obtain rfl:c=v:=by simpa using e
       obtain rfl:c'=u:=by simpa using e'
       exact h1
     · rw[aQ8 hi]at e e'
       obtain⟨u',hu,hr⟩:=hz.get i v e
       rw[hu]at e'
       obtain rfl:u'=u:=by simpa using e'
       exact hr
 |[],_::_,_,_,_,h,_=>by cases h
 |_::_,[],_,_,_,h,_=>by cases h
theorem al1{ρ:dI}{place:Nat->Option (Nat×Nat)}:∀(ps ps':List (Nat×Value))(Z Z' C:Array Value),ps.map (·.1)=ps'.map (·.1)->bn ρ (ps.map (·.2)) (ps'.map (·.2))->bn ρ Z.toList Z'.toList->
   Instr.fill place Z ps=some C-> ∃C',Instr.fill place Z' ps'=some C'/\bn ρ C.toList C'.toList
 |[],[],Z,Z',C,_,_,hz,h=>by
   simp only[Instr.fill,aR2]at h
   subst h
   exact⟨Z',rfl,hz⟩
 |(i,v)::ps,(i',v')::ps',Z,Z',C,hi,hv,hz,h=>by
   simp only[aRG,aTi]at hi
   obtain⟨rfl,hi⟩:=hi
   cases hv with
   |cons _ _ _ _ h1 h2=>
     have hc:=h1.cells
     have hcl:v.cells.size=v'.cells.size:=by simpa using hc.length
     have hzl:Z.size=Z'.size:=by simpa using hz.length
     simp only[Instr.fill]at h ⊢
     cases hp:place i with
     |none=>rw[hp]at h; simp at h
     |some q=>
       obtain⟨off,size⟩:=q
       rw[hp]at h
       simp only at h ⊢
       rw[←hcl,←hzl]
       split at h
       · simp at h
       · rename_i hn
         rw[aqA hn]
         refine al1 ps ps' _ _ C hi h2 ?_ h
         rw[←aS3,←aS3,aSZ,aSZ]
         exact al0 off _ _ 0 _ _ hc hz
 |[],_::_,_,_,_,hi,_,_,_=>by simp at hi
 |_::_,[],_,_,_,hi,_,_,_=>by simp at hi
theorem iy{zv:Value}{parts:List (Nat×Operand)}{vs cells:List Value}{s b':Nat}(ht:TY P T s b' zv)(hz:um zv=true)(hxs:fE n f (parts.map (·.2)) vs)
   (hb:P.built T ((parts.map (·.1)).zip vs)=some cells.toArray):fK P n ⟨d,.build T parts.toArray,T',ps,af,none⟩ f H (.agg cells.toArray):=by
 intro ρ w a hr hf
 have hv:=hxs.use hf
 obtain⟨it,hit,-,-,Tx⟩:=ht.inv
 have hzr:bn ρ zv.cells.toList zv.cells.toList:=(bW.closed hz).cells
 have hlen:(parts.map (·.1)).length=vs.length:=by rw[hv.length]; simp
 have hlen':(parts.map (·.1)).length=((parts.map (·.2)).map a.eval).length:=by simp
 have key:∀place:Nat->Option (Nat×Nat),Instr.fill place zv.cells ((parts.map (·.1)).zip vs)=some cells.toArray->
     ∃C',Instr.fill place zv.cells ((parts.map (·.1)).zip ((parts.map (·.2)).map a.eval))=some C'/\bn ρ cells C'.toList:=by
   intro place aao
   obtain⟨C',h1,h2⟩:=al1 _ ((parts.map (·.1)).zip ((parts.map (·.2)).map a.eval)) _ zv.cells _ (by rw[List.map_fst_zip (aRe hlen),List.map_fst_zip (aRe hlen')])
     (by rw[aSz (aRe hlen.symm),aSz (aRe hlen'.symm)]; exact hv) hzr aao
   exact⟨C',h1,h2⟩
 have hparts:(parts.toArray.map fun p=>(p.1,a.eval p.2)).toList=(parts.map (·.1)).zip ((parts.map (·.2)).map a.eval):=by
   simp only[List.map_toArray]
   clear hlen hlen' key hb hv hxs
   induction parts with
   |nil=>rfl
   |cons q qs ih=>simp only[aRG,aSk]; rw[←ih]
 have azf:∃C',P.built T (parts.toArray.map fun p=>(p.1,a.eval p.2)).toList=some C'/\bn ρ cells C'.toList:=by
   rw[hparts]
   unfold Program.built at hb ⊢
   rw[hit]at hb ⊢
   cases hu:P.underlying T with
   |none=>rw[hu]at hb; simp at hb
   |some u=>
     rw[hu]at hb
     cases u with
     |struct fields=>
       simp only[Tx]at hb ⊢
       cases hp:fields.toList.mapM (fun f=>(P.info? f.type).map fun i=>(f.offset,i.size))with
       |none=>rw[hp]at hb; simp at hb
       |some places=>rw[hp]at hb; exact key _ hb
     |array m e=>
       simp only[Tx]at hb ⊢
       cases he:P.info? e with
       |none=>rw[he]at hb; simp at hb
       |some ie=>rw[he]at hb; exact key _ hb
     |_=>simp at hb
 obtain⟨C',h1,h2⟩:=azf
 refine⟨.agg C',?_,?_⟩
 · have:=run_build w T _ C' h1
   rw[List.map_toArray]at this
   simp[execOp,this]
 · have:=bW.agg _ _ h2
   simpa using this
def qL{α:Type}(n:Int)(z:α):Option (List α):=if 0<=n/\n<4294967296 then some (List.replicate n.toNat z)else none
theorem ad6{α:Type}{n:Int}{z:α}{zs:List α}(h:qL n z=some zs):zs=List.replicate n.toNat z/\0<=n/\n<4294967296:=by
 unfold qL at h
 split at h
 · rename_i g; exact⟨by simpa using h.symm,g.1,g.2⟩
 · simp at h
theorem ajD(z:Array Value)(n s i:Nat)(hz:z.size=s)(hi:i<n):((madeCells z (n*s)).toList.drop (i*s)).take s=z.toList:=by
 apply aR0
 intro j
 by_cases hj:j<s
 · have hin:i*s+j<n*s:=by
     have:i*s+s<=n*s:=by rw[←aRW]; exact aQ4 _ hi
     omega
   have hm:(i*s+j) % s=j:=by rw[aSX,Nat.mul_add_mod]; exact Nat.mod_eq_of_lt hj
   rw[aRm hj,aRE]
   simp[madeCells,hin,hz,hm,hj]
 · rw[aQR (by rw[aRi]; omega),aQR (by simp; omega)]
theorem akz{g:Bool}{s by':Nat}{zv:Value}{c:Int}{k1:IntKind}(hT:SL P T E)(ht:TY P E s by' zv)(hzs:zv.cells.size=s)(hcl:um zv=true)(hby:by'<=16384)
   (hx:EV n f x (.int k1 c)) (hc0:0<=c) (hc1:c<4294967296):
   uJ P n ⟨d,.makeSlice T x x,T',ps,af,gd⟩ f (fun k=>.slice (some ⟨k,0,none⟩) c.toNat 1) ⟨List.replicate c.toNat zv,E,true,g⟩:=by
 obtain⟨i,hi,h1,h2,h3⟩:=ht.inv
 refine⟨rfl,fun ρ H w a hr hf=>?_⟩
 simp only[ht.sz.cells]
 have uK:=hx.use hf
 have he:a.eval x= .int k1 c:=uK.int_inv
 have hb:(i.bytes:Int)*c<=281474976710656:=by
   have hb1:(i.bytes:Int)<=16384:=by omega
   calc (i.bytes:Int)*c<=16384*c:=Int.mul_le_mul_of_nonneg_right hb1 hc0
     _<=281474976710656:=by omega
 have hrun:=run_make (P:=P) w T E i zv hT hi h3 k1 k1 c c hc0 (aTk _) hb (by omega)
 refine⟨.slice (some ⟨w.heap.size,0,none⟩) c.toNat c.toNat,madeCells zv.cells (c.toNat*i.size),c.toNat,w.alloc (.cells (madeCells zv.cells (c.toNat*i.size)) E),?_,rfl,rfl,rfl,rfl,?_,?_,?_,?_⟩
 · simp only[execOp,he]
   simp[hrun]
 · intro ρ' k h'
   have:=bW.slice (ρ:=ρ') k 0 c.toNat 1 _ ⟨w.heap.size,0,none⟩ c.toNat h' (aQT _) (fun _=>⟨rfl,aQT _⟩) (by simp) (fun _=>by simp)
   exact this
 · intro q e heq
   have hq:q<c.toNat:=by
     rcases aQ7 q c.toNat with h|h
     · exact h
     · rw[aQR (by simpa using h)]at heq; simp at heq
   obtain rfl:zv=e:=by
     rw[aSu,atV hq]at heq; simpa using heq
   refine⟨hzs,?_⟩
   rw[h1,ajD _ _ _ _ hzs hq]
   exact (bW.closed hcl).cells
 · rw[h1,size_madeCells]; exact aQT _
 · simp
end
section
variable{P:Program} [bF P]{n:Nat}{f:Fr}{H:aB}{d:Option Tmp}{x y:Operand}{T T' T'':TypeId}{ps:String}{af:Array Edge}
end
section
variable{α:Type}{Ro:b_ α}{R:aB->Value->α->Prop}
theorem amF{H:aB}{z:Value}{a:α}(h:Ro [] H z a):∀n:Nat,cZ Ro H (List.replicate n z) (List.replicate n a) []
 |0=>.nil
 |n+1=>by
   have:=cZ.cons h (amF h n)
   simpa[aSE]using this
theorem al2 [bS Ro]{E:TypeId}{k:Nat}{c:Int}{z:Value}{a:α}{zs:List α}(hm:qL c a=some zs)(h:∀H,Ro [] H z a):
   Conv [fT k ⟨List.replicate c.toNat z,E,true,true⟩] [ah (aa E Ro) [k] (.slice (some ⟨k,0,none⟩) c.toNat 1) zs]:=by
 obtain⟨rfl,h0,h1⟩:=ad6 hm
 refine⟨fun H hh q hq=>?_,by simp[ah,fT]⟩
 simp at hq; subst hq
 have hk:=hh (fT k ⟨List.replicate c.toNat z,E,true,true⟩) (by simp)
 exact .inr ⟨k,1,_,[],by simp,.inl rfl,hk.2,rfl,rfl,rfl,by simp; omega,rfl,amF (h H) _⟩
end
end Go.Fw
/-
 The rules in the forms that the generator prints; a fact lent for a call.
-/
set_option linter.unusedVariables false
namespace Go.Fw
open Go
section
variable{P:Program} [bF P]{n:Nat}{H0:aB}{F0:List Nat}{f:Fr}{cs cs':List ay}{A:Array Oper}{r:List Oper}{K:Fr->List ay->Prop}{d:Option Tmp}{op:Op}{T:TypeId}{ps:String}{af:Array Edge}{gd:Option (Nat×Bool)}
variable{l:List Oper}{tb aO todo:List Nat}{fl:List (Nat×List Nat)}{i:Nat}{pre rest:List ay}{ι:Type}{val:ι->Value}
theorem dS{post:List ay}:rF post rest (post++rest):=by
 induction post with
 |nil=>exact .nil
 |cons c l ih=>exact .cons ih
theorem lM.mono{K K':Fr->aB->Prop}{pend:Nat->Prop}{H:aB}(h:lM P n l tb aO K todo pend fl f H)(hk:∀f H,K f H->K' f H):lM P n l tb aO K' todo pend fl f H:=by
 induction h with
 |done hp h=>exact .done hp (hk _ _ h)
 |qJ ho hv _ ih=>exact .qJ ho hv ih
 |act hA ho hv hq _ ih=>exact .act hA ho hv hq ih
 |res hp _ ih=>exact .res hp ih
 |xZ ho hk hb hp hv _ ih=>exact .xZ ho hk hb hp hv ih
theorem afj(K1:Fr->List ay->Prop)(h:DC P n l tb aO H0 F0 K1 todo fl f cs)(hk:∀f' cs',K1 f' cs'->K f' cs'):DC P n l tb aO H0 F0 K todo fl f cs:=
 fun H hc=>(h H hc).mono fun f H ⟨cs',h1,h2⟩=>⟨cs',hk f cs' h1,h2⟩
theorem apP(hs:fq cs pre rest)(hx:XC P n ⟨d,op,T,ps,af,none⟩ f pre val (fun _=>[]))
   (h:∀x,aR P n H0 F0 A r (put f d (val x)) (rest) K):aR P n H0 F0 A (⟨d,op,T,ps,af,none⟩::r) f cs K:=uL hs hx (fun _=>dS) h
theorem azg(hA:aO.any (Nat.beq i)=true)(ho:l[i]?=some ⟨d,op,T,ps,af,gd⟩)(hw:Wt n l f gd)(hs:fq cs pre rest)(hfl:iF tb i rest fl)
   (hx:∀{f'},jf l ⟨d,op,T,ps,af,gd⟩ f f'->XC P n ⟨d,op,T,ps,af,gd⟩ f' pre val (fun _=>[]))
   (h:∀x,DC P n l tb aO H0 F0 K todo fl (put f d (val x)) (rest)):DC P n l tb aO H0 F0 K (i::todo) fl f cs:=yE hA ho hw hs hx hfl (fun _=>dS) h
theorem iZ{c1:ι->ay}(hs:fq cs pre rest)(hx:XC P n ⟨d,op,T,ps,af,none⟩ f pre val (fun x=>[c1 x]))
   (h:∀x,aR P n H0 F0 A r (put f d (val x)) (c1 x::rest) K):aR P n H0 F0 A (⟨d,op,T,ps,af,none⟩::r) f cs K:=uL hs hx (fun _=>dS) h
theorem dx{c1:ι->ay}(hA:aO.any (Nat.beq i)=true)(ho:l[i]?=some ⟨d,op,T,ps,af,gd⟩)(hw:Wt n l f gd)(hs:fq cs pre rest)(hfl:iF tb i rest fl)
   (hx:∀{f'},jf l ⟨d,op,T,ps,af,gd⟩ f f'->XC P n ⟨d,op,T,ps,af,gd⟩ f' pre val (fun x=>[c1 x]))
   (h:∀x,DC P n l tb aO H0 F0 K todo fl (put f d (val x)) (c1 x::rest)):DC P n l tb aO H0 F0 K (i::todo) fl f cs:=yE hA ho hw hs hx hfl (fun _=>dS) h
theorem tZ{c1 c2:ι->ay}(hs:fq cs pre rest)(hx:XC P n ⟨d,op,T,ps,af,none⟩ f pre val (fun x=>[c1 x,c2 x]))
   (h:∀x,aR P n H0 F0 A r (put f d (val x)) (c1 x::c2 x::rest) K):aR P n H0 F0 A (⟨d,op,T,ps,af,none⟩::r) f cs K:=uL hs hx (fun _=>dS) h
theorem pQ{c1 c2:ι->ay}(hA:aO.any (Nat.beq i)=true)(ho:l[i]?=some ⟨d,op,T,ps,af,gd⟩)(hw:Wt n l f gd)(hs:fq cs pre rest)(hfl:iF tb i rest fl)
   (hx:∀{f'},jf l ⟨d,op,T,ps,af,gd⟩ f f'->XC P n ⟨d,op,T,ps,af,gd⟩ f' pre val (fun x=>[c1 x,c2 x]))
   (h:∀x,DC P n l tb aO H0 F0 K todo fl (put f d (val x)) (c1 x::c2 x::rest)):DC P n l tb aO H0 F0 K (i::todo) fl f cs:=yE hA ho hw hs hx hfl (fun _=>dS) h
theorem apQ{c1 c2 c3:ι->ay}(hs:fq cs pre rest)(hx:XC P n ⟨d,op,T,ps,af,none⟩ f pre val (fun x=>[c1 x,c2 x,c3 x]))
   (h:∀x,aR P n H0 F0 A r (put f d (val x)) (c1 x::c2 x::c3 x::rest) K):aR P n H0 F0 A (⟨d,op,T,ps,af,none⟩::r) f cs K:=uL hs hx (fun _=>dS) h
theorem aeN{c1 c2 c3:ι->ay}(hA:aO.any (Nat.beq i)=true)(ho:l[i]?=some ⟨d,op,T,ps,af,gd⟩)(hw:Wt n l f gd)(hs:fq cs pre rest)(hfl:iF tb i rest fl)
   (hx:∀{f'},jf l ⟨d,op,T,ps,af,gd⟩ f f'->XC P n ⟨d,op,T,ps,af,gd⟩ f' pre val (fun x=>[c1 x,c2 x,c3 x]))
   (h:∀x,DC P n l tb aO H0 F0 K todo fl (put f d (val x)) (c1 x::c2 x::c3 x::rest)):DC P n l tb aO H0 F0 K (i::todo) fl f cs:=yE hA ho hw hs hx hfl (fun _=>dS) h
theorem aFe{c1 c2 c3 c4:ι->ay}(hs:fq cs pre rest)(hx:XC P n ⟨d,op,T,ps,af,none⟩ f pre val (fun x=>[c1 x,c2 x,c3 x,c4 x]))
   (h:∀x,aR P n H0 F0 A r (put f d (val x)) (c1 x::c2 x::c3 x::c4 x::rest) K):aR P n H0 F0 A (⟨d,op,T,ps,af,none⟩::r) f cs K:=uL hs hx (fun _=>dS) h
theorem aeO{c1 c2 c3 c4:ι->ay}(hA:aO.any (Nat.beq i)=true)(ho:l[i]?=some ⟨d,op,T,ps,af,gd⟩)(hw:Wt n l f gd)(hs:fq cs pre rest)(hfl:iF tb i rest fl)
   (hx:∀{f'},jf l ⟨d,op,T,ps,af,gd⟩ f f'->XC P n ⟨d,op,T,ps,af,gd⟩ f' pre val (fun x=>[c1 x,c2 x,c3 x,c4 x]))
   (h:∀x,DC P n l tb aO H0 F0 K todo fl (put f d (val x)) (c1 x::c2 x::c3 x::c4 x::rest)):DC P n l tb aO H0 F0 K (i::todo) fl f cs:=yE hA ho hw hs hx hfl (fun _=>dS) h
theorem apR{c1 c2 c3 c4 c5:ι->ay}(hs:fq cs pre rest)(hx:XC P n ⟨d,op,T,ps,af,none⟩ f pre val (fun x=>[c1 x,c2 x,c3 x,c4 x,c5 x]))
   (h:∀x,aR P n H0 F0 A r (put f d (val x)) (c1 x::c2 x::c3 x::c4 x::c5 x::rest) K):aR P n H0 F0 A (⟨d,op,T,ps,af,none⟩::r) f cs K:=uL hs hx (fun _=>dS) h
theorem aFf{c1 c2 c3 c4 c5 c6:ι->ay}(hs:fq cs pre rest)(hx:XC P n ⟨d,op,T,ps,af,none⟩ f pre val (fun x=>[c1 x,c2 x,c3 x,c4 x,c5 x,c6 x]))
   (h:∀x,aR P n H0 F0 A r (put f d (val x)) (c1 x::c2 x::c3 x::c4 x::c5 x::c6 x::rest) K):aR P n H0 F0 A (⟨d,op,T,ps,af,none⟩::r) f cs K:=uL hs hx (fun _=>dS) h
theorem azh{c1 c2 c3 c4 c5 c6:ι->ay}(hA:aO.any (Nat.beq i)=true)(ho:l[i]?=some ⟨d,op,T,ps,af,gd⟩)(hw:Wt n l f gd)(hs:fq cs pre rest)(hfl:iF tb i rest fl)
   (hx:∀{f'},jf l ⟨d,op,T,ps,af,gd⟩ f f'->XC P n ⟨d,op,T,ps,af,gd⟩ f' pre val (fun x=>[c1 x,c2 x,c3 x,c4 x,c5 x,c6 x]))
   (h:∀x,DC P n l tb aO H0 F0 K todo fl (put f d (val x)) (c1 x::c2 x::c3 x::c4 x::c5 x::c6 x::rest)):DC P n l tb aO H0 F0 K (i::todo) fl f cs:=yE hA ho hw hs hx hfl (fun _=>dS) h
theorem agH{c1 c2 c3 c4 c5 c6 c7 c8:ι->ay}(hs:fq cs pre rest)(hx:XC P n ⟨d,op,T,ps,af,none⟩ f pre val (fun x=>[c1 x,c2 x,c3 x,c4 x,c5 x,c6 x,c7 x,c8 x]))
   (h:∀x,aR P n H0 F0 A r (put f d (val x)) (c1 x::c2 x::c3 x::c4 x::c5 x::c6 x::c7 x::c8 x::rest) K):aR P n H0 F0 A (⟨d,op,T,ps,af,none⟩::r) f cs K:=uL hs hx (fun _=>dS) h
theorem aad{c1 c2 c3 c4 c5 c6 c7 c8:ι->ay}(hA:aO.any (Nat.beq i)=true)(ho:l[i]?=some ⟨d,op,T,ps,af,gd⟩)(hw:Wt n l f gd)(hs:fq cs pre rest)(hfl:iF tb i rest fl)
   (hx:∀{f'},jf l ⟨d,op,T,ps,af,gd⟩ f f'->XC P n ⟨d,op,T,ps,af,gd⟩ f' pre val (fun x=>[c1 x,c2 x,c3 x,c4 x,c5 x,c6 x,c7 x,c8 x]))
   (h:∀x,DC P n l tb aO H0 F0 K todo fl (put f d (val x)) (c1 x::c2 x::c3 x::c4 x::c5 x::c6 x::c7 x::c8 x::rest)):DC P n l tb aO H0 F0 K (i::todo) fl f cs:=yE hA ho hw hs hx hfl (fun _=>dS) h
theorem afk{c1 c2 c3 c4 c5 c6 c7 c8 c9 c10 c11 c12 c13 c14 c15:ι->ay}(hs:fq cs pre rest)(hx:XC P n ⟨d,op,T,ps,af,none⟩ f pre val (fun x=>[c1 x,c2 x,c3 x,c4 x,c5 x,c6 x,c7 x,c8 x,c9 x,c10 x,c11 x,c12 x,c13 x,c14 x,c15 x]))
   (h:∀x,aR P n H0 F0 A r (put f d (val x)) (c1 x::c2 x::c3 x::c4 x::c5 x::c6 x::c7 x::c8 x::c9 x::c10 x::c11 x::c12 x::c13 x::c14 x::c15 x::rest) K):aR P n H0 F0 A (⟨d,op,T,ps,af,none⟩::r) f cs K:=uL hs hx (fun _=>dS) h
theorem axX{c1 c2 c3 c4 c5 c6 c7 c8 c9 c10 c11 c12 c13 c14 c15 c16:ι->ay}(hA:aO.any (Nat.beq i)=true)(ho:l[i]?=some ⟨d,op,T,ps,af,gd⟩)(hw:Wt n l f gd)(hs:fq cs pre rest)(hfl:iF tb i rest fl)
   (hx:∀{f'},jf l ⟨d,op,T,ps,af,gd⟩ f f'->XC P n ⟨d,op,T,ps,af,gd⟩ f' pre val (fun x=>[c1 x,c2 x,c3 x,c4 x,c5 x,c6 x,c7 x,c8 x,c9 x,c10 x,c11 x,c12 x,c13 x,c14 x,c15 x,c16 x]))
   (h:∀x,DC P n l tb aO H0 F0 K todo fl (put f d (val x)) (c1 x::c2 x::c3 x::c4 x::c5 x::c6 x::c7 x::c8 x::c9 x::c10 x::c11 x::c12 x::c13 x::c14 x::c15 x::c16 x::rest)):DC P n l tb aO H0 F0 K (i::todo) fl f cs:=yE hA ho hw hs hx hfl (fun _=>dS) h
theorem aBY{c1 c2 c3 c4 c5 c6 c7 c8 c9 c10 c11 c12 c13 c14 c15 c16 c17 c18:ι->ay}(hs:fq cs pre rest)(hx:XC P n ⟨d,op,T,ps,af,none⟩ f pre val (fun x=>[c1 x,c2 x,c3 x,c4 x,c5 x,c6 x,c7 x,c8 x,c9 x,c10 x,c11 x,c12 x,c13 x,c14 x,c15 x,c16 x,c17 x,c18 x]))
   (h:∀x,aR P n H0 F0 A r (put f d (val x)) (c1 x::c2 x::c3 x::c4 x::c5 x::c6 x::c7 x::c8 x::c9 x::c10 x::c11 x::c12 x::c13 x::c14 x::c15 x::c16 x::c17 x::c18 x::rest) K):aR P n H0 F0 A (⟨d,op,T,ps,af,none⟩::r) f cs K:=uL hs hx (fun _=>dS) h
theorem axY{c1 c2 c3 c4 c5 c6 c7 c8 c9 c10 c11 c12 c13 c14 c15 c16 c17 c18:ι->ay}(hA:aO.any (Nat.beq i)=true)(ho:l[i]?=some ⟨d,op,T,ps,af,gd⟩)(hw:Wt n l f gd)(hs:fq cs pre rest)(hfl:iF tb i rest fl)
   (hx:∀{f'},jf l ⟨d,op,T,ps,af,gd⟩ f f'->XC P n ⟨d,op,T,ps,af,gd⟩ f' pre val (fun x=>[c1 x,c2 x,c3 x,c4 x,c5 x,c6 x,c7 x,c8 x,c9 x,c10 x,c11 x,c12 x,c13 x,c14 x,c15 x,c16 x,c17 x,c18 x]))
   (h:∀x,DC P n l tb aO H0 F0 K todo fl (put f d (val x)) (c1 x::c2 x::c3 x::c4 x::c5 x::c6 x::c7 x::c8 x::c9 x::c10 x::c11 x::c12 x::c13 x::c14 x::c15 x::c16 x::c17 x::c18 x::rest)):DC P n l tb aO H0 F0 K (i::todo) fl f cs:=yE hA ho hw hs hx hfl (fun _=>dS) h
variable{α:Type}{R:aB->Value->α->Prop}{x:Operand}{E T':TypeId}
theorem azi [bz R]{k j off s:Nat}{a:α}(ul:ι->List Value)(hA:AG P T true)(hs:SZ P T s)(h0:Nat.blt 0 s=true)(hx:EV n f x (.pointer (some ⟨k,j,some off⟩)))(hm:Mem (jM E R k j a) cs)
   (hop:∀H e,R H e a-> ∃i,off+s<=e.cells.size/\(e.cells.toList.drop off).take s=ul i/\ ∀c∈([]:List ay),c.P H/\c.F=[]) (h:∀i,aR P n H0 F0 A r (put f d (.agg (ul i).toArray)) (cs) K):
   aR P n H0 F0 A (⟨d,.load T x,T',ps,af,none⟩::r) f cs K:=aam ul (cc:=fun i=>[]) hA hs h0 hx hm hop (fun _=>dS) h
theorem azj [bz R]{k j off s:Nat}{a:α}(ul:ι->List Value){c1:ι->ay}(hA:AG P T true)(hs:SZ P T s)(h0:Nat.blt 0 s=true)(hx:EV n f x (.pointer (some ⟨k,j,some off⟩)))(hm:Mem (jM E R k j a) cs)
   (hop:∀H e,R H e a-> ∃i,off+s<=e.cells.size/\(e.cells.toList.drop off).take s=ul i/\ ∀c∈([c1 i]:List ay),c.P H/\c.F=[]) (h:∀i,aR P n H0 F0 A r (put f d (.agg (ul i).toArray)) (c1 i::cs) K):
   aR P n H0 F0 A (⟨d,.load T x,T',ps,af,none⟩::r) f cs K:=aam ul (cc:=fun i=>[c1 i]) hA hs h0 hx hm hop (fun _=>dS) h
theorem azk [bz R]{k j off s:Nat}{a:α}(ul:ι->List Value){c1:ι->ay}(hA:AG P T true)(hs:SZ P T s)(h0:Nat.blt 0 s=true)(ho:l[i]?=some ⟨d,.load T x,T',ps,af,gd⟩)(hw:Wt n l f gd)(hx:EV n f x (.pointer (some ⟨k,j,some off⟩)))
   (lg:dP x (dE l ⟨d,.load T x,T',ps,af,gd⟩)=true) (hm:Mem (jM E R k j a) cs)
   (hop:∀H e,R H e a-> ∃i,off+s<=e.cells.size/\(e.cells.toList.drop off).take s=ul i/\ ∀c∈([c1 i]:List ay),c.P H/\c.F=[]) (h:∀i,DC P n l tb aO H0 F0 K todo fl (put f d (.agg (ul i).toArray)) (c1 i::cs)):
   DC P n l tb aO H0 F0 K (i::todo) fl f cs:=afi ul (cc:=fun i=>[c1 i]) hA hs h0 ho hw hx lg hm hop (fun _=>dS) h
theorem azl [bz R]{k j off s:Nat}{a:α}(ul:ι->List Value){c1 c2:ι->ay}(hA:AG P T true)(hs:SZ P T s)(h0:Nat.blt 0 s=true)(hx:EV n f x (.pointer (some ⟨k,j,some off⟩)))(hm:Mem (jM E R k j a) cs)
   (hop:∀H e,R H e a-> ∃i,off+s<=e.cells.size/\(e.cells.toList.drop off).take s=ul i/\ ∀c∈([c1 i,c2 i]:List ay),c.P H/\c.F=[]) (h:∀i,aR P n H0 F0 A r (put f d (.agg (ul i).toArray)) (c1 i::c2 i::cs) K):
   aR P n H0 F0 A (⟨d,.load T x,T',ps,af,none⟩::r) f cs K:=aam ul (cc:=fun i=>[c1 i,c2 i]) hA hs h0 hx hm hop (fun _=>dS) h
theorem azm [bz R]{k j off s:Nat}{a:α}(ul:ι->List Value){c1 c2:ι->ay}(hA:AG P T true)(hs:SZ P T s)(h0:Nat.blt 0 s=true)(ho:l[i]?=some ⟨d,.load T x,T',ps,af,gd⟩)(hw:Wt n l f gd)(hx:EV n f x (.pointer (some ⟨k,j,some off⟩)))
   (lg:dP x (dE l ⟨d,.load T x,T',ps,af,gd⟩)=true) (hm:Mem (jM E R k j a) cs)
   (hop:∀H e,R H e a-> ∃i,off+s<=e.cells.size/\(e.cells.toList.drop off).take s=ul i/\ ∀c∈([c1 i,c2 i]:List ay),c.P H/\c.F=[]) (h:∀i,DC P n l tb aO H0 F0 K todo fl (put f d (.agg (ul i).toArray)) (c1 i::c2 i::cs)):
   DC P n l tb aO H0 F0 K (i::todo) fl f cs:=afi ul (cc:=fun i=>[c1 i,c2 i]) hA hs h0 ho hw hx lg hm hop (fun _=>dS) h
inductive qm:List ay->Prop
 |nil:qm []
 |cons {c:ay} {l:List ay} [JK c] (h:qm l):qm (c::l)
theorem qm.keep{l:List ay}(h:qm l){H H':aB}:(∀c∈l,c.P H)->(∀k∈foot l,H'[k]?=H[k]?)-> ∀c∈l,c.P H':=by
 induction h with
 |nil=>intro _ _ c hc; simp at hc
 |cons h ih=>
   intro h1 h2 c hc
   rcases List.mem_cons.1 hc with rfl|hc
   · exact JK.keep (h1 _ (by simp)) fun k hk=>h2 k (by simp[foot,hk])
   · exact ih (fun d hd=>h1 d (by simp[hd])) (fun k hk=>h2 k (by simp only[foot,av1,aQZ]; exact .inr hk)) c hc
theorem ael{H H':aB}{F:List Nat}(hw:∀k∈F,∃b,H[k]?=some (some b)/\b.wr=true)(hl:∀k∈F,H'[k]?=(cO H F)[k]?){k:Nat}(hk:k∈F):(mh H' F)[k]?=H[k]?:=by
 obtain⟨b,hb,hbw⟩:=hw k hk
 have h1:=NC F H b hb (.inl hk)
 have h2:=aeL F H' _ ((hl k hk).trans h1) (.inl hk)
 rw[h2,hb]
 cases b; simp_all
theorem mH{c c':ay}{o:Oper}{post:ι->List ay}(hf:xC c c')(hl:∀x,qm (post x))(hx:XC P n o f (c'::pre) val post):XC P n o f (c::pre) val (fun x=>c::post x):=by
 intro H hc
 have hcP:=hc.hold c (by simp)
 have hw:=hf.w H hcP
 have hnd:=hc.nd
 simp only[foot,av1]at hnd
 obtain⟨n1,n2,n3⟩:=List.nodup_append.1 hnd
 have hcl:∀k∈c.F,k<H.length:=fun k hk=>(hc.own k (by simp[foot,hk])).2
 have hpo:∀k∈foot pre,k∉c.F:=fun k hk hkc=>n3 k hkc k hk rfl
 have dD:Ctx (cO H c.F) (foot (c'::pre)) (cO H c.F) (c'::pre):=by
   refine⟨aQT _,fP.refl _,fun _ _ _=>rfl,fun d hd=>?_,?_,fun k hk=>⟨.inl hk,?_⟩⟩
   · rcases List.mem_cons.1 hd with rfl|hd
     · exact hf.P H hcP
     · refine d.keep (hc.hold d (by simp[hd])) (ve _ _) fun k hk=>xg _ _ (hpo k (List.mem_flatMap.2 ⟨d,hd,hk⟩))
   · simp only[foot,av1,hf.F,aRa]; exact n2
   · simp only[foot,av1,hf.F,aRa]at hk
     rw[jv]
     exact (hc.own k (by simp only[foot,av1,aQZ]; exact .inr hk)).2
 intro ρ w a K' Q' hr hF hk
 refine hx (cO H c.F) dD ρ w a K' Q' (hr.recore (jv _ _) (wX _ H)) hF fun f2 ρ' H' a' w' h1 h2 h3 h4=>?_
 obtain⟨x,rfl,h5⟩:=h4
 have hFc:∀k∈c.F,H'[k]?=(cO H c.F)[k]?:=fun k hk=>h5.qI k (by rw[jv]; exact hcl k hk) (by
   simp only[foot,av1,hf.F,aRa]; exact fun h=>hpo k h hk)
 have Td:∀k∈foot (post x),k∉c.F:=by
   intro k hk hkc
   rcases (h5.own k hk).1 with h|h
   · simp only[foot,av1,hf.F,aRa]at h; exact hpo k h hkc
   · rw[jv]at h; have:=hcl k hkc; omega
 have hget:∀k,k<H.length->k∉foot pre->(mh H' c.F)[k]?=H[k]?:=by
   intro k hkl hkp
   by_cases hkc:k∈c.F
   · exact ael hw hFc hkc
   · rw[xh _ _ hkc,h5.qI k (by rw[jv]; exact hkl) (by simp only[foot,av1,hf.F,aRa]; exact hkp),xg _ _ hkc]
 refine hk _ ρ' (mh H' c.F) a' w' h1 (h2.recore (tH _ _) (Fg _ H')) ((Step.recore (H:=H) (jv _ _) (wX _ H)).trans (h3.trans (Step.recore (tH _ _) (Fg _ H')))) ⟨x,rfl,?_⟩
 have hlen:H.length<=(mh H' c.F).length:=by rw[tH]; have:=h5.len; rwa [jv]at this
 have m_:fP H (mh H' c.F):=by
   intro k b hb hbw
   have hkc:k∉c.F:=fun h=>by
     obtain⟨b',hb',hw'⟩:=hw k h
     rw[hb]at hb'
     injection hb' with hb'; injection hb' with hb'
     rw[hb',hw']at hbw; simp at hbw
   rw[xh _ _ hkc]
   exact h5.mg k b ((ve H c.F) k b hb hbw) hbw
 refine⟨hlen,m_,fun k hkl hkn=>?_,fun d hd=>?_,?_,fun k hkk=>?_⟩
 · simp only[foot,av1,aQZ,aS4]at hkn
   exact hget k hkl hkn.2
 · rcases List.mem_cons.1 hd with rfl|hd
   · exact d.keep hcP m_ fun k hk=>hget k (hcl k hk) (fun h=>hpo k h hk)
   · exact (hl x).keep h5.hold (fun k hk=>xh _ _ (Td k hk)) d hd
 · simp only[foot,av1]
   exact List.nodup_append.2 ⟨n1,h5.nd,fun a ha b hb e=>Td b hb (e ▸ ha)⟩
 · simp only[foot,av1,aQZ]at hkk ⊢
   rcases hkk with h|h
   · exact⟨.inl (.inl h),aQ2 (hcl k h) hlen⟩
   · refine⟨?_,by rw[tH]; exact (h5.own k h).2⟩
     rcases (h5.own k h).1 with g|g
     · simp only[foot,av1,hf.F,aRa]at g; exact .inl (.inr g)
     · rw[jv]at g; exact .inr g
end
end Go.Fw
