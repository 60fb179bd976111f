/-
  A framework: an abstract heap, what code does to it, in any schedule. No conditions.
-/
import Derived.Calls
import Derived.Orders
import Derived.Tactics
import Derived.Laws.Strings2
import Derived.Laws.Concat
import Derived.Below
import Derived.ChangeSame
import Derived.Carry
import Derived.ProofKit
import Derived.OpenShut
namespace Go.Fw
open Go
structure fE where
 elems:List Value
 ty:TypeId
 own:Bool
 wr:Bool
abbrev aB:=List (Option fE)
def core(b:Option fE):Option (List Value×TypeId×Bool):=b.map fun b=>(b.elems,b.ty,b.own)
structure Loc where
 blk:Nat
 off:Nat
 sz:Nat
 cap:Nat
 own:Bool
abbrev dR:=Nat->Option (Option Loc)
mutual
inductive dh (ρ:dR):Value->Value->Prop
 |bool (b:Bool):dh ρ (.bool b) (.bool b)
 |int (k:IntKind) (n:Int):dh ρ (.int k n) (.int k n)
 |string (s:ByteArray):dh ρ (.string s) (.string s)
 |nilPtr:dh ρ (.pointer none) (.pointer none)
 |ptr (k i j:Nat) (L:Loc) (h:ρ k=some (some L)):dh ρ (.pointer (some ⟨k,i,some j⟩)) (.pointer (some ⟨L.blk,L.off+i*L.sz+j,none⟩))
 |ptrDead (k i:Nat) (s:Option Nat) (p:Addr) (h:ρ k=some none):dh ρ (.pointer (some ⟨k,i,s⟩)) (.pointer (some p))
 |nilSlice:dh ρ (.slice none 0 0) (.slice none 0 0)
 |slice (k i n m:Nat) (L:Loc) (p:Addr) (cap:Nat) (h:ρ k=some (some L)) (hc:n<=cap) (h1:m=1->cap=n/\n<=L.cap)
     (h2:2<=m->i=0/\L.own=true/\cap<=L.cap/\p=⟨L.blk,L.off,none⟩/\(3<=m->cap+3=m)) (hp:n≠0->p=⟨L.blk,L.off+i*L.sz,none⟩/\(L.own=true->i+n<=L.cap)):
     dh ρ (.slice (some ⟨k,i,none⟩) n m) (.slice (some p) n cap)
 |sliceDead (k i n m:Nat) (p:Addr) (cap:Nat) (h:ρ k=some none):dh ρ (.slice (some ⟨k,i,none⟩) n m) (.slice (some p) n cap)
 |func (fn:Fn) (a b a' b':List Value) (h:bP ρ a a') (h':bP ρ b b'):dh ρ (.func fn a.toArray b.toArray) (.func fn a'.toArray b'.toArray)
 |nilFunc:dh ρ .nilFunc .nilFunc
 |iface (t:TypeId) (v v':Value) (h:dh ρ v v'):dh ρ (.iface t v) (.iface t v')
 |nilIface:dh ρ .nilIface .nilIface
 |agg (a a':List Value) (h:bP ρ a a'):dh ρ (.agg a.toArray) (.agg a'.toArray)
 |tuple (a a':List Value) (h:bP ρ a a'):dh ρ (.tuple a.toArray) (.tuple a'.toArray)
inductive bP (ρ:dR):List Value->List Value->Prop
 |nil:bP ρ [] []
 |cons (v v':Value) (l l':List Value) (h:dh ρ v v') (t:bP ρ l l'):bP ρ (v::l) (v'::l')
end
def Up(ρ ρ':dR):Prop:=∀k,ρ k=none\/ρ' k=ρ k\/ρ' k=some none
theorem Up.refl(ρ:dR):Up ρ ρ:=fun _=>.inr (.inl rfl)
theorem Up.trans{a b c:dR}(h:Up a b)(h':Up b c):Up a c:=by
 intro k
 rcases h k with e|e|e
 · exact .inl e
 · rcases h' k with e'|e'|e'
   · exact .inl (e ▸ e')
   · exact .inr (.inl (e'.trans e))
   · exact .inr (.inr e')
 · rcases h' k with e'|e'|e'
   · rw[e]at e'; exact absurd e' (by simp)
   · exact .inr (.inr (e'.trans e))
   · exact .inr (.inr e')
mutual
theorem dh.up{ρ ρ':dR}(hu:Up ρ ρ'){v c:Value}(h:dh ρ v c):dh ρ' v c:=by
 cases h with
 |bool b=>exact .bool b
 |int k n=>exact .int k n
 |string s=>exact .string s
 |nilPtr=>exact .nilPtr
 |ptr k i j L h=>
   rcases hu k with e|e|e
   · rw[e]at h; exact absurd h (by simp)
   · exact .ptr k i j L (e.trans h)
   · exact .ptrDead k i _ _ e
 |ptrDead k i s p h=>
   rcases hu k with e|e|e
   · rw[e]at h; exact absurd h (by simp)
   · exact .ptrDead k i s p (e.trans h)
   · exact .ptrDead k i s p e
 |nilSlice=>exact .nilSlice
 |slice k i n m L p cap h hc h1 h2 hp=>
   rcases hu k with e|e|e
   · rw[e]at h; exact absurd h (by simp)
   · exact .slice k i n m L p cap (e.trans h) hc h1 h2 hp
   · exact .sliceDead k i n m p cap e
 |sliceDead k i n m p cap h=>
   rcases hu k with e|e|e
   · rw[e]at h; exact absurd h (by simp)
   · exact .sliceDead k i n m p cap (e.trans h)
   · exact .sliceDead k i n m p cap e
 |func fn a b a' b' h h'=>exact .func fn a b a' b' (bP.up hu h) (bP.up hu h')
 |nilFunc=>exact .nilFunc
 |iface t v v' h=>exact .iface t v v' (dh.up hu h)
 |nilIface=>exact .nilIface
 |agg a a' h=>exact .agg a a' (bP.up hu h)
 |tuple a a' h=>exact .tuple a a' (bP.up hu h)
theorem bP.up{ρ ρ':dR}(hu:Up ρ ρ'){v c:List Value}(h:bP ρ v c):bP ρ' v c:=by
 cases h with
 |nil=>exact .nil
 |cons v v' l l' h t=>exact .cons v v' l l' (dh.up hu h) (bP.up hu t)
end
theorem bP.length{ρ:dR}:∀{a b:List Value},bP ρ a b->a.length=b.length
 |_,_,.nil=>rfl
 |_,_,.cons _ _ _ _ _ t=>by simp[t.length]
theorem bP.get{ρ:dR}:∀{a b:List Value},bP ρ a b-> ∀(i:Nat)(v:Value),a[i]?=some v-> ∃c,b[i]?=some c/\dh ρ v c
 |_,_,.nil,i,v,h=>by simp at h
 |_,_,.cons x y l l' h t,0,v,e=>by
   have:x=v:=by simpa using e
   subst this
   exact⟨y,by simp,h⟩
 |_,_,.cons x y l l' h t,i+1,v,e=>by
   have e':l[i]?=some v:=by simpa using e
   obtain⟨c,hc,hr⟩:=t.get i v e'
   exact⟨c,by simpa using hc,hr⟩
theorem bP.of_get{ρ:dR}:∀{a b:List Value},a.length=b.length->(∀(i:Nat) v c,a[i]?=some v->b[i]?=some c->dh ρ v c)->bP ρ a b
 |[],[],_,_=>.nil
 |[],_::_,h,_=>by simp at h
 |_::_,[],h,_=>by simp at h
 |x::a,y::b,h,hr=>.cons x y a b (hr 0 x y (by simp) (by simp)) (bP.of_get (by simpa using h) (fun i v c e e'=>hr (i+1) v c (by simpa using e) (by simpa using e')))
theorem bP.append{ρ:dR}:∀{a b c d:List Value},bP ρ a b->bP ρ c d->bP ρ (a++c) (b++d)
 |_,_,_,_,.nil,h=>h
 |_,_,_,_,.cons v v' l l' h t,h'=>.cons _ _ _ _ h (t.append h')
theorem bP.take{ρ:dR}:∀{a b:List Value}(n:Nat),bP ρ a b->bP ρ (a.take n) (b.take n)
 |_,_,0,_=>by simpa using bP.nil
 |_,_,_+1,.nil=>by simpa using bP.nil
 |_,_,n+1,.cons v v' l l' h t=>.cons _ _ _ _ h (t.take n)
theorem bP.drop{ρ:dR}:∀{a b:List Value}(n:Nat),bP ρ a b->bP ρ (a.drop n) (b.drop n)
 |_,_,0,h=>h
 |_,_,_+1,.nil=>by simpa using bP.nil
 |_,_,n+1,.cons v v' l l' h t=>t.drop n
class b_(P:Program) where
 V:World->Prop
def xq(P:Program) [b_ P](ρ:dR)(w:World):Prop:=
 ∃w0:World,b_.V P w0/\w0.heap.size<=w.heap.size/\(∀b,b<w0.heap.size->w.heap[b]?=w0.heap[b]?)/\ ∀k L,ρ k=some (some L)->L.own=true->w0.heap.size<=L.blk
theorem xq.keep{P:Program} [b_ P]{ρ ρ':dR}{w w':World}(h:xq P ρ w)(hs:w.heap.size<=w'.heap.size)(hf:∀b,b<w.heap.size->(∀k L,ρ k=some (some L)->L.own=true->L.blk≠b)->w'.heap[b]?=w.heap[b]?)
   (hn:∀k L,ρ' k=some (some L)->L.own=true->ρ k=some (some L)\/w.heap.size<=L.blk\/ ∃k0 L0,ρ k0=some (some L0)/\L0.own=true/\L0.blk=L.blk):xq P ρ' w':=by
 obtain⟨w0,h1,h2,h3,h4⟩:=h
 refine⟨w0,h1,Nat.le_trans h2 hs,fun b hb=>?_,fun k L hk ho=>?_⟩
 · rw[hf b (Nat.lt_of_lt_of_le hb h2) fun k L hk ho e=>by have:=h4 k L hk ho; omega,h3 b hb]
 · rcases hn k L hk ho with e|e|⟨k0,L0,e1,e2,e3⟩
   · exact h4 k L e ho
   · exact Nat.le_trans h2 e
   · rw[←e3]; exact h4 k0 L0 e1 e2
structure wN(P:Program) [b_ P](ρ:dR)(L:Loc)(b:fE)(w:World):Prop where
 own:b.own=L.own
 sz:P.cellsOf b.ty=L.sz
 cells:∃cs ct fr,w.heap[L.blk]?=some (.cells cs ct fr)/\
   (∀(i:Nat) e,b.elems[i]?=some e->e.cells.size=L.sz/\bP ρ e.cells.toList ((cs.toList.drop (L.off+i*L.sz)).take L.sz))/\
   (L.own=true->L.off=0/\L.cap*L.sz<=cs.size/\b.elems.length<=L.cap/\(∀o,o<=cs.size-> ¬ (fr.1<=o/\o<fr.2))/\ct=b.ty)
structure Rel(P:Program) [b_ P](ρ:dR)(H:aB)(w:World):Prop where
 blk:∀k L,ρ k=some (some L)-> ∃b,H[k]?=some (some b)/\wN P ρ L b w
 alive:∀(k:Nat) b,H[k]?=some (some b)->ρ k≠some none
 dom:∀k,H.length<=k->ρ k=none
 inj:∀k k' L L',ρ k=some (some L)->ρ k'=some (some L')->L.own=true->L.blk=L'.blk->k=k'
 vok:xq P ρ w
structure Step(ρ:dR)(H:aB)(w:World)(ρ':dR)(H':aB)(w':World):Prop where
 up:Up ρ ρ'
 os:w'.os=w.os
 output:w'.output=w.output
 tape:w'.tape=w.tape
 size:w.heap.size<=w'.heap.size
 frame:∀b,b<w.heap.size->(∀k L,ρ k=some (some L)->L.own=true->L.blk≠b)->w'.heap[b]?=w.heap[b]?
 fresh:∀k L,ρ' k=some (some L)->ρ k=some (some L)\/(L.own=true/\(w.heap.size<=L.blk\/ ∃k0 L0,ρ k0=some (some L0)/\L0.own=true/\L0.blk=L.blk))
 len:H.length<=H'.length
 hold:∀k,k<H.length->ρ k=none->ρ' k=none/\(H'[k]?).map core=(H[k]?).map core
theorem xq.step{P:Program} [b_ P]{ρ ρ':dR}{H H':aB}{w w':World}(h:xq P ρ w)(g:Step ρ H w ρ' H' w'):xq P ρ' w':=
 h.keep g.size g.frame fun k L hk _=>(g.fresh k L hk).imp id fun h=>h.2
theorem Step.refl(ρ:dR)(H:aB)(w:World):Step ρ H w ρ H w:=
 ⟨Up.refl ρ,rfl,rfl,rfl,Nat.le_refl _,fun _ _ _=>rfl,fun _ _ h=>.inl h,Nat.le_refl _,fun _ _ h=>⟨h,rfl⟩⟩
theorem Step.trans{ρ ρ₁ ρ₂:dR}{H H₁ H₂:aB}{w w₁ w₂:World}(h:Step ρ H w ρ₁ H₁ w₁)(g:Step ρ₁ H₁ w₁ ρ₂ H₂ w₂):Step ρ H w ρ₂ H₂ w₂ where
 up:=h.up.trans g.up
 os:=g.os.trans h.os
 output:=g.output.trans h.output
 tape:=g.tape.trans h.tape
 size:=Nat.le_trans h.size g.size
 frame b hb hn:=by
   rw[g.frame b (Nat.lt_of_lt_of_le hb h.size) ?_,h.frame b hb hn]
   intro k L hk ho he
   rcases h.fresh k L hk with e|⟨-,e|⟨k0,L0,h0,ho0,e⟩⟩
   · exact hn k L e ho he
   · omega
   · exact hn k0 L0 h0 ho0 (e.trans he)
 fresh k L hk:=by
   rcases g.fresh k L hk with e|⟨ho,e|⟨k0,L0,h0,ho0,e⟩⟩
   · exact h.fresh k L e
   · exact .inr ⟨ho,.inl (Nat.le_trans h.size e)⟩
   · rcases h.fresh k0 L0 h0 with e'|⟨-,e'|⟨k1,L1,h1,ho1,e'⟩⟩
     · exact .inr ⟨ho,.inr ⟨k0,L0,e',ho0,e⟩⟩
     · exact .inr ⟨ho,.inl (e ▸ e')⟩
     · exact .inr ⟨ho,.inr ⟨k1,L1,h1,ho1,e'.trans e⟩⟩
 len:=Nat.le_trans h.len g.len
 hold k hk hn:=by
   obtain⟨h1,h2⟩:=h.hold k hk hn
   obtain⟨g1,g2⟩:=g.hold k (Nat.lt_of_lt_of_le hk h.len) h1
   exact⟨g1,g2.trans h2⟩
abbrev Fr:=Nat->Value
def upd(f:Fr)(t:Nat)(v:Value):Fr:=fun s=>bif Nat.beq s t then v else f s
def put(f:Fr)(d:Option Tmp)(v:Value):Fr:=match d with|some t=>upd f t v|none=>f
theorem Jm(f:Fr)(t:Nat)(v:Value):upd f t v t=v:=by simp[upd]
theorem upd_ne(f:Fr){t s:Nat}(v:Value)(h:s≠t):upd f t v s=f s:=by
 have:Nat.beq s t=false:=by cases e:Nat.beq s t with|true=>exact absurd (Nat.eq_of_beq_eq_true e) h|false=>rfl
 simp[upd,this]
theorem asB(f:Fr)(t:Nat):upd f t (f t)=f:=by
 funext s
 by_cases h:s=t
 · subst h; exact Jm _ _ _
 · exact upd_ne _ _ h
structure jN(ρ:dR)(n:Nat)(f:Fr)(a:Act):Prop where
 defers:a.defers=[]
 size:a.tmps.size=n
 get:∀t,t<n->dh ρ (f t) (a.tmps.getD t undef)
theorem jN.up{ρ ρ':dR}(hu:Up ρ ρ'){n:Nat}{f:Fr}{a:Act}(h:jN ρ n f a):jN ρ' n f a:=
 ⟨h.defers,h.size,fun t ht=>(h.get t ht).up hu⟩
theorem dh.undef(ρ:dR):dh ρ undef undef:=.tuple [] [] .nil
theorem jN.put{ρ:dR}{n:Nat}{f:Fr}{a:Act}(h:jN ρ n f a)(d:Option Tmp){v c:Value}(hv:dh ρ v c):jN ρ n (put f d v) (a.put d c):=by
 cases d with
 |none=>exact h
 |some d=>
   refine⟨h.defers,by simp[Act.put,h.size],fun t ht=>?_⟩
   simp only[Act.put,Fw.put]
   by_cases e:t=d
   · subst e
     rw[Jm]
     have:(a.tmps.setIfInBounds t c).getD t Go.undef=c:=by
       have hlt:t<a.tmps.size:=by rw[h.size]; exact ht
       simp[Array.getD_eq_getD_getElem?,hlt]
     rw[this]; exact hv
   · rw[upd_ne _ _ e]
     have:(a.tmps.setIfInBounds d c).getD t Go.undef=a.tmps.getD t Go.undef:=by
       simp[Array.getD_eq_getD_getElem?,Ne.symm e]
     rw[this]; exact h.get t ht
def EV(n:Nat)(f:Fr)(x:Operand)(v:Value):Prop:=(∃t,x= .tmp t/\f t=v/\t<n)\/((∀t,x≠ .tmp t)/\ ∀ρ (a:Act),dh ρ v (a.eval x))
theorem EV.use{n:Nat}{f:Fr}{x:Operand}{v:Value}(h:EV n f x v){ρ:dR}{a:Act}(hf:jN ρ n f a):dh ρ v (a.eval x):=by
 rcases h with⟨t,rfl,rfl,ht⟩|⟨-,h⟩
 · exact hf.get t ht
 · exact h ρ a
theorem EV.tmp{n:Nat}{f:Fr}{t:Nat}{v:Value}(hv:f t=v)(ht:Nat.blt t n=true):EV n f (.tmp t) v:=
 .inl ⟨t,rfl,hv,by simpa[Nat.blt_eq]using ht⟩
theorem EV.closed{n:Nat}{f:Fr}{x:Operand}{v:Value}(hx:∀t,x≠ .tmp t)(h:∀ρ (a:Act),dh ρ v (a.eval x)):EV n f x v:=.inr ⟨hx,h⟩
theorem EV.int{n:Nat}{f:Fr}(k:IntKind)(i:Int):EV n f (.const (.int k i)) (.int k i):=.closed (by simp) fun _ _=>.int k i
theorem EV.bool{n:Nat}{f:Fr}(b:Bool):EV n f (.const (.bool b)) (.bool b):=.closed (by simp) fun _ _=>.bool b
theorem EV.str{n:Nat}{f:Fr}(s:ByteArray):EV n f (.const (.string s)) (.string s):=.closed (by simp) fun _ _=>.string s
theorem EV.nilSlice{n:Nat}{f:Fr}:EV n f (.const (.slice none 0 0)) (.slice none 0 0):=.closed (by simp) fun _ _=>.nilSlice
theorem EV.nilFunc{n:Nat}{f:Fr}:EV n f (.const .nilFunc) .nilFunc:=.closed (by simp) fun _ _=>.nilFunc
theorem EV.nilPtr{n:Nat}{f:Fr}:EV n f (.const (.pointer none)) (.pointer none):=.closed (by simp) fun _ _=>.nilPtr
theorem EV.nilIface{n:Nat}{f:Fr}:EV n f (.const .nilIface) .nilIface:=.closed (by simp) fun _ _=>.nilIface
theorem EV.fn{n:Nat}{f:Fr}(g:FuncId):EV n f (.func g) (.func (.func g) #[] #[]):=.closed (by simp) fun _ _=>.func _ [] [] [] [] .nil .nil
def RA(P:Program) [b_ P](n:Nat)(ρ:dR)(H:aB)(w:World)(Q:Exit->Fr->aB->Prop)(e:Exit)(a':Act)(w':World):Prop:=
 ∃f' ρ' H',jN ρ' n f' a'/\Rel P ρ' H' w'/\Step ρ H w ρ' H' w'/\Q e f' H'
def AW(P:Program) [b_ P](n:Nat)(c:Code)(Q:Exit->Fr->aB->Prop)(f:Fr)(H:aB):Prop:=
 ∀ρ w a,Rel P ρ H w->jN ρ n f a->c.wp P (RA P n ρ H w Q) a w
def AC(P:Program) [b_ P](g:FuncId)(args:List Value)(H:aB)(Q:Value->aB->Prop):Prop:=
 ∀ρ w (jL:Array Value),Rel P ρ H w->bP ρ args jL.toList->Calls P g jL w fun e w'=>
   ∃v r ρ' H',e= .returned v/\dh ρ' r v/\Rel P ρ' H' w'/\Step ρ H w ρ' H' w'/\Q r H'
theorem AC.mono{P:Program} [b_ P]{g:FuncId}{args:List Value}{H:aB}{Q Q':Value->aB->Prop}(h:AC P g args H Q)(hq:∀r H',Q r H'->Q' r H'):AC P g args H Q':=
 fun ρ w jL hr ha=>(h ρ w jL hr ha).mono fun _ _ ⟨v,r,ρ',H',h1,h2,h3,h4,h5⟩=>⟨v,r,ρ',H',h1,h2,h3,h4,hq r H' h5⟩
section
variable{P:Program} [b_ P]{n:Nat}{f:Fr}{H:aB}{Q:Exit->Fr->aB->Prop}
theorem AW.mono{c:Code}{Q':Exit->Fr->aB->Prop}(h:AW P n c Q f H)(hq:∀e f H,Q e f H->Q' e f H):AW P n c Q' f H:=
 fun ρ w a hr hf=>wp_mono (h ρ w a hr hf) fun _ _ _ ⟨f',ρ',H',h1,h2,h3,h4⟩=>⟨f',ρ',H',h1,h2,h3,hq _ _ _ h4⟩
theorem asC(h:Q .normal f H):AW P n .skip Q f H:=fun ρ _ _ hr hf=>wp_skip ⟨f,ρ,H,hf,hr,Step.refl _ _ _,h⟩
theorem asD{id:Nat}(h:Q (.exit id) f H):AW P n (.exit id) Q f H:=fun ρ _ _ hr hf=>wp_exit ⟨f,ρ,H,hf,hr,Step.refl _ _ _,h⟩
theorem atr(h:Q .ret f H):AW P n .ret Q f H:=fun ρ _ _ hr hf=>wp_ret ⟨f,ρ,H,hf,hr,Step.refl _ _ _,h⟩
def Then(next:Fr->aB->Prop)(Q:Exit->Fr->aB->Prop):Exit->Fr->aB->Prop
 | .normal,f,H=>next f H
 |e,f,H=>Q e f H
theorem att{x y:Code}{M:Fr->aB->Prop}(h:AW P n x (Then M Q) f H)(hm:∀f' H',M f' H'->AW P n y Q f' H'):AW P n (.seq x y) Q f H:=by
 intro ρ w a hr hf
 refine wp_seq (wp_mono (h ρ w a hr hf) fun e a' w' hp=>?_)
 obtain⟨f',ρ',H',h1,h2,h3,h4⟩:=hp
 cases e with
 |normal=>
   refine wp_mono (hm f' H' h4 ρ' w' a' h2 h1) fun e a'' w'' hp'=>?_
   obtain⟨Ou,xu,xw,g1,g2,g3,g4⟩:=hp'
   exact⟨Ou,xu,xw,g1,g2,h3.trans g3,g4⟩
 |_=>exact⟨f',ρ',H',h1,h2,h3,h4⟩
theorem asE{c:Operand}{x y:Code}{t:Bool}(hc:EV n f c (.bool t))(h1:t=true->AW P n x Q f H)(h2:t=false->AW P n y Q f H):AW P n (.cond c x y) Q f H:=by
 intro ρ w a hr hf
 have hv:=hc.use hf
 generalize hx:a.eval c=v at hv
 cases hv
 exact wp_cond_split hx (fun e=>h1 e ρ w a hr hf) (fun e=>h2 e ρ w a hr hf)
def abG(id:Nat)(Q:Exit->Fr->aB->Prop):Exit->Fr->aB->Prop
 | .exit id',f,H=>if id'=id then Q .normal f H else Q (.exit id') f H
 |e,f,H=>Q e f H
theorem arY{id:Nat}{c:Code}(h:AW P n c (abG id Q) f H):AW P n (.block id c) Q f H:=by
 intro ρ w a hr hf
 refine wp_block (wp_mono (h ρ w a hr hf) fun e a' w' hp=>?_)
 obtain⟨f',ρ',H',h1,h2,h3,h4⟩:=hp
 cases e with
 |exit id'=>
   simp only[abG]at h4
   simp only[Exit.inBlock]
   split
   · rename_i he; rw[if_pos he]at h4; exact⟨f',ρ',H',h1,h2,h3,h4⟩
   · rename_i he; rw[if_neg he]at h4; exact⟨f',ρ',H',h1,h2,h3,h4⟩
 |_=>exact⟨f',ρ',H',h1,h2,h3,h4⟩
theorem asF{c:Code}(I:Nat->Fr->aB->Prop)(m:Nat)(h0:I m f H)
   (round:∀m f H,I m f H->AW P n c (Then (fun f' H'=>∃m',m'<m/\I m' f' H') Q) f H):AW P n (.loop c) Q f H:=by
 intro ρ w a hr hf b k cs
 have key:∀m f H ρ w a,Rel P ρ H w->jN ρ n f a->I m f H->
     ∃e a' w',RA P n ρ H w Q e a' w'/\Arrives P (lone (b.at a (.code c:: .inLoop c::k)) cs w) b k cs e a' w':=by
   intro m
   induction m using Nat.strongRecOn with
   |_ m ih=>
     intro f H ρ w a hr hf hI
     obtain⟨e,a₁,w₁,hq,harr⟩:=round m f H hI ρ w a hr hf b (.inLoop c::k) cs
     obtain⟨f',ρ',H',h1,h2,h3,h4⟩:=hq
     cases e with
     |normal=>
       obtain⟨m',hlt,hI'⟩:=h4
       obtain⟨e₂,a₂,w₂,hq₂,harr₂⟩:=ih m' hlt f' H' ρ' w₁ a₁ h2 h1 hI'
       obtain⟨Ou,xu,xw,g1,g2,g3,g4⟩:=hq₂
       exact⟨e₂,a₂,w₂,⟨Ou,xu,xw,g1,g2,h3.trans g3,g4⟩,.of_steps (Steps.trans harr (.one step_inLoop)) harr₂⟩
     |exit id=>exact⟨_,a₁,w₁,⟨f',ρ',H',h1,h2,h3,h4⟩,.pass (x:=.inLoop c) rfl (fun _ _=>.inl (by simp)) harr⟩
     |goto l=>exact⟨_,a₁,w₁,⟨f',ρ',H',h1,h2,h3,h4⟩,.pass (x:=.inLoop c) rfl (fun _ _=>.inl (by simp)) harr⟩
     |ret=>exact⟨_,a₁,w₁,⟨f',ρ',H',h1,h2,h3,h4⟩,.pass (x:=.inLoop c) rfl (fun _ _=>.inl (by simp)) harr⟩
     |panic ch=>exact⟨_,a₁,w₁,⟨f',ρ',H',h1,h2,h3,h4⟩,.pass (x:=.inLoop c) rfl (fun _ _=>.inl (by simp)) harr⟩
     |outgrown=>exact⟨_,a₁,w₁,⟨f',ρ',H',h1,h2,h3,h4⟩,.pass (x:=.inLoop c) rfl (fun _ _=>.inl (by simp)) harr⟩
 obtain⟨e,a',w',hq,harr⟩:=key m f H ρ w a hr hf h0
 exact⟨e,a',w',hq,.of_steps (.one step_loop) harr⟩
end
end Go.Fw
namespace Go.Fw
open Go
def Wanted(n:Nat)(A:Array Oper)(f:Fr)(o:Oper)(b:Bool):Prop:=∀ρ a,jN ρ n f a->Region.wanted o (yielded A a.tmps)=b
def Dh(P:Program) [b_ P](n:Nat)(o:Oper)(f:Fr)(H:aB)(K:Fr->aB->Prop):Prop:=
 ∀ρ w a (K':Act->World->Prop)(Q':Exit->Act->World->Prop),Rel P ρ H w->jN ρ n f a->
   (∀f' ρ' H' a' w',jN ρ' n f' a'->Rel P ρ' H' w'->Step ρ H w ρ' H' w'->K f' H'->K' a' w')->o.wp P a w K' Q'
def nH(P:Program) [b_ P](n:Nat)(A:Array Oper)(l:List Oper)(f:Fr)(H:aB)(K:Fr->aB->Prop):Prop:=
 ∀ρ w a (Q':Exit->Act->World->Prop),Rel P ρ H w->jN ρ n f a->
   (∀f' ρ' H' a' w',jN ρ' n f' a'->Rel P ρ' H' w'->Step ρ H w ρ' H' w'->K f' H'->Q' .normal a' w')->wpList P A Q' l a w
section
variable{P:Program} [b_ P]{n:Nat}{f:Fr}{H:aB}{A:Array Oper}{o:Oper}{r:List Oper}{K:Fr->aB->Prop}
theorem arZ(h:K f H):nH P n A [] f H K:=fun _ _ _ _ hr hf hk=>hk _ _ _ _ _ hf hr (Step.refl _ _ _) h
theorem abm(hw:Wanted n A f o true)(h:Dh P n o f H (fun f' H'=>nH P n A r f' H' K)):nH P n A (o::r) f H K:=by
 intro ρ w a Q' hr hf hk
 refine wpList_step fun K' hK'=>?_
 rw[if_pos (hw ρ a hf)]
 refine h ρ w a K' Q' hr hf fun f' ρ' H' a' w' h1 h2 h3 h4=>hK' _ _ ?_
 exact h4 ρ' w' a' Q' h2 h1 fun Ou xu xw a'' w'' g1 g2 g3 g4=>hk _ _ _ _ _ g1 g2 (h3.trans g3) g4
theorem ahb(hw:Wanted n A f o false)(h:nH P n A r (put f o.dst undef) H K):nH P n A (o::r) f H K:=by
 intro ρ w a Q' hr hf hk
 refine wpList_step fun K' hK'=>?_
 rw[if_neg (by rw[hw ρ a hf]; simp)]
 exact hK' _ _ (h ρ w _ Q' hr (hf.put o.dst (dh.undef ρ)) hk)
theorem Wanted.none(h:o.guard=none):Wanted n A f o true:=fun _ _ _=>by simp[Region.wanted,h]
theorem Wanted.guard{j:Nat}{want b:Bool}{t:Tmp}(h:o.guard=some (j,want))(hd:(A[j]?).bind (·.dst)=some t)(hv:f t= .bool b)(ht:Nat.blt t n=true):
   Wanted n A f o (b==want):=by
 intro ρ a hf
 have hlt:t<n:=by simpa[Nat.blt_eq]using ht
 have hr:=hf.get t hlt
 rw[hv]at hr
 have hlt':t<a.tmps.size:=by rw[hf.size]; exact hlt
 have hg:a.tmps[t]?=some (a.tmps.getD t undef):=by
   simp[Array.getD_eq_getD_getElem?,hlt']
 generalize a.tmps.getD t undef=c at hr hg
 cases hr
 simp[Region.wanted,h,yielded,hd,hg]
theorem art{id:Nat}{l:List Oper}{Q:Exit->Fr->aB->Prop}(h:nH P n l.toArray l f H (fun f' H'=>Q .normal f' H')):AW P n (.region id l.toArray false) Q f H:=
 fun ρ w a hr hf=>wp_region_lit (h ρ w a _ hr hf fun f' ρ' H' _ _ h1 h2 h3 h4=>⟨f',ρ',H',h1,h2,h3,h4⟩)
theorem WU{v:Value}(hv:∀ρ w a,Rel P ρ H w->jN ρ n f a-> ∃c,(execOp a.eval o).run P w= .ok (.value c) w/\dh ρ v c)
   (h:K (put f o.dst v) H):Dh P n o f H K:=by
 intro ρ w a K' Q' hr hf hk
 obtain⟨c,hrun,hrel⟩:=hv ρ w a hr hf
 show o.upon P a K' Q' _
 rw[hrun]
 exact hk _ _ _ _ _ (hf.put o.dst hrel) hr (Step.refl _ _ _) h
theorem aqY{v:Value}(hg:o.guard=none)(hv:∀ρ w a,Rel P ρ H w->jN ρ n f a-> ∃c,(execOp a.eval o).run P w= .ok (.value c) w/\dh ρ v c)
   (h:nH P n A r (put f o.dst v) H K):nH P n A (o::r) f H K:=abm (.none hg) (WU hv h)
end
def fe(P:Program) [b_ P](n:Nat)(o:Oper)(f:Fr)(H:aB)(v:Value):Prop:=
 ∀ρ w a,Rel P ρ H w->jN ρ n f a-> ∃c,(execOp a.eval o).run P w= .ok (.value c) w/\dh ρ v c
theorem wK{P:Program} [b_ P]{n:Nat}{f:Fr}{H:aB}{A:Array Oper}{r:List Oper}{K:Fr->aB->Prop}{d:Option Tmp}{op:Op}{T:TypeId}{ps:String}{af:Array Edge}{v:Value}
   (hv:fe P n ⟨d,op,T,ps,af,none⟩ f H v) (h:nH P n A r (put f d v) H K):nH P n A (⟨d,op,T,ps,af,none⟩::r) f H K:=aqY rfl hv h
section
variable{ρ:dR}{c:Value}
theorem dh.int_inv{k:IntKind}{i:Int}(h:dh ρ (.int k i) c):c= .int k i:=by cases h; rfl
theorem dh.bool_inv{b:Bool}(h:dh ρ (.bool b) c):c= .bool b:=by cases h; rfl
theorem dh.str_inv{s:ByteArray}(h:dh ρ (.string s) c):c= .string s:=by cases h; rfl
theorem dh.tuple_inv{a:List Value}(h:dh ρ (.tuple a.toArray) c):∃b,c= .tuple b.toArray/\bP ρ a b:=by
 generalize hx:Value.tuple a.toArray=x at h
 cases h with
 |tuple a' b hr=>cases hx; exact⟨b,rfl,hr⟩
 |_=>simp at hx
end
section
variable{P:Program} [b_ P]{n:Nat}{f:Fr}{H:aB}{A:Array Oper}{r:List Oper}{K:Fr->aB->Prop}{d:Option Tmp}{x y z:Operand}{T T' T'':TypeId}{ps:String}{af:Array Edge}
theorem eH{v:Value}(hx:EV n f x v):
   fe P n ⟨d,.move x,T,ps,af,none⟩ f H (v):=
 fun ρ _ a _ hf=>⟨a.eval x,by simp[execOp],hx.use hf⟩
theorem iZ{v:Value}(hx:EV n f x v):
   fe P n ⟨d,.assign x,T,ps,af,none⟩ f H (v):=
 fun ρ _ a _ hf=>⟨a.eval x,by simp[execOp],hx.use hf⟩
theorem XJ{b:Bool}{u v:Value}(hc:EV n f x (.bool b))(hy:EV n f y u)(hz:EV n f z v):
   fe P n ⟨d,.pick x y z,T,ps,af,none⟩ f H ((if b then u else v)):=
 fun ρ _ a _ hf=>⟨if b then a.eval y else a.eval z,by simp[execOp,(hc.use hf).bool_inv,asBool],by cases b; exact hz.use hf; exact hy.use hf⟩
theorem mq{k:IntKind}{i j:Int}(hx:EV n f x (.int k i))(hy:EV n f y (.int k j)):
   fe P n ⟨d,.binOp .add T x y T',T'',ps,af,none⟩ f H ((.int k (k.wrap (i+j)))):=
 fun ρ _ a _ hf=>⟨_,by simp[execOp,(hx.use hf).int_inv,(hy.use hf).int_inv,eqGuard,binOp,Op.intArith],.int _ _⟩
theorem acp{k:IntKind}{i j:Int}(hx:EV n f x (.int k i))(hy:EV n f y (.int k j)):
   fe P n ⟨d,.binOp .sub T x y T',T'',ps,af,none⟩ f H ((.int k (k.wrap (i-j)))):=
 fun ρ _ a _ hf=>⟨_,by simp[execOp,(hx.use hf).int_inv,(hy.use hf).int_inv,eqGuard,binOp,Op.intArith],.int _ _⟩
theorem ajO{k:IntKind}{i j:Int}(hx:EV n f x (.int k i))(hy:EV n f y (.int k j)):
   fe P n ⟨d,.binOp .mul T x y T',T'',ps,af,none⟩ f H ((.int k (k.wrap (i*j)))):=
 fun ρ _ a _ hf=>⟨_,by simp[execOp,(hx.use hf).int_inv,(hy.use hf).int_inv,eqGuard,binOp,Op.intArith],.int _ _⟩
theorem mr{k:IntKind}{i j:Int}(hx:EV n f x (.int k i))(hy:EV n f y (.int k j)):
   fe P n ⟨d,.binOp .lss T x y T',T'',ps,af,none⟩ f H ((.bool (decide (i<j)))):=
 fun ρ _ a _ hf=>⟨_,by simp[execOp,(hx.use hf).int_inv,(hy.use hf).int_inv,eqGuard,binOp,Op.intCmp],.bool _⟩
theorem ajP{k:IntKind}{i j:Int}(hx:EV n f x (.int k i))(hy:EV n f y (.int k j)):
   fe P n ⟨d,.binOp .leq T x y T',T'',ps,af,none⟩ f H ((.bool (decide (i<=j)))):=
 fun ρ _ a _ hf=>⟨_,by simp[execOp,(hx.use hf).int_inv,(hy.use hf).int_inv,eqGuard,binOp,Op.intCmp],.bool _⟩
theorem RB{k:IntKind}{i j:Int}(hx:EV n f x (.int k i))(hy:EV n f y (.int k j)):
   fe P n ⟨d,.binOp .gtr T x y T',T'',ps,af,none⟩ f H ((.bool (decide (j<i)))):=
 fun ρ _ a _ hf=>⟨_,by simp[execOp,(hx.use hf).int_inv,(hy.use hf).int_inv,eqGuard,binOp,Op.intCmp],.bool _⟩
theorem ajQ{k:IntKind}{i j:Int}(hx:EV n f x (.int k i))(hy:EV n f y (.int k j)):
   fe P n ⟨d,.binOp .geq T x y T',T'',ps,af,none⟩ f H ((.bool (decide (j<=i)))):=
 fun ρ _ a _ hf=>⟨_,by simp[execOp,(hx.use hf).int_inv,(hy.use hf).int_inv,eqGuard,binOp,Op.intCmp],.bool _⟩
theorem Jw{k:IntKind}{i j:Int}(hx:EV n f x (.int k i))(hy:EV n f y (.int k j)):
   fe P n ⟨d,.binOp .eql T x y T',T'',ps,af,none⟩ f H ((.bool (i==j))):=
 fun ρ _ a _ hf=>⟨_,by simp[execOp,(hx.use hf).int_inv,(hy.use hf).int_inv,eqGuard,binOp,Op.intCmp],.bool _⟩
theorem ajR{k:IntKind}{i j:Int}(hx:EV n f x (.int k i))(hy:EV n f y (.int k j)):
   fe P n ⟨d,.binOp .neq T x y T',T'',ps,af,none⟩ f H ((.bool (i !=j))):=
 fun ρ _ a _ hf=>⟨_,by simp[execOp,(hx.use hf).int_inv,(hy.use hf).int_inv,eqGuard,binOp,Op.intCmp],.bool _⟩
theorem avt{k:IntKind}{i j:Int}(hx:EV n f x (.int k i))(hy:EV n f y (.int k j))(hj:j≠0):
   fe P n ⟨d,.binOp .rem T x y T',T'',ps,af,none⟩ f H ((.int k (i.tmod j))):=
 fun ρ _ a _ hf=>⟨_,by simp[execOp,(hx.use hf).int_inv,(hy.use hf).int_inv,eqGuard,binOp,Op.intDiv,hj],.int _ _⟩
theorem ajS{k:IntKind}{i j:Int}(hx:EV n f x (.int k i))(hy:EV n f y (.int k j))(hj:j≠0):
   fe P n ⟨d,.binOp .quo T x y T',T'',ps,af,none⟩ f H ((.int k (k.wrap (i.tdiv j)))):=
 fun ρ _ a _ hf=>⟨_,by simp[execOp,(hx.use hf).int_inv,(hy.use hf).int_inv,eqGuard,binOp,Op.intDiv,hj],.int _ _⟩
theorem RD{b:Bool}(hx:EV n f x (.bool b)):
   fe P n ⟨d,.unOp .not T x,T',ps,af,none⟩ f H ((.bool (!b))):=
 fun ρ _ a _ hf=>⟨_,by simp[execOp,(hx.use hf).bool_inv,Op.unary],.bool _⟩
theorem oo{l:List Value}{i:Nat}{v:Value}(hx:EV n f x (.tuple l.toArray))(hi:l[i]?=some v):
   fe P n ⟨d,.extract x i,T,ps,af,none⟩ f H (v):=
 fun ρ _ a _ hf=>by
   obtain⟨b,hb,hr⟩:=(hx.use hf).tuple_inv
   obtain⟨c,hc,hv⟩:=hr.get i v hi
   exact⟨c,by simp[execOp,hb,Instr.extract,hc],hv⟩
end
end Go.Fw
namespace Go.Fw
open Go
def SZ(P:Program) [b_ P](t:TypeId)(s:Nat):Prop:=(P.info? t).map (·.size)=some s
def BY(P:Program) [b_ P](t:TypeId)(s:Nat):Prop:=(P.info? t).map (·.bytes)=some s
def AG(P:Program) [b_ P](t:TypeId)(b:Bool):Prop:=(P.underlying t).map (fun d=>match d with| .struct _| .array _ _=>true|_=>false)=some b
def SL(P:Program) [b_ P](t e:TypeId):Prop:=P.underlying t=some (.slice e)
def FD(P:Program) [b_ P](t:TypeId)(i off:Nat):Prop:=
 (match P.underlying t with|some (.struct fs)=>(fs[i]?).bind (fun d=>((P.info? d.type).map (·.size)).map (fun s=>(d.offset,s !=0)))|_=>none)=some (off,true)
section
variable{P:Program} [b_ P]
theorem SZ.inv{t:TypeId}{s:Nat}(h:SZ P t s):∃i,P.info? t=some i/\i.size=s:=by
 unfold SZ at h
 cases hi:P.info? t with
 |none=>rw[hi]at h; simp at h
 |some i=>rw[hi]at h; exact⟨i,rfl,by simpa using h⟩
theorem BY.inv{t:TypeId}{s:Nat}(h:BY P t s):∃i,P.info? t=some i/\i.bytes=s:=by
 unfold BY at h
 cases hi:P.info? t with
 |none=>rw[hi]at h; simp at h
 |some i=>rw[hi]at h; exact⟨i,rfl,by simpa using h⟩
theorem FD.inv{t:TypeId}{i off:Nat}(h:FD P t i off):∃fs d i0,P.underlying t=some (.struct fs)/\fs[i]?=some d/\P.info? d.type=some i0/\i0.size≠0/\d.offset=off:=by
 unfold FD at h
 cases hu:P.underlying t with
 |none=>rw[hu]at h; simp at h
 |some u=>
   rw[hu]at h
   cases u with
   |struct fs=>
     dsimp only at h
     cases hd:fs[i]? with
     |none=>rw[hd]at h; simp at h
     |some d=>
       rw[hd]at h
       cases hi:P.info? d.type with
       |none=>rw[Option.bind_some,hi]at h; simp at h
       |some i0=>rw[Option.bind_some,hi]at h; simp at h; exact⟨fs,d,i0,rfl,hd,hi,h.2,h.1⟩
   |_=>simp at h
theorem SZ.run{t:TypeId}{s:Nat}(h:SZ P t s)(w:World):(sizeOf t).run P w= .ok s w:=by
 obtain⟨i,hi,rfl⟩:=h.inv
 simp[sizeOf,typeInfo,hi]
theorem SZ.cells{t:TypeId}{s:Nat}(h:SZ P t s):P.cellsOf t=s:=by
 obtain⟨i,hi,rfl⟩:=h.inv
 simp[Program.cellsOf,hi]
theorem SL.run{t e:TypeId}(h:SL P t e)(w:World):(underlying t).run P w= .ok (.slice e) w:=by
 have h':P.underlying t=some (.slice e):=h
 simp[underlying,h']
theorem AG.run{t:TypeId}{b:Bool}(h:AG P t b)(w:World):(isAgg t).run P w= .ok b w:=by
 unfold AG at h
 cases hu:P.underlying t with
 |none=>rw[hu]at h; simp at h
 |some u=>
   rw[hu]at h
   cases u<;>simp at h<;>simp[isAgg,underlying,hu,←h]
end
theorem addr_add(b o n:Nat):Addr.add ⟨b,o,none⟩ n=⟨b,o+n,none⟩:=by
 unfold Addr.add; split
 · subst_vars; rfl
 · rfl
section
variable{P:Program} [b_ P]{ρ:dR}{H:aB}{w:World}
theorem Rel.at{k:Nat}{b:fE}(h:Rel P ρ H w)(hk:H[k]?=some (some b))(hn:ρ k≠none):∃L,ρ k=some (some L)/\wN P ρ L b w:=by
 cases hp:ρ k with
 |none=>exact absurd hp hn
 |some o=>
   cases o with
   |none=>exact absurd hp (h.alive k b hk)
   |some L=>
     obtain⟨b',hb,hr⟩:=h.blk k L hp
     rw[hk]at hb
     have:b=b':=by simpa using hb
     subst this
     exact⟨L,rfl,hr⟩
theorem dh.ptr_inv{k i j:Nat}{b:fE}{c:Value}(hr:Rel P ρ H w)(hk:H[k]?=some (some b))(h:dh ρ (.pointer (some ⟨k,i,some j⟩)) c):
   ∃L,ρ k=some (some L)/\wN P ρ L b w/\c= .pointer (some ⟨L.blk,L.off+i*L.sz+j,none⟩):=by
 cases h with
 |ptr _ _ _ L hl=>
   obtain⟨L',hl',hb⟩:=hr.at hk (by rw[hl]; simp)
   rw[hl]at hl'
   have:L=L':=by simpa using hl'
   subst this
   exact⟨L,hl,hb,rfl⟩
 |ptrDead _ _ _ p hl=>exact absurd hl (hr.alive k b hk)
theorem dh.slice_inv{k i n m:Nat}{b:fE}{c:Value}(hr:Rel P ρ H w)(hk:H[k]?=some (some b))(h:dh ρ (.slice (some ⟨k,i,none⟩) n m) c):
   ∃L p cap,ρ k=some (some L)/\wN P ρ L b w/\c= .slice (some p) n cap/\n<=cap/\(m=1->cap=n/\n<=L.cap)/\
     (2<=m->i=0/\L.own=true/\cap<=L.cap/\p=⟨L.blk,L.off,none⟩/\(3<=m->cap+3=m))/\(n≠0->p=⟨L.blk,L.off+i*L.sz,none⟩):=by
 cases h with
 |slice _ _ _ _ L p cap hl hc h1 h2 hp=>
   obtain⟨L',hl',hb⟩:=hr.at hk (by rw[hl]; simp)
   rw[hl]at hl'
   have:L=L':=by simpa using hl'
   subst this
   exact⟨L,p,cap,hl,hb,rfl,hc,h1,h2,fun h=>(hp h).1⟩
 |sliceDead _ _ _ _ p cap hl=>exact absurd hl (hr.alive k b hk)
theorem dh.slice_ext{k i n m:Nat}{b:fE}{c:Value}(hr:Rel P ρ H w)(hk:H[k]?=some (some b))(h:dh ρ (.slice (some ⟨k,i,none⟩) n m) c)(hn:n≠0):∃L,ρ k=some (some L)/\(L.own=true->i+n<=L.cap):=by
 cases h with
 |slice _ _ _ _ L p cap hl hc h1 h2 hp=>exact⟨L,hl,(hp hn).2⟩
 |sliceDead _ _ _ _ p cap hl=>exact absurd hl (hr.alive k b hk)
theorem dh.cells{v c:Value}(h:dh ρ v c):bP ρ v.cells.toList c.cells.toList:=by
 have h0:=h
 cases h with
 |agg a a' h=>exact h
 |_=>exact .cons _ _ _ _ h0 .nil
theorem Js{w:World}{b o:Nat}{cs:Array Value}{t:TypeId}{fr:Nat×Nat}(h:w.heap[b]?=some (.cells cs t fr)):w.cell? ⟨b,o,none⟩=cs[o]?:=by
 simp[World.cell?,h]
theorem run_loadCellsFrom(P:Program) [b_ P]{w:World}{b o:Nat}{cs:Array Value}{t:TypeId}{fr:Nat×Nat}(h:w.heap[b]?=some (.cells cs t fr)):
   ∀(n i:Nat)(acc:Array Value),o+i+n<=cs.size->(loadCellsFrom ⟨b,o,none⟩ i n acc).run P w= .ok (acc++((cs.toList.drop (o+i)).take n).toArray) w:=by
 intro n
 induction n with
 |zero=>intro i acc _; simp[loadCellsFrom]
 |succ n ih=>
   intro i acc hle
   have hlt:o+i<cs.size:=by omega
   have hc:w.cell? (Addr.add ⟨b,o,none⟩ i)=some cs[o+i]:=by
     rw[addr_add,Js h]; simp[hlt]
   have:=ih (i+1) (acc.push cs[o+i]) (by omega)
   simp only[loadCellsFrom]
   have hd:cs.toList.drop (o+i)=cs[o+i]::cs.toList.drop (o+i+1):=by
     rw[List.drop_eq_getElem_cons (by simpa using hlt)]; simp
   rw[hd]
   simp only[load,bind,Sem.bind,Sem.run,hc]
   rw[this]
   simp[Nat.add_assoc]
theorem run_loadCells(P:Program) [b_ P]{w:World}{b o:Nat}{cs:Array Value}{t:TypeId}{fr:Nat×Nat}(h:w.heap[b]?=some (.cells cs t fr))(n:Nat)(hle:o+n<=cs.size):
   (loadCells ⟨b,o,none⟩ n).run P w= .ok ((cs.toList.drop o).take n).toArray w:=by
 have:=run_loadCellsFrom P (o:=o) h n 0 #[] (by omega)
 simpa[loadCells]using this
theorem wN.part{L:Loc}{b:fE}{i j s:Nat}{e:Value}(h:wN P ρ L b w)(he:b.elems[i]?=some e)(hs:j+s<=e.cells.size)(hs0:0<s):
   ∃cs t fr,w.heap[L.blk]?=some (.cells cs t fr)/\L.off+i*L.sz+j+s<=cs.size/\bP ρ ((e.cells.toList.drop j).take s) ((cs.toList.drop (L.off+i*L.sz+j)).take s):=by
 obtain⟨cs,ct,fr,hh,hel,-⟩:=h.cells
 have hr:=(hel i e he).2
 have hlen:=hr.length
 simp only[List.length_take,List.length_drop,Array.length_toList]at hlen
 refine⟨cs,_,fr,hh,by omega,?_⟩
 have:=(hr.drop j).take s
 rw[List.drop_take,List.take_take,List.drop_drop]at this
 rw[Nat.min_eq_left (by omega)]at this
 exact this
end
section
variable{P:Program} [b_ P]{n:Nat}{f:Fr}{H:aB}{A:Array Oper}{r:List Oper}{K:Fr->aB->Prop}{d:Option Tmp}{x y z:Operand}{T T' T'':TypeId}{ps:String}{af:Array Edge}
theorem gU{k i j fi off:Nat}(hF:FD P T fi off)(hx:EV n f x (.pointer (some ⟨k,i,some j⟩))):
   fe P n ⟨d,.fieldAddr T x fi,T',ps,af,none⟩ f H ((.pointer (some ⟨k,i,some (j+off)⟩))):=
 fun ρ w a _ hf=>by
   obtain⟨fs,fd,i0,hu,hfd,hi0,hsz,hoff⟩:=hF.inv
   generalize hc:a.eval x=c
   have hr:=hx.use hf
   rw[hc]at hr
   have hrun:∀ad:Addr,c= .pointer (some ad)->(execOp a.eval ⟨d,.fieldAddr T x fi,T',ps,af,none⟩).run P w= .ok (.value (.pointer (some (ad.add fd.offset)))) w:=by
     intro ad he
     simp[execOp,hc,he,Instr.fieldAt,Instr.sureAddr,underlying,hu,hfd,fieldPlace,sizeOf,typeInfo,hi0,hsz]
   cases hr with
   |ptr _ _ _ L hl=>exact⟨_,hrun _ rfl,by rw[addr_add,hoff,Nat.add_assoc]; exact .ptr k i (j+off) L hl⟩
   |ptrDead _ _ _ p hl=>exact⟨_,hrun _ rfl,.ptrDead k i _ _ hl⟩
theorem aaP{E:TypeId}{s k i0 len m:Nat}{kk:IntKind}{i:Int}{b:fE}(hT:SL P T E)(hs:SZ P E s)(hx:EV n f x (.slice (some ⟨k,i0,none⟩) len m))(hy:EV n f y (.int kk i))
   (hk:H[k]?=some (some b)) (hb:b.ty=E) (h0:0<=i) (h1:i<len):
   fe P n ⟨d,.indexAddr T x y,T',ps,af,none⟩ f H ((.pointer (some ⟨k,i0+i.toNat,some 0⟩))):=
 fun ρ w a hr hf=>by
   obtain⟨L,p,cap,hl,hbr,hc,-,-,-,hp⟩:=(hx.use hf).slice_inv hr hk
   have hi:=(hy.use hf).int_inv
   have hp':=hp (by omega)
   have hsz:L.sz=s:=by rw[←hbr.sz,hb,hs.cells]
   refine⟨.pointer (some (p.add (i.toNat*s))),?_,?_⟩
   · have hu:P.underlying T=some (.slice E):=hT
     simp[execOp,hc,hi,Instr.indexAt,asIntOf,underlying,hu,SZ.run hs,h0,h1]
   · rw[hp',addr_add,←hsz]
     have:=dh.ptr (ρ:=ρ) k (i0+i.toNat) 0 L hl
     simpa[Nat.add_mul,Nat.add_assoc]using this
theorem fI{k i j:Nat}{b:fE}{e v:Value}(hA:AG P T false)(hx:EV n f x (.pointer (some ⟨k,i,some j⟩)))(hk:H[k]?=some (some b))(he:b.elems[i]?=some e)
   (hv:e.cells.toList[j]?=some v):
   fe P n ⟨d,.load T x,T',ps,af,none⟩ f H (v):=
 fun ρ w a hr hf=>by
   obtain⟨L,hl,hbr,hc⟩:=(hx.use hf).ptr_inv hr hk
   have hj:j<e.cells.size:=by
     rcases Nat.lt_or_ge j e.cells.size with h|h
     · exact h
     · simp[h]at hv
   obtain⟨cs,t,fr,hh,hle,hrel⟩:=hbr.part he (s:=1) (j:=j) (by omega) (by omega)
   have h1:((e.cells.toList.drop j).take 1)[0]?=some v:=by simpa[List.getElem?_take]using hv
   obtain⟨c,hc',hvc⟩:=hrel.get 0 v h1
   refine⟨c,?_,hvc⟩
   have hcell:w.cell? ⟨L.blk,L.off+i*L.sz+j,none⟩=some c:=by
     rw[Js hh]
     simpa[List.getElem?_take]using hc'
   simp[execOp,hc,Instr.loadAt,Instr.sureAddr,loadVar,AG.run hA,load,Sem.run,hcell]
theorem Fg{k i j s:Nat}{b:fE}{e:Value}{l:List Value}(hA:AG P T true)(hs:SZ P T s)(hx:EV n f x (.pointer (some ⟨k,i,some j⟩)))(hk:H[k]?=some (some b))(he:b.elems[i]?=some e)
   (hs0:0<s) (hj:j+s<=e.cells.size) (hv:(e.cells.toList.drop j).take s=l):
   fe P n ⟨d,.load T x,T',ps,af,none⟩ f H ((.agg l.toArray)):=
 fun ρ w a hr hf=>by
   obtain⟨L,hl,hbr,hc⟩:=(hx.use hf).ptr_inv hr hk
   obtain⟨cs,t,fr,hh,hle,hrel⟩:=hbr.part he (s:=s) (j:=j) hj hs0
   refine⟨.agg ((cs.toList.drop (L.off+i*L.sz+j)).take s).toArray,?_,.agg _ _ (by rw[←hv]; exact hrel)⟩
   have:=run_loadCells P hh s hle
   simp[execOp,hc,Instr.loadAt,Instr.sureAddr,loadVar,AG.run hA,SZ.run hs,this]
end
end Go.Fw
namespace Go.Fw
open Go
def lJ(ρ:dR)(k:Nat)(o:Option Loc):dR:=fun k'=>if k'=k then some o else ρ k'
theorem g_(ρ:dR)(k:Nat)(o:Option Loc):lJ ρ k o k=some o:=by simp[lJ]
theorem eX(ρ:dR){k k':Nat}(o:Option Loc)(h:k'≠k):lJ ρ k o k'=ρ k':=by simp[lJ,h]
section
variable{P:Program} [b_ P]{ρ:dR}{H:aB}{w:World}
theorem Rel.lt{k:Nat}{L:Loc}(h:Rel P ρ H w)(hk:ρ k=some (some L)):L.blk<w.heap.size:=by
 obtain⟨b,-,hb⟩:=h.blk k L hk
 obtain⟨cs,ct,fr,hh,-⟩:=hb.cells
 rcases Nat.lt_or_ge L.blk w.heap.size with h|h
 · exact h
 · simp[h]at hh
theorem wN.of_same{ρ':dR}{L:Loc}{b:fE}{w':World}(hu:Up ρ ρ')(hw:w'.heap[L.blk]?=w.heap[L.blk]?)(h:wN P ρ L b w):wN P ρ' L b w':=by
 obtain⟨ho,hs,cs,ct,fr,hh,he,hr⟩:=h
 exact⟨ho,hs,cs,ct,fr,by rw[hw]; exact hh,fun i e hi=>⟨(he i e hi).1,(he i e hi).2.up hu⟩,hr⟩
theorem Rel.push{w':World}{cs:Array Value}{ty:TypeId}{es:List Value}{sz cap:Nat}{g:Bool}(h:Rel P ρ H w)(hh:w'.heap=w.heap.push (.cells cs ty (0,0)))
   (hs:P.cellsOf ty=sz) (he:∀(i:Nat) e,es[i]?=some e->e.cells.size=sz/\bP ρ e.cells.toList ((cs.toList.drop (i*sz)).take sz)) (hc:cap*sz<=cs.size) (hl:es.length<=cap):
   Rel P (lJ ρ H.length (some ⟨w.heap.size,0,sz,cap,true⟩)) (H++[some ⟨es,ty,true,g⟩]) w':=by
 have hu:Up ρ (lJ ρ H.length (some ⟨w.heap.size,0,sz,cap,true⟩)):=by
   intro k
   by_cases e:k=H.length
   · subst e; exact .inl (h.dom _ (Nat.le_refl _))
   · exact .inr (.inl (eX _ _ e))
 constructor
 · intro k L hk
   by_cases e:k=H.length
   · subst e
     rw[g_]at hk
     obtain rfl:_=L:=by simpa using hk
     refine⟨⟨es,ty,true,g⟩,by simp,rfl,hs,cs,ty,(0,0),by rw[hh]; simp,?_,?_⟩
     · intro i e hi
       have:=(he i e hi).2.up hu
       exact⟨(he i e hi).1,by simpa using this⟩
     · intro _
       exact⟨rfl,hc,hl,fun o _ hx=>by simp at hx,rfl⟩
   · rw[eX _ _ e]at hk
     obtain⟨b,hb,hr⟩:=h.blk k L hk
     have hlt:=h.lt hk
     have hkl:k<H.length:=by
       rcases Nat.lt_or_ge k H.length with h|h
       · exact h
       · simp[h]at hb
     refine⟨b,by rw[List.getElem?_append_left hkl]; exact hb,hr.of_same hu ?_⟩
     rw[hh,Array.getElem?_push,if_neg (by omega)]
 · intro k b hb hk
   by_cases e:k=H.length
   · subst e; rw[g_]at hk; simp at hk
   · rw[eX _ _ e]at hk
     have hkl:k<H.length:=by
       rcases Nat.lt_or_ge k (H++[some (⟨es,ty,true,g⟩:fE)]).length with h|h
       · simp at h; omega
       · simp[List.getElem?_eq_none h]at hb
     rw[List.getElem?_append_left hkl]at hb
     exact h.alive k b hb hk
 · intro k hk
   simp at hk
   rw[eX _ _ (by omega)]
   exact h.dom k (by omega)
 · intro k k' L L' hk hk' ho hb
   by_cases e:k=H.length<;>by_cases e':k'=H.length
   · rw[e,e']
   · subst e
     rw[g_]at hk; rw[eX _ _ e']at hk'
     obtain rfl:_=L:=by simpa using hk
     have:=h.lt hk'
     simp at hb; omega
   · subst e'
     rw[g_]at hk'; rw[eX _ _ e]at hk
     obtain rfl:_=L':=by simpa using hk'
     have:=h.lt hk
     simp at hb; omega
   · rw[eX _ _ e]at hk; rw[eX _ _ e']at hk'
     exact h.inj k k' L L' hk hk' ho hb
 · refine h.vok.keep (by rw[hh]; simp) (fun b hb _=>by rw[hh,Array.getElem?_push,if_neg (by omega)]) fun k L hk _=>?_
   by_cases e:k=H.length
   · subst e
     rw[g_]at hk
     obtain rfl:_=L:=by simpa using hk
     exact .inr (.inl (Nat.le_refl _))
   · rw[eX _ _ e]at hk; exact .inl hk
theorem Step.push{w':World}{o:Obj}{b:fE}{sz cap:Nat}(h:Rel P ρ H w)(hh:w'.heap=w.heap.push o)(h1:w'.os=w.os)(h2:w'.output=w.output)(h3:w'.tape=w.tape):
   Step ρ H w (lJ ρ H.length (some ⟨w.heap.size,0,sz,cap,true⟩)) (H++[some b]) w' where
 up k:=by
   by_cases e:k=H.length
   · subst e; exact .inl (h.dom _ (Nat.le_refl _))
   · exact .inr (.inl (eX _ _ e))
 os:=h1
 output:=h2
 tape:=h3
 size:=by rw[hh]; simp
 frame b hb _:=by rw[hh,Array.getElem?_push,if_neg (by omega)]
 fresh k L hk:=by
   by_cases e:k=H.length
   · subst e
     rw[g_]at hk
     obtain rfl:_=L:=by simpa using hk
     exact .inr ⟨rfl,.inl (Nat.le_refl _)⟩
   · rw[eX _ _ e]at hk; exact .inl hk
 len:=by simp
 hold k hk hn:=⟨by rw[eX _ _ (by omega)]; exact hn,by rw[List.getElem?_append_left hk]⟩
theorem Rel.kill{k:Nat}(h:Rel P ρ H w)(hk:ρ k≠none):Rel P (lJ ρ k none) (H.set k none) w:=by
 have hu:Up ρ (lJ ρ k none):=by
   intro k'
   by_cases e:k'=k
   · subst e; exact .inr (.inr (g_ _ _ _))
   · exact .inr (.inl (eX _ _ e))
 constructor
 · intro k' L hk'
   by_cases e:k'=k
   · subst e; rw[g_]at hk'; simp at hk'
   · rw[eX _ _ e]at hk'
     obtain⟨b,hb,hr⟩:=h.blk k' L hk'
     exact⟨b,by rw[List.getElem?_set_ne (Ne.symm e)]; exact hb,hr.of_same hu rfl⟩
 · intro k' b hb hk'
   by_cases e:k'=k
   · subst e
     simp[List.getElem?_set]at hb
   · rw[eX _ _ e]at hk'
     rw[List.getElem?_set_ne (Ne.symm e)]at hb
     exact h.alive k' b hb hk'
 · intro k' hk'
   simp at hk'
   by_cases e:k'=k
   · subst e; exact absurd (h.dom _ hk') hk
   · rw[eX _ _ e]; exact h.dom k' hk'
 · intro k1 k2 L L' h1 h2 ho hb
   by_cases e1:k1=k
   · subst e1; rw[g_]at h1; simp at h1
   · by_cases e2:k2=k
     · subst e2; rw[g_]at h2; simp at h2
     · rw[eX _ _ e1]at h1; rw[eX _ _ e2]at h2
       exact h.inj k1 k2 L L' h1 h2 ho hb
 · refine h.vok.keep (Nat.le_refl _) (fun _ _ _=>rfl) fun k' L hk' _=>?_
   by_cases e:k'=k
   · subst e; rw[g_]at hk'; simp at hk'
   · rw[eX _ _ e]at hk'; exact .inl hk'
theorem Step.kill{k:Nat}(hk:ρ k≠none):Step ρ H w (lJ ρ k none) (H.set k none) w where
 up k':=by
   by_cases e:k'=k
   · subst e; exact .inr (.inr (g_ _ _ _))
   · exact .inr (.inl (eX _ _ e))
 os:=rfl
 output:=rfl
 tape:=rfl
 size:=Nat.le_refl _
 frame _ _ _:=rfl
 fresh k' L h:=by
   by_cases e:k'=k
   · subst e; rw[g_]at h; simp at h
   · rw[eX _ _ e]at h; exact .inl h
 len:=by simp
 hold k' _ hn:=by
   have e:k'≠k:=fun e=>hk (e ▸ hn)
   exact⟨by rw[eX _ _ e]; exact hn,by rw[List.getElem?_set_ne (Ne.symm e)]⟩
theorem Rel.of_heap{w':World}(h:Rel P ρ H w)(hw:w'.heap=w.heap):Rel P ρ H w':=
 ⟨fun k L hk=>by
   obtain⟨b,hb,hr⟩:=h.blk k L hk
   exact⟨b,hb,hr.of_same (Up.refl ρ) (by rw[hw])⟩,h.alive,h.dom,h.inj,h.vok.keep (by rw[hw]; exact Nat.le_refl _) (fun b _ _=>by rw[hw]) fun _ _ hk _=>.inl hk⟩
theorem Rel.write{w':World}{k:Nat}{L:Loc}{b b':fE}{cs':Array Value}{fr:Nat×Nat}(h:Rel P ρ H w)(hk:ρ k=some (some L))(ho:L.own=true)
   (hw:w'.heap=w.heap.setIfInBounds L.blk (.cells cs' b.ty fr)) (hty:b'.ty=b.ty) (hown:b'.own=true) (hs:P.cellsOf b.ty=L.sz)
   (he:∀(i:Nat) e,b'.elems[i]?=some e->e.cells.size=L.sz/\bP ρ e.cells.toList ((cs'.toList.drop (L.off+i*L.sz)).take L.sz))
   (hc:L.off=0/\L.cap*L.sz<=cs'.size/\b'.elems.length<=L.cap/\ ∀o,o<=cs'.size-> ¬ (fr.1<=o/\o<fr.2)):
   Rel P ρ (H.set k (some b')) w':=by
 have hlt:=h.lt hk
 have hkl:k<H.length:=by
   rcases Nat.lt_or_ge k H.length with h'|h'
   · exact h'
   · rw[h.dom k h']at hk; simp at hk
 constructor
 · intro k' L' hk'
   by_cases e:k'=k
   · subst e
     rw[hk]at hk'
     obtain rfl:L=L':=by simpa using hk'
     refine⟨b',by simp[hkl],by rw[hown,ho],by rw[hty,hs],cs',b.ty,fr,?_,he,fun _=>⟨hc.1,hc.2.1,hc.2.2.1,hc.2.2.2,hty.symm⟩⟩
     rw[hw]; simp[hlt]
   · obtain⟨b0,hb0,hr0⟩:=h.blk k' L' hk'
     refine⟨b0,by rw[List.getElem?_set_ne (Ne.symm e)]; exact hb0,hr0.of_same (Up.refl ρ) ?_⟩
     have hne:L.blk≠L'.blk:=fun hb=>e (h.inj k k' L L' hk hk' ho hb).symm
     rw[hw,Array.getElem?_setIfInBounds_ne hne]
 · intro k' b0 hb0 hk'
   by_cases e:k'=k
   · subst e; rw[hk]at hk'; simp at hk'
   · rw[List.getElem?_set_ne (Ne.symm e)]at hb0; exact h.alive k' b0 hb0 hk'
 · intro k' hk'; exact h.dom k' (by simpa using hk')
 · exact h.inj
 · exact h.vok.keep (by rw[hw]; simp) (fun b _ hn=>by rw[hw,Array.getElem?_setIfInBounds_ne (hn k L hk ho)]) fun _ _ hk _=>.inl hk
theorem Step.write{w':World}{k:Nat}{L:Loc}{o:Obj}{x:Option fE}(hk:ρ k=some (some L))(ho:L.own=true)
   (hw:w'.heap=w.heap.setIfInBounds L.blk o) (h1:w'.os=w.os) (h2:w'.output=w.output) (h3:w'.tape=w.tape):Step ρ H w ρ (H.set k x) w' where
 up:=Up.refl ρ
 os:=h1
 output:=h2
 tape:=h3
 size:=by rw[hw]; simp
 frame b _ hn:=by
   have hne:L.blk≠b:=hn k L hk ho
   rw[hw,Array.getElem?_setIfInBounds_ne hne]
 fresh _ _ h:=.inl h
 len:=by simp
 hold k' _ hn:=by
   have e:k'≠k:=fun e=>by subst e; rw[hk]at hn; simp at hn
   exact⟨hn,by rw[List.getElem?_set_ne (Ne.symm e)]⟩
theorem Rel.add{L:Loc}{b:fE}{w':World}(h:Rel P ρ H w)(hb:wN P ρ L b w')(hfree:∀k L',ρ k=some (some L')->L'.blk≠L.blk)
   (hsame:∀k L',ρ k=some (some L')->w'.heap[L'.blk]?=w.heap[L'.blk]?) (hv:xq P (lJ ρ H.length (some L)) w'):Rel P (lJ ρ H.length (some L)) (H++[some b]) w':=by
 have hu:Up ρ (lJ ρ H.length (some L)):=by
   intro k
   by_cases e:k=H.length
   · subst e; exact .inl (h.dom _ (Nat.le_refl _))
   · exact .inr (.inl (eX _ _ e))
 have hlt:∀(k:Nat) b0,H[k]?=some (some b0)->k<H.length:=by
   intro k b0 hk
   rcases Nat.lt_or_ge k H.length with h|h
   · exact h
   · simp[List.getElem?_eq_none h]at hk
 constructor
 · intro k L' hk
   by_cases e:k=H.length
   · subst e
     rw[g_]at hk
     obtain rfl:L=L':=by simpa using hk
     exact⟨b,by simp,hb.of_same hu rfl⟩
   · rw[eX _ _ e]at hk
     obtain⟨b0,hb0,hr⟩:=h.blk k L' hk
     exact⟨b0,by rw[List.getElem?_append_left (hlt k b0 hb0)]; exact hb0,hr.of_same hu (hsame k L' hk)⟩
 · intro k b0 hb0 hk
   by_cases e:k=H.length
   · subst e; rw[g_]at hk; simp at hk
   · rw[eX _ _ e]at hk
     have hkl:k<H.length:=by
       rcases Nat.lt_or_ge k (H++[some b]).length with h|h
       · simp at h; omega
       · simp[List.getElem?_eq_none h]at hb0
     rw[List.getElem?_append_left hkl]at hb0
     exact h.alive k b0 hb0 hk
 · intro k hk
   simp at hk
   rw[eX _ _ (by omega)]
   exact h.dom k (by omega)
 · intro k k' L1 L2 hk hk' ho hbb
   by_cases e:k=H.length<;>by_cases e':k'=H.length
   · rw[e,e']
   · subst e
     rw[g_]at hk; rw[eX _ _ e']at hk'
     obtain rfl:L=L1:=by simpa using hk
     exact absurd hbb.symm (hfree k' L2 hk')
   · subst e'
     rw[g_]at hk'; rw[eX _ _ e]at hk
     obtain rfl:L=L2:=by simpa using hk'
     exact absurd hbb (hfree k L1 hk)
   · rw[eX _ _ e]at hk; rw[eX _ _ e']at hk'
     exact h.inj k k' L1 L2 hk hk' ho hbb
 · exact hv
theorem Step.move{k:Nat}{L L':Loc}{o:Obj}{b:fE}{w':World}(h:Rel P ρ H w)(hk:ρ k=some (some L))(ho:L.own=true)(ho':L'.own=true)(hbl:L'.blk=L.blk)
   (hw:w'.heap=w.heap.setIfInBounds L.blk o) (h1:w'.os=w.os) (h2:w'.output=w.output) (h3:w'.tape=w.tape):
   Step ρ H w (lJ (lJ ρ k none) H.length (some L')) (H.set k none++[some b]) w':=by
 have hkl:k<H.length:=by
   rcases Nat.lt_or_ge k H.length with h'|h'
   · exact h'
   · rw[h.dom k h']at hk; simp at hk
 constructor
 · intro k'
   by_cases e:k'=H.length
   · subst e; exact .inl (h.dom _ (Nat.le_refl _))
   · by_cases e2:k'=k
     · subst e2; exact .inr (.inr (by rw[eX _ _ e,g_]))
     · exact .inr (.inl (by rw[eX _ _ e,eX _ _ e2]))
 · exact h1
 · exact h2
 · exact h3
 · rw[hw]; simp
 · intro b _ hn
   have hne:L.blk≠b:=hn k L hk ho
   rw[hw,Array.getElem?_setIfInBounds_ne hne]
 · intro k' L0 hk'
   by_cases e:k'=H.length
   · subst e
     rw[g_]at hk'
     obtain rfl:L'=L0:=by simpa using hk'
     exact .inr ⟨ho',.inr ⟨k,L,hk,ho,hbl.symm⟩⟩
   · rw[eX _ _ e]at hk'
     by_cases e2:k'=k
     · subst e2; rw[g_]at hk'; simp at hk'
     · rw[eX _ _ e2]at hk'; exact .inl hk'
 · simp
 · intro k' hk' hn
   have e2:k'≠k:=fun e=>by subst e; rw[hk]at hn; simp at hn
   exact⟨by rw[eX _ _ (by omega),eX _ _ e2]; exact hn,by rw[List.getElem?_append_left (by simpa using hk'),List.getElem?_set_ne (Ne.symm e2)]⟩
end
end Go.Fw
namespace Go.Fw
open Go
def splice{α:Type}(l:List α)(p:Nat)(vs:List α):List α:=l.take p++vs++l.drop (p+vs.length)
theorem Ir{α:Type}(l:List α)(p:Nat)(vs:List α)(h:p+vs.length<=l.length):(splice l p vs).length=l.length:=by
 simp[splice]; omega
theorem agV{α:Type}(l:List α)(p:Nat):splice l p []=l:=by simp[splice]
theorem ags{α:Type}(l:List α)(p:Nat)(v:α)(vs:List α)(h:p<l.length):splice (l.set p v) (p+1) vs=splice l p (v::vs):=by
 simp only[splice,List.length_cons]
 rw[List.take_set,List.drop_set_of_lt (by omega)]
 have e1:(l.take (p+1)).set p v=l.take p++[v]:=by
   rw[List.take_succ_eq_append_getElem h,List.set_append_right _ _ (by simp; omega)]
   simp[Nat.min_eq_left (Nat.le_of_lt h)]
 rw[e1]
 have e2:p+1+vs.length=p+(vs.length+1):=by omega
 rw[e2]; simp
def scal:Value->Bool
 | .agg _=>false
 | .tuple _=>false
 |_=>true
theorem dh.scal{ρ:dR}{v c:Value}(h:dh ρ v c):scal c=scal v:=by cases h<;>rfl
theorem V9(P:Program) [b_ P]{b o:Nat}{t:TypeId}{fr:Nat×Nat}:∀(vs:List Value)(i:Nat)(cs:Array Value)(w:World),w.heap[b]?=some (.cells cs t fr)->
   (∀q,q<cs.size-> ¬ (fr.1<=q/\q<fr.2))->(∀v∈vs,scal v=true)->o+i+vs.length<=cs.size->
   ∃w',(storeCells ⟨b,o,none⟩ vs i).run P w= .ok () w'/\w'.heap=w.heap.setIfInBounds b (.cells (splice cs.toList (o+i) vs).toArray t fr)/\w'.os=w.os/\w'.output=w.output/\w'.tape=w.tape:=by
 intro vs
 induction vs with
 |nil=>
   intro i cs w hh _ _ _
   refine⟨w,by simp[storeCells],?_,rfl,rfl,rfl⟩
   rw[agV]
   have hlt:b<w.heap.size:=by
     rcases Nat.lt_or_ge b w.heap.size with h|h
     · exact h
     · simp[h]at hh
   apply Array.ext_getElem?
   intro j
   by_cases e:b=j
   · subst e; simp[(Array.getElem?_eq_some_iff.1 hh).2,hlt]
   · rw[Array.getElem?_setIfInBounds_ne e]
 |cons v vs ih=>
   intro i cs w hh hf hs hle
   simp only[List.length_cons]at hle
   have hlt:o+i<cs.size:=by omega
   have hcell:w.cell? ⟨b,o+i,none⟩=some cs[o+i]:=by rw[Js hh]; simp[hlt]
   have hfz:w.frozen? ⟨b,o+i,none⟩=false:=by
     have:=hf (o+i) hlt
     simp only[World.frozen?,hh]
     simp; omega
   have hset:(w.setCell ⟨b,o+i,none⟩ v).heap=w.heap.setIfInBounds b (.cells (cs.setIfInBounds (o+i) v) t fr):=by
     apply Array.ext_getElem?
     intro j
     simp only[World.setCell,Array.getElem?_modify]
     by_cases e:b=j
     · subst e
       have hb:b<w.heap.size:=by
         rcases Nat.lt_or_ge b w.heap.size with h|h
         · exact h
         · simp[h]at hh
       simp[(Array.getElem?_eq_some_iff.1 hh).2,hb]
     · rw[if_neg e,Array.getElem?_setIfInBounds_ne e]
   have hb:b<w.heap.size:=by
     rcases Nat.lt_or_ge b w.heap.size with h|h
     · exact h
     · simp[h]at hh
   obtain⟨w',hr,hw',h1,h2,h3⟩:=ih (i+1) (cs.setIfInBounds (o+i) v) (w.setCell ⟨b,o+i,none⟩ v) (by rw[hset]; simp[hb])
     (by simpa using hf) (fun u hu=>hs u (by simp[hu])) (by simp; omega)
   refine⟨w',?_,?_,h1,h2,h3⟩
   · have hsv:=hs v (by simp)
     have hrun:(Sem.store .plain (Addr.add ⟨b,o,none⟩ i) v (.pure ())).run P w= .ok () (w.setCell ⟨b,o+i,none⟩ v):=by
       rw[addr_add]
       cases v<;>simp[scal]at hsv<;>simp[Sem.run,hcell,hfz]
     simp only[storeCells,store]
     simp[hrun,hr]
   · rw[hw',hset]
     have:splice (cs.setIfInBounds (o+i) v).toList (o+(i+1)) vs=splice cs.toList (o+i) (v::vs):=by
       rw[Array.toList_setIfInBounds]
       exact ags _ _ _ _ (by simpa using hlt)
     rw[this]
     simp
def uj(e:Value)(j:Nat)(cs:List Value):Value:=
 match e with
 | .agg xs=>.agg (splice xs.toList j cs).toArray
 |_=>cs.headD e
def closedS:Value->Bool
 | .bool _| .int _ _| .string _| .pointer none| .nilFunc| .nilIface=>true
 | .slice none 0 0=>true
 |_=>false
def zy:Value->Bool
 | .agg xs=>xs.toList.all closedS
 |v=>closedS v
theorem dh.closedS{ρ:dR}{v:Value}(h:closedS v=true):dh ρ v v:=by
 unfold Fw.closedS at h
 split at h<;>first|(constructor; done)|simp at h
theorem dh.closed{ρ:dR}{v:Value}(h:zy v=true):dh ρ v v:=by
 unfold zy at h
 split at h
 · rename_i xs
   have hr:bP ρ xs.toList xs.toList:=by
     refine bP.of_get rfl fun i v c e e'=>?_
     rw[e]at e'
     obtain rfl:v=c:=by simpa using e'
     have hv:v∈xs.toList:=List.mem_of_getElem? e
     exact dh.closedS ((List.all_eq_true.1 h) v hv)
   exact .agg _ _ hr
 · exact dh.closedS h
section
variable{P:Program} [b_ P]{n:Nat}{f:Fr}{H:aB}{A:Array Oper}{r:List Oper}{K:Fr->aB->Prop}{d:Option Tmp}{x y z:Operand}{T T' T'':TypeId}{ps:String}{af:Array Edge}
def xx(P:Program) [b_ P](n:Nat)(o:Oper)(f:Fr)(vk:Nat->Value)(b:fE):Prop:=
 b.own=true/\ ∀ρ (H:aB) w a,Rel P ρ H w->jN ρ n f a-> ∃c cs cap w',(execOp a.eval o).run P w= .ok (.value c) w'/\w'.heap=w.heap.push (.cells cs b.ty (0,0))/\w'.os=w.os/\w'.output=w.output/\w'.tape=w.tape/\
     (∀ρ' k,ρ' k=some (some ⟨w.heap.size,0,P.cellsOf b.ty,cap,true⟩)->dh ρ' (vk k) c)/\
     (∀(i:Nat) e,b.elems[i]?=some e->e.cells.size=P.cellsOf b.ty/\bP ρ e.cells.toList ((cs.toList.drop (i*P.cellsOf b.ty)).take (P.cellsOf b.ty)))/\cap*P.cellsOf b.ty<=cs.size/\b.elems.length<=cap
theorem bP.one_block{ρ:dR}{e c:Value}{s:Nat}(h:dh ρ e c)(hs:e.cells.size=s):
   ∀(i:Nat) e',[e][i]?=some e'->e'.cells.size=s/\bP ρ e'.cells.toList ((c.cells.toList.drop (i*s)).take s):=by
 intro i e' he
 cases i with
 |zero=>
   obtain rfl:e=e':=by simpa using he
   have hl:c.cells.toList.length=s:=by rw[←h.cells.length]; simpa using hs
   refine⟨hs,?_⟩
   rw[Nat.zero_mul,List.drop_zero,List.take_of_length_le (by omega)]; exact h.cells
 |succ i=>simp at he
theorem xx.run{o:Oper}{vk:Nat->Value}{b:fE}(hg:o.guard=none)(hn:xx P n o f vk b)(h:nH P n A r (put f o.dst (vk H.length)) (H++[some b]) K):nH P n A (o::r) f H K:=by
 refine abm (.none hg) ?_
 intro ρ w a K' Q' hr hf hk
 obtain⟨ho,hn⟩:=hn
 obtain⟨c,cs,cap,w',hrun,hh,h1,h2,h3,hval,he,hc,hl⟩:=hn ρ H w a hr hf
 show o.upon P a K' Q' _
 rw[hrun]
 obtain⟨es,ty,ow,g⟩:=b
 obtain rfl:ow=true:=ho
 have hrel:=hr.push (g:=g) hh rfl he hc hl
 have hst:=Step.push (b:=⟨es,ty,true,g⟩) (sz:=P.cellsOf ty) (cap:=cap) hr hh h1 h2 h3
 exact hk _ _ _ _ _ ((hf.up hst.up).put o.dst (hval _ _ (g_ _ _ _))) hrel hst h
theorem ajT{g:Bool}{s:Nat}{v:Value}{gd:Option (Nat×Bool)}(hs:SZ P T s)(hx:EV n f x v)(hv:v.cells.size=s):
   xx P n ⟨d,.box T x,T',ps,af,gd⟩ f (fun k=>.pointer (some ⟨k,0,some 0⟩)) ⟨[v],T,true,g⟩:=by
 refine⟨rfl,fun ρ H w a hr hf=>?_⟩
 have tJ:=hx.use hf
 simp only[hs.cells]
 refine⟨.pointer (some ⟨w.heap.size,0,none⟩),(a.eval x).cells,1,{w with heap:=w.heap.push (.cells (a.eval x).cells T (0,0))},?_,rfl,rfl,rfl,rfl,?_,bP.one_block tJ hv,?_,by simp⟩
 · simp[execOp,Instr.box,newVar,newRow,newObj,Sem.run]
 · intro ρ' k h'
   have:=dh.ptr (ρ:=ρ') k 0 0 _ h'
   simpa using this
 · have:=tJ.cells.length
   simp at this; omega
theorem asG{g:Bool}{s:Nat}{v:Value}{i:TypeInfo}{gd:Option (Nat×Bool)}(hi:P.info? T=some i)(hz:i.zero=some v)(hs:SZ P T s)(hv:v.cells.size=s)(hc:zy v=true):
   xx P n ⟨d,.alloc T,T',ps,af,gd⟩ f (fun k=>.pointer (some ⟨k,0,some 0⟩)) ⟨[v],T,true,g⟩:=by
 refine⟨rfl,fun ρ H w a hr hf=>?_⟩
 have tJ:dh ρ v v:=dh.closed hc
 simp only[hs.cells]
 refine⟨.pointer (some ⟨w.heap.size,0,none⟩),v.cells,1,{w with heap:=w.heap.push (.cells v.cells T (0,0))},?_,rfl,rfl,rfl,rfl,?_,bP.one_block tJ hv,?_,by simp⟩
 · simp[execOp,Instr.alloc,zeroValue,typeInfo,hi,hz,newVar,newRow,newObj,Sem.run]
 · intro ρ' k h'
   have:=dh.ptr (ρ:=ρ') k 0 0 _ h'
   simpa using this
 · omega
end
end Go.Fw
namespace Go.Fw
open Go
theorem aaZ{α:Type}(l:List α)(p:Nat)(vs:List α)(h:p+vs.length<=l.length)(t:Nat):
   (splice l p vs)[t]?=if t<p then l[t]? else if t<p+vs.length then vs[t-p]? else l[t]?:=by
 unfold splice
 have hp:(l.take p).length=p:=by simp; omega
 by_cases h1:t<p
 · rw[if_pos h1,List.append_assoc,List.getElem?_append_left (by omega),List.getElem?_take_of_lt h1]
 · rw[if_neg h1]
   by_cases h2:t<p+vs.length
   · rw[if_pos h2,List.getElem?_append_left (by simp; omega),List.getElem?_append_right (by omega),hp]
   · rw[if_neg h2,List.getElem?_append_right (by simp; omega),List.getElem?_drop]
     congr 1
     simp; omega
theorem af6(e:Value)(j:Nat)(cs:List Value)(h1:cs.all scal=true)(h2:j+cs.length<=e.cells.size)(h0:0<cs.length):
   (uj e j cs).cells.toList=splice e.cells.toList j cs:=by
 cases e with
 |agg xs=>simp[uj,Value.cells]
 |_=>
   simp only[Value.cells,List.size_toArray,List.length_cons,List.length_nil]at h2
   obtain⟨c,hc⟩:∃c,cs=[c]:=List.length_eq_one_iff.1 (by omega)
   subst hc
   have hj:j=0:=by simp at h2; exact h2
   subst hj
   simp only[uj,List.headD_cons]
   cases c<;>simp[scal]at h1<;>rfl
theorem bP.splice{ρ:dR}{a b vs cs:List Value}(p:Nat)(h:bP ρ a b)(h':bP ρ vs cs):bP ρ (splice a p vs) (splice b p cs):=by
 unfold Fw.splice
 rw[h'.length]
 exact ((h.take p).append h').append (h.drop _)
theorem ahc{α:Type}(l:List α)(q m j:Nat)(vs:List α)(h1:j+vs.length<=m)(h2:q+m<=l.length):
   ((splice l (q+j) vs).drop q).take m=splice ((l.drop q).take m) j vs:=by
 apply List.ext_getElem?
 intro t
 have hlen:j+vs.length<=((l.drop q).take m).length:=by simp; omega
 rw[aaZ _ _ _ hlen]
 by_cases ht:t<m
 · rw[List.getElem?_take_of_lt ht,List.getElem?_drop,aaZ _ _ _ (by omega),List.getElem?_take_of_lt ht,List.getElem?_drop]
   by_cases a:t<j
   · rw[if_pos (by omega),if_pos a]
   · rw[if_neg (by omega),if_neg a]
     by_cases b:t<j+vs.length
     · rw[if_pos (by omega),if_pos b]; congr 1; omega
     · rw[if_neg (by omega),if_neg b]
 · rw[if_neg (by omega),if_neg (by omega)]
   simp[List.getElem?_take,ht]
theorem WM{α:Type}(l:List α)(q m p:Nat)(vs:List α)(h:q+m<=p\/p+vs.length<=q)(h2:p+vs.length<=l.length):
   ((splice l p vs).drop q).take m=(l.drop q).take m:=by
 apply List.ext_getElem?
 intro t
 by_cases ht:t<m
 · rw[List.getElem?_take_of_lt ht,List.getElem?_drop,aaZ _ _ _ (by omega),List.getElem?_take_of_lt ht,List.getElem?_drop]
   by_cases a:q+t<p
   · rw[if_pos a]
   · rw[if_neg a,if_neg (by omega)]
 · simp[List.getElem?_take,ht]
section
variable{P:Program} [b_ P]{n:Nat}{f:Fr}{H:aB}{A:Array Oper}{r:List Oper}{K:Fr->aB->Prop}{d:Option Tmp}{x y z:Operand}{T T' T'':TypeId}{ps:String}{af:Array Edge}
theorem abH{k i j s:Nat}{b:fE}{e v:Value}{gd:Option (Nat×Bool)}(hs:SZ P T s)(hx:EV n f x (.pointer (some ⟨k,i,some j⟩)))(hy:EV n f y v)(hk:H[k]?=some (some b))(ho:b.own=true)
   (he:b.elems[i]?=some e) (hv:v.cells.size=s) (hsc:v.cells.toList.all scal=true) (h0:0<s) (hj:j+s<=e.cells.size)
   (h:K (put f d undef) (H.set k (some ⟨b.elems.set i (uj e j v.cells.toList),b.ty,true,b.wr⟩))):
   Dh P n ⟨d,.store T x y,T',ps,af,gd⟩ f H K:=by
 intro ρ w a K' Q' hr hf hkk
 obtain⟨L,hl,hbr,hc⟩:=(hx.use hf).ptr_inv hr hk
 have tJ:=hy.use hf
 have hown:L.own=true:=by rw[←hbr.own]; exact ho
 obtain⟨cs,ct,fr,hh,hel,hr2⟩:=hbr.cells
 obtain⟨hoff,hcap,hlen,hfr,rfl⟩:=hr2 hown
 have hcl:=tJ.cells
 have hcs:(a.eval y).cells.toList.length=s:=by rw[←hcl.length]; simpa using hv
 have hcs':(a.eval y).cells.size=s:=by simpa using hcs
 have hilt:i<b.elems.length:=by
   rcases Nat.lt_or_ge i b.elems.length with h|h
   · exact h
   · simp[h]at he
 have hre:=(hel i e he).2
 have hwin:i*L.sz+L.sz<=cs.size:=by
   have:(i+1)*L.sz<=L.cap*L.sz:=Nat.mul_le_mul_right _ (by omega)
   rw[Nat.add_mul]at this; omega
 have aFV:e.cells.size=L.sz:=by
   have:=hre.length
   simp[hoff]at this; omega
 have RF:∀u∈(a.eval y).cells.toList,scal u=true:=by
   intro u hu
   obtain⟨q,hq⟩:=List.mem_iff_getElem?.1 hu
   have KS:q<(a.eval y).cells.toList.length:=by
     rcases Nat.lt_or_ge q (a.eval y).cells.toList.length with h|h
     · exact h
     · simp[List.getElem?_eq_none h]at hq
   have hq':q<v.cells.toList.length:=by rw[hcl.length]; exact KS
   obtain⟨c',hc',hrel⟩:=hcl.get q _ (List.getElem?_eq_getElem hq')
   rw[hc']at hq
   obtain rfl:c'=u:=by simpa using hq
   rw[hrel.scal]
   exact (List.all_eq_true.1 hsc) _ (List.getElem_mem hq')
 obtain⟨w',hrun,hw',g1,g2,g3⟩:=V9 P (b:=L.blk) (o:=i*L.sz+j) (a.eval y).cells.toList 0 cs w hh (fun o h=>hfr o (Nat.le_of_lt h)) RF (by omega)
 show Oper.upon P _ a K' Q' _
 have hex:(execOp a.eval ⟨d,.store T x y,T',ps,af,gd⟩).run P w= .ok .skip w':=by
   have hrun':(storeCells ⟨L.blk,L.off+i*L.sz+j,none⟩ (a.eval y).cells.toList 0).run P w= .ok () w':=by rw[hoff,Nat.zero_add]; exact hrun
   simp[execOp,hc,Instr.storeAt,Instr.sureAddr,storeVar,SZ.run hs,hcs',hrun']
 rw[hex]
 have hwr:=hr.write (b':=⟨b.elems.set i (uj e j v.cells.toList),b.ty,true,b.wr⟩) hl hown hw' rfl rfl hbr.sz ?_ ?_
 · exact hkk _ _ _ _ _ (hf.put d (dh.undef ρ)) hwr (Step.write hl hown hw' g1 g2 g3) h
 · intro i' e' he'
   rw[hoff,Nat.zero_add]
   simp only[Nat.add_zero]
   by_cases hii:i'=i
   · subst hii
     have:e'=uj e j v.cells.toList:=by
       rw[List.getElem?_set_self hilt]at he'
       simpa using he'.symm
     subst this
     have azo:=af6 e j v.cells.toList hsc (by simpa[hv]using hj) (by simp[hv,h0])
     refine⟨by
       have:(uj e j v.cells.toList).cells.toList.length=e.cells.toList.length:=by rw[azo,Ir _ _ _ (by simp; omega)]
       simp only[Array.length_toList]at this
       omega,?_⟩
     rw[af6 _ _ _ hsc (by simpa[hv]using hj) (by simp[hv,h0])]
     rw[ahc _ _ _ _ _ (by omega) (by simpa using hwin)]
     rw[hoff,Nat.zero_add]at hre
     exact hre.splice j hcl
   · have he0:b.elems[i']?=some e':=by rwa [List.getElem?_set_ne (fun e=>hii e.symm)]at he'
     have:=hel i' e' he0
     rw[hoff,Nat.zero_add]at this
     refine⟨this.1,?_⟩
     rw[WM _ _ _ _ _ ?_ (by simp; omega)]
     · exact this.2
     · rcases Nat.lt_or_gt_of_ne hii with hlt|hgt
       · left
         have:(i'+1)*L.sz<=i*L.sz:=Nat.mul_le_mul_right _ hlt
         rw[Nat.add_mul]at this; omega
       · right
         have:(i+1)*L.sz<=i'*L.sz:=Nat.mul_le_mul_right _ hgt
         rw[Nat.add_mul]at this; omega
 · refine⟨hoff,?_,by simpa using hlen,?_⟩
   · simp only[List.size_toArray]; rw[Ir _ _ _ (by simp; omega)]; simpa using hcap
   · simp only[List.size_toArray]; rw[Ir _ _ _ (by simp; omega)]; simpa using hfr
end
end Go.Fw
namespace Go.Fw
open Go
def jO(n:Nat)(f:Fr):List Operand->List Value->Prop
 |[],[]=>True
 |x::xs,v::vs=>EV n f x v/\jO n f xs vs
 |_,_=>False
theorem jO.nil{n:Nat}{f:Fr}:jO n f [] []:=trivial
theorem jO.cons{n:Nat}{f:Fr}{x:Operand}{xs:List Operand}{v:Value}{vs:List Value}(h:EV n f x v)(t:jO n f xs vs):jO n f (x::xs) (v::vs):=⟨h,t⟩
theorem jO.use{n:Nat}{f:Fr}:∀{xs:List Operand}{vs:List Value},jO n f xs vs-> ∀{ρ:dR}{a:Act},jN ρ n f a->bP ρ vs (xs.map a.eval)
 |[],[],_,_,_,_=>.nil
 |_::_,_::_,⟨h,t⟩,_,_,hf=>.cons _ _ _ _ (h.use hf) (t.use hf)
 |[],_::_,h,_,_,_=>h.elim
 |_::_,[],h,_,_,_=>h.elim
def CF(P:Program) [b_ P](g:FuncId):Prop:=∀args w,(callFunc g args).run P w= .ok (.enter g args) w
def sv(l:List UInt8):Value:=.string ⟨l.toArray⟩
theorem dh.sv_inv{ρ:dR}{c:Value}{l:List UInt8}(h:dh ρ (sv l) c):c=sv l:=h.str_inv
theorem EV.sv{n:Nat}{f:Fr}(l:List UInt8):EV n f (.const (.string ⟨l.toArray⟩)) (sv l):=.closed (by simp) fun _ _=>.string _
theorem asH(l:List UInt8):(ByteArray.mk l.toArray).size=l.length:=rfl
section
variable{P:Program} [b_ P]{n:Nat}{f:Fr}{H:aB}{A:Array Oper}{r:List Oper}{K:Fr->aB->Prop}{d:Option Tmp}{x y z:Operand}{T T' T'' E:TypeId}{ps:String}{af:Array Edge}
theorem ahd{o:Oper}{g:FuncId}{vs:List Value}{Qc:Value->aB->Prop}
   (hx:∀ρ w a,jN ρ n f a-> ∃jL:Array Value,(execOp a.eval o).run P w= .ok (.enter g jL) w/\bP ρ vs jL.toList)
   (hc:AC P g vs H Qc) (hk:∀v H',Qc v H'->K (put f o.dst v) H'):Dh P n o f H K:=by
 intro ρ w a K' Q' hr hf hkk
 obtain⟨jL,hrun,hrel⟩:=hx ρ w a hf
 show o.upon P a K' Q' _
 rw[hrun]
 refine (hc ρ w jL hr hrel).mono ?_
 rintro e w' ⟨v,rv,ρ',H',rfl,h1,h2,h3,h4⟩
 exact hkk _ _ _ _ _ ((hf.up h3.up).put o.dst h1) h2 h3 (hk rv H' h4)
theorem atu{gd:Option (Nat×Bool)}{g:FuncId}{xs:List Operand}{ts:Array TypeId}{vs:List Value}{Qc:Value->aB->Prop}(hg:CF P g)(hxs:jO n f xs vs)(hc:AC P g vs H Qc)
   (hk:∀v H',Qc v H'->K (put f d v) H'):Dh P n ⟨d,.call ⟨.value (.func g),xs.toArray,ts⟩,T',ps,af,gd⟩ f H K:=
 ahd (fun ρ w a hf=>⟨(xs.map a.eval).toArray,by
   have:=hg (xs.map a.eval).toArray w
   simp[execOp,resolve,Deferred.ofValue,Act.eval,invoke,this],hxs.use hf⟩) hc hk
theorem dh.func_inv{ρ:dR}{c:Value}{fn:Fn}{a b:List Value}(h:dh ρ (.func fn a.toArray b.toArray) c):∃a' b',c= .func fn a'.toArray b'.toArray/\bP ρ a a'/\bP ρ b b':=by
 generalize hx:Value.func fn a.toArray b.toArray=x at h
 cases h with
 |func fn' p q p' q' h1 h2=>cases hx; exact⟨p',q',rfl,h1,h2⟩
 |_=>simp at hx
theorem asI{gd:Option (Nat×Bool)}{g:FuncId}{xs:List Operand}{ts:Array TypeId}{vs first cap:List Value}{Qc:Value->aB->Prop}(hg:CF P g)(hx:EV n f x (.func (.func g) first.toArray cap.toArray))(hxs:jO n f xs vs)
   (hc:AC P g (first++vs++cap) H Qc) (hk:∀v H',Qc v H'->K (put f d v) H'):
   Dh P n ⟨d,.call ⟨.value x,xs.toArray,ts⟩,T',ps,af,gd⟩ f H K:=
 ahd (fun ρ w a hf=>by
   obtain⟨p,q,hp,h1,h2⟩:=(hx.use hf).func_inv
   refine⟨(p++xs.map a.eval++q).toArray,?_,?_⟩
   · have:=hg (p++xs.map a.eval++q).toArray w
     simp[execOp,resolve,Deferred.ofValue,hp,invoke]
     simpa using this
   · exact (h1.append (hxs.use hf)).append h2) hc hk
theorem rC{fn:Fn}{xs ys:List Operand}{vs us:List Value}(hx:jO n f xs vs)(hy:jO n f ys us):
   fe P n ⟨d,.makeFunc fn xs.toArray ys.toArray,T',ps,af,none⟩ f H ((.func fn vs.toArray us.toArray)):=
 fun ρ w a _ hf=>⟨.func fn (xs.map a.eval).toArray (ys.map a.eval).toArray,by simp[execOp,Instr.makeFunc],.func _ _ _ _ _ (hx.use hf) (hy.use hf)⟩
theorem dh.slice_len{ρ:dR}{a:Option Addr}{l m:Nat}{c:Value}(h:dh ρ (.slice a l m) c):∃a' cap,c= .slice a' l cap:=by
 generalize hx:Value.slice a l m=x at h
 cases h<;>cases hx<;>exact⟨_,_,rfl⟩
theorem avu{a:Option Addr}{len m:Nat}{ts:List TypeId}(hT:SL P T E)(hx:EV n f x (.slice a len m)):
   fe P n ⟨d,.call ⟨.builtin .len,[x].toArray,(T::ts).toArray⟩,T',ps,af,none⟩ f H (.int .i64 len):=fun ρ w a hr hf=>by
 obtain⟨a',cap,hc⟩:=(hx.use hf).slice_len
 have hu:P.underlying T=some (.slice E):=hT
 exact⟨.int .i64 len,by simp[execOp,resolve,invoke,builtin,Builtin.len_,hc,underlying,hu,goInt],.int _ _⟩
theorem avv{kk:IntKind}{i j:Int}{ts:Array TypeId}(hx:EV n f x (.int kk i))(hy:EV n f y (.int kk j)):
   fe P n ⟨d,.call ⟨.builtin .min,[x,y].toArray,ts⟩,T',ps,af,none⟩ f H ((.int kk (if j<i then j else i))):=
 fun ρ w a hr hf=>⟨.int kk (if j<i then j else i),by simp[execOp,resolve,invoke,builtin,Builtin.min_,Builtin.min2,(hx.use hf).int_inv,(hy.use hf).int_inv],.int _ _⟩
theorem ar0{s t:List UInt8}(hx:EV n f x (sv s))(hy:EV n f y (sv t))(hl:s.length+t.length<2 ^ 62):
   fe P n ⟨d,.binOp .add T x y T',T'',ps,af,none⟩ f H ((sv (s++t))):=
 fun ρ _ a _ hf=>⟨sv (s++t),by
   have hn:¬ (9223372036854775807<(s.length:Int)+(t.length:Int)):=by omega
   simp[execOp,(hx.use hf).sv_inv,(hy.use hf).sv_inv,eqGuard,binOp,Op.stringOp,sv,asH,IntKind.max,IntKind.bits,IntKind.signed]
   rw[if_neg hn,ByteArray.mk_append_mk],.string _⟩
theorem ajU{s t:List UInt8}(hx:EV n f x (sv s))(hy:EV n f y (sv t)):
   fe P n ⟨d,.binOp .eql T x y T',T'',ps,af,none⟩ f H ((.bool (s==t))):=
 fun ρ _ a _ hf=>⟨.bool (s==t),by simp[execOp,(hx.use hf).sv_inv,(hy.use hf).sv_inv,eqGuard,binOp,Op.stringOp,sv,ByteArray.toList_eq],.bool _⟩
theorem avw{s t:List UInt8}(hx:EV n f x (sv s))(hy:EV n f y (sv t)):
   fe P n ⟨d,.binOp .neq T x y T',T'',ps,af,none⟩ f H ((.bool (!(s==t)))):=
 fun ρ _ a _ hf=>⟨.bool (!(s==t)),by simp[execOp,(hx.use hf).sv_inv,(hy.use hf).sv_inv,eqGuard,binOp,Op.stringOp,sv,ByteArray.toList_eq],.bool _⟩
end
end Go.Fw
namespace Go.Fw
open Go
def Reads(H:aB)(E:TypeId)(v:Value)(xs:List Value):Prop:=
 (v= .slice none 0 0/\xs=[])\/
 ∃k i n m b,v= .slice (some ⟨k,i,none⟩) n m/\H[k]?=some (some b)/\b.ty=E/\i+n<=b.elems.length/\(b.elems.drop i).take n=xs
def ajV(H:aB)(v:Value):Prop:=
 v= .slice none 0 0\/ ∃k i n m b,v= .slice (some ⟨k,i,none⟩) n m/\H[k]?=some (some b)/\((m=1)\/(m=2/\i=0/\b.own=true))
section
variable{P:Program} [b_ P]{ρ:dR}{H:aB}{w:World}
theorem Reads.len{E:TypeId}{v:Value}{xs:List Value}(h:Reads H E v xs):∃a m,v= .slice a xs.length m:=by
 rcases h with⟨rfl,rfl⟩|⟨k,i,n,m,b,rfl,-,-,hle,rfl⟩
 · exact⟨_,_,rfl⟩
 · refine⟨some ⟨k,i,none⟩,m,?_⟩
   have:((b.elems.drop i).take n).length=n:=by rw[List.length_take,List.length_drop]; omega
   rw[this]
def flat(xs:List Value):List Value:=xs.flatMap (·.cells.toList)
theorem bP.window{cs:List Value}{sz:Nat}:∀(xs:List Value)(q:Nat),(∀(i:Nat) e,xs[i]?=some e->bP ρ e.cells.toList ((cs.drop (q+i*sz)).take sz)/\e.cells.size=sz)->
   bP ρ (flat xs) ((cs.drop q).take (xs.length*sz))
 |[],q,_=>by simp[flat]; exact .nil
 |x::xs,q,h=>by
   obtain⟨h0,hs⟩:=h 0 x (by simp)
   have ih:=bP.window xs (q+sz) (fun i e he=>by
     have:=h (i+1) e (by simpa using he)
     rw[Nat.add_mul,Nat.one_mul]at this
     rw[Nat.add_assoc q sz,Nat.add_comm sz]
     exact this)
   have:=h0.append ih
   rw[Nat.zero_mul,Nat.add_zero]at this
   simp only[flat,List.flatMap_cons]at this ⊢
   have e:(cs.drop q).take ((x::xs).length*sz)=(cs.drop q).take sz++(cs.drop (q+sz)).take (xs.length*sz):=by
     rw[List.length_cons,Nat.add_mul,Nat.one_mul,Nat.add_comm (xs.length*sz),List.take_add,List.drop_drop]
   rw[e]; exact this
theorem bP.elems{sz:Nat}:∀(xs:List Value)(cs rest:List Value),bP ρ (flat xs) cs->(∀e∈xs,e.cells.size=sz)->
   ∀(i:Nat) e,xs[i]?=some e->bP ρ e.cells.toList (((cs++rest).drop (i*sz)).take sz)
 |[],cs,rest,_,_=>fun i e he=>by simp at he
 |x::xs,cs,rest,h,hs=>by
   intro i e he
   have hx:x.cells.toList.length=sz:=by simpa using hs x (by simp)
   have hl:=h.length
   simp only[flat,List.flatMap_cons,List.length_append]at hl
   have h1:bP ρ x.cells.toList (cs.take sz):=by
     have:=h.take sz
     simp only[flat,List.flatMap_cons]at this
     rwa [List.take_append_of_le_length (by omega),List.take_of_length_le (by omega)]at this
   have h2:bP ρ (flat xs) (cs.drop sz):=by
     have:=h.drop sz
     simp only[flat,List.flatMap_cons]at this
     rwa [List.drop_append_of_le_length (by omega),List.drop_of_length_le (by omega),List.nil_append]at this
   cases i with
   |zero=>
     obtain rfl:x=e:=by simpa using he
     rw[Nat.zero_mul,List.drop_zero,List.take_append_of_le_length (by omega)]
     exact h1
   |succ i=>
     have:=bP.elems xs (cs.drop sz) rest h2 (fun e he=>hs e (by simp[he])) i e (by simpa using he)
     rw[Nat.add_mul,Nat.one_mul,Nat.add_comm,←List.drop_drop,List.drop_append_of_le_length (by omega)]
     exact this
theorem Reads.rel{E:TypeId}{s:Nat}{v c:Value}{xs:List Value}(hs:SZ P E s)(h0:0<s)(hr:Rel P ρ H w)(h:Reads H E v xs)(hv:dh ρ v c):
   ∃base cap,c= .slice base xs.length cap/\xs.length<=cap/\(∀e∈xs,e.cells.size=s)/\
     ∃cells:Array Value,(Builtin.firstCells s xs.length c).run P w= .ok cells w/\bP ρ (flat xs) cells.toList:=by
 rcases h with⟨rfl,rfl⟩|⟨k,i,n,m,b,rfl,hk,hty,hle,rfl⟩
 · cases hv
   exact⟨none,0,rfl,Nat.le_refl _,by simp,#[],by simp[Builtin.firstCells],.nil⟩
 · obtain⟨L,p,cap,hl,hbr,rfl,hcap,-,-,hp⟩:=hv.slice_inv hr hk
   have hlen:((b.elems.drop i).take n).length=n:=by rw[List.length_take,List.length_drop]; omega
   obtain⟨cs,ct,fr,hh,hel,-⟩:=hbr.cells
   have hsz:L.sz=s:=by rw[←hbr.sz,hty,hs.cells]
   have hget:∀(q:Nat) e,((b.elems.drop i).take n)[q]?=some e->e.cells.size=s/\bP ρ e.cells.toList ((cs.toList.drop (L.off+i*L.sz+q*L.sz)).take L.sz):=by
     intro q e he
     have hq:q<n:=by
       rcases Nat.lt_or_ge q n with h|h
       · exact h
       · rw[List.getElem?_eq_none (by omega)]at he; simp at he
     rw[List.getElem?_take_of_lt hq,List.getElem?_drop]at he
     have:=hel (i+q) e he
     rw[Nat.add_mul,←Nat.add_assoc]at this
     exact⟨this.1.trans hsz,this.2⟩
   have hrel:bP ρ (flat ((b.elems.drop i).take n)) ((cs.toList.drop (L.off+i*L.sz)).take (n*L.sz)):=by
     have:=bP.window (ρ:=ρ) (cs:=cs.toList) (sz:=L.sz) ((b.elems.drop i).take n) (L.off+i*L.sz) (fun q e he=>⟨(hget q e he).2,(hget q e he).1.trans hsz.symm⟩)
     rwa [hlen]at this
   have hes:∀e∈(b.elems.drop i).take n,e.cells.size=s:=by
     intro e he
     obtain⟨q,hq⟩:=List.mem_iff_getElem?.1 he
     exact (hget q e hq).1
   rw[hlen]
   by_cases hn:n=0
   · subst hn
     refine⟨some p,cap,rfl,hcap,hes,#[],by simp[Builtin.firstCells,loadCells,loadCellsFrom],?_⟩
     simpa using hrel
   · rw[hp hn]
     have hb:L.off+i*L.sz+n*s<=cs.size:=by
       obtain⟨e,he⟩:∃e,((b.elems.drop i).take n)[n-1]?=some e:=⟨_,List.getElem?_eq_getElem (by omega)⟩
       obtain⟨h1,h2⟩:=hget (n-1) e he
       have:=h2.length
       simp only[Array.length_toList,List.length_take,List.length_drop]at this
       have h3:(n-1)*L.sz+L.sz=n*s:=by rw[hsz]; rw[←Nat.succ_mul]; congr 1; omega
       omega
     refine⟨some ⟨L.blk,L.off+i*L.sz,none⟩,cap,rfl,hcap,hes,((cs.toList.drop (L.off+i*L.sz)).take (n*s)).toArray,?_,?_⟩
     · simp only[Builtin.firstCells]
       exact run_loadCells P hh (n*s) hb
     · simpa[hsz]using hrel
end
theorem ahe(n:Nat):∀(r c:Nat),Builtin.growBy n r c<=max c (n+(n+768) / 4)
 |0,c=>by simp[Builtin.growBy]; omega
 |r+1,c=>by
   simp only[Builtin.growBy]
   split
   · omega
   · have:=ahe n r (c+(c+768) / 4)
     omega
theorem nextslicecap_le(need old:Nat)(h:old<need):Builtin.nextslicecap need old<=2*need+1024:=by
 unfold Builtin.nextslicecap
 split
 · omega
 · split
   · omega
   · have:=ahe need 4 old
     omega
def wO(H:aB):Value->aB
 | .slice (some a) _ 2=>H.set a.block none
 |_=>H
theorem agt(a b:List Value):flat (a++b)=flat a++flat b:=by simp[flat]
theorem Ex{s:Nat}:∀(xs:List Value),(∀e∈xs,e.cells.size=s)->(flat xs).length=xs.length*s
 |[],_=>by simp[flat]
 |x::xs,h=>by
   have:=Ex xs (fun e he=>h e (by simp[he]))
   have hx:=h x (by simp)
   simp only[flat,List.flatMap_cons,List.length_append,List.length_cons,Array.length_toList]at this ⊢
   rw[this,hx,Nat.add_mul,Nat.one_mul,Nat.add_comm]
def ut(P:Program) [b_ P](t:TypeId):Prop:=P.underlying t=some .string\/ ∃e,P.underlying t=some (.slice e)
theorem Pf(z:Array Value)(n:Nat):(Builtin.zeroCells z n).size=n*z.size:=by simp[Builtin.zeroCells]
section
variable{P:Program} [b_ P]{n:Nat}{f:Fr}{H:aB}{A:Array Oper}{r:List Oper}{K:Fr->aB->Prop}{d:Option Tmp}{x y z:Operand}{T T' T'' T2 E:TypeId}{ps:String}{af:Array Edge}
theorem ar1{gd:Option (Nat×Bool)}{s by':Nat}{v u zv:Value}{iE:TypeInfo}{old new:List Value}{ts:List TypeId}(hT:SL P T E)(GL:ut P T2)(hs:SZ P E s)(h0:0<s)(xy:P.info? E=some iE)(hzv:iE.zero=some zv)(hzs:zv.cells.size=s)(hby:iE.bytes=by')
   (hx:EV n f x v) (hy:EV n f y u) (hr:Reads H E v old) (hg:ajV H v) (hn:Reads H E u new) (hne:new≠[]) (hsc:(flat new).all scal=true)
   (hroom:(2*(old.length+new.length)+1024)*by'<=2 ^ 48) (aCr:old.length+new.length<2 ^ 62)
   (h:K (put f d (.slice (some ⟨H.length,0,none⟩) (old.length+new.length) 2)) (wO H v++[some ⟨old++new,E,true,true⟩])):
   Dh P n ⟨d,.call ⟨.builtin .append,[x,y].toArray,(T::T2::ts).toArray⟩,T',ps,af,gd⟩ f H K:=by
 intro ρ w a K' Q' hrel hf hkk
 obtain⟨base,sCap,hcx,hcap,hoe,-,-,-⟩:=hr.rel hs h0 hrel (hx.use hf)
 obtain⟨ajW,cap2,hcy,hcap2,hne2,-,-,-⟩:=hn.rel hs h0 hrel (hy.use hf)
 have hu:P.underlying T=some (.slice E):=hT
 have hnl:0<new.length:=List.length_pos_iff.2 hne
 show Oper.upon P _ a K' Q' _
 by_cases hfit:old.length+new.length<=sCap
 · -- it fits:our own block
   rcases hg with rfl|⟨k,i,m,q,b,rfl,hk,hmode⟩
   · have hv:=hx.use hf
     generalize a.eval x=c at hv hcx
     cases hv
     injection hcx with _ _ e
     omega
   have hv:=hx.use hf
   obtain⟨L,p,cap',hl,hbr,hc,hcl,h1,h2,hp⟩:=hv.slice_inv hrel hk
   rw[hcx]at hc
   injection hc with e1 e2 e3
   subst e2 e3
   rcases hmode with rfl|⟨rfl,rfl,hown⟩
   · have:=h1 rfl; omega
   obtain⟨-,hown',sG,rfl,-⟩:=h2 (Nat.le_refl _)
   subst e1
   obtain⟨aCs,aC2,ak9,-,-,cells,NA,hcells⟩:=hn.rel hs h0 hrel (hy.use hf)
   rw[hcy]at ak9
   injection ak9 with g1 _ g3
   subst g1 g3
   rw[hcy]at NA
   obtain⟨cs,ct,fr,hh,hel,hr2⟩:=hbr.cells
   obtain⟨hoff,atv,hlen,hfr,rfl⟩:=hr2 hown'
   have ak_:b.ty=E:=by
     rcases hr with⟨e,-⟩|⟨k',i',n',m',b',e,hk',hty,-,-⟩
     · simp at e
     · injection e with e _ _; injection e with e; injection e with e _ _; subst e; rw[hk]at hk'; injection hk' with hk'; injection hk' with hk'; rw[hk']; exact hty
   have hsz:L.sz=s:=by rw[←hbr.sz,ak_,hs.cells]
   have ajX:cells.toList.length=new.length*s:=by rw[←hcells.length,Ex _ hne2]
   have hcsz:cells.size=new.length*s:=by simpa using ajX
   have hbound:old.length*s+new.length*s<=cs.size:=by
     have:(old.length+new.length)*s<=L.cap*L.sz:=by rw[hsz]; exact Nat.mul_le_mul_right _ (Nat.le_trans hfit sG)
     rw[Nat.add_mul]at this; omega
   have RF:∀c∈cells.toList,scal c=true:=by
     intro c hc
     obtain⟨q,hq⟩:=List.mem_iff_getElem?.1 hc
     have KS:q<cells.toList.length:=by
       rcases Nat.lt_or_ge q cells.toList.length with h|h
       · exact h
       · simp[List.getElem?_eq_none h]at hq
     have hq':q<(flat new).length:=by rw[hcells.length]; exact KS
     obtain⟨c',hc',hrc⟩:=hcells.get q _ (List.getElem?_eq_getElem hq')
     rw[hc']at hq
     obtain rfl:c'=c:=by simpa using hq
     rw[hrc.scal]
     exact (List.all_eq_true.1 hsc) _ (List.getElem_mem hq')
   obtain⟨w',hrun,hw',w1,w2,w3⟩:=V9 P (b:=L.blk) (o:=old.length*s) cells.toList 0 cs w hh (fun o h=>hfr o (Nat.le_of_lt h)) RF (by omega)
   have hex:(execOp a.eval ⟨d,.call ⟨.builtin .append,[x,y].toArray,(T::T2::ts).toArray⟩,T',ps,af,gd⟩).run P w=
       .ok (.value (.slice (some ⟨L.blk,L.off,none⟩) (old.length+new.length) sCap)) w':=by
     have ha:Addr.add ⟨L.blk,L.off,none⟩ (old.length*s)=⟨L.blk,old.length*s,none⟩:=by rw[addr_add,hoff,Nat.zero_add]
     rcases GL with hu2|⟨e2,hu2⟩<;>
       simp[execOp,resolve,invoke,builtin,Builtin.append_,hcx,hcy,underlying,hu,hu2,SZ.run hs,Builtin.lenOf,hfit,NA,ha,hrun]
   rw[hex]
   have hkn:ρ k≠none:=by rw[hl]; simp
   have avx:=hrel.kill hkn
   have hblt:=hrel.lt hl
   have ajY:(splice cs.toList (old.length*s+0) cells.toList).length=cs.toList.length:=Ir _ _ _ (by simp; omega)
   have hold:(b.elems.take old.length)=old:=by
     rcases hr with⟨e,-⟩|⟨k',i',n',m',b',e,hk',-,-,hrd⟩
     · simp at e
     · injection e with e e2 _; injection e with e; injection e with e e3 _
       subst e e2 e3
       rw[hk]at hk'; injection hk' with hk'; injection hk' with hk'; subst hk'
       simpa using hrd
   have hadd:=avx.add (L:=⟨L.blk,0,s,L.cap,true⟩) (b:=⟨old++new,E,true,true⟩) (w':=w') ⟨rfl,hs.cells,(splice cs.toList (old.length*s+0) cells.toList).toArray,E,fr,by rw[hw',ak_]; simp[hblt],?_,?_⟩ ?_ ?_
   · have hst:=Step.move (b:=⟨old++new,E,true,true⟩) (L':=⟨L.blk,0,s,L.cap,true⟩) hrel hl hown' rfl rfl hw' w1 w2 w3
     refine hkk _ _ _ _ _ ((hf.up hst.up).put d ?_) (by simpa using hadd (by simpa using hrel.vok.step hst)) hst (by simpa[wO]using h)
     refine dh.slice H.length 0 _ 2 ⟨L.blk,0,s,L.cap,true⟩ _ sCap (by simp[lJ]) hfit (by simp) (fun _=>⟨rfl,rfl,sG,?_⟩) (fun _=>⟨?_,fun _=>Nat.le_trans (Nat.le_of_eq (Nat.zero_add _)) (Nat.le_trans hfit sG)⟩)
     · simp[hoff]
     · simp[hoff]
   · intro q e he
     simp only[Nat.zero_add]
     have hup:Up ρ (lJ ρ k none):=(Step.kill (H:=H) (w:=w) hkn).up
     by_cases hq:q<old.length
     · have he':b.elems[q]?=some e:=by
         rw[List.getElem?_append_left hq,←hold]at he
         rwa [List.getElem?_take_of_lt hq]at he
       have:=hel q e he'
       rw[hoff,Nat.zero_add,hsz]at this
       refine⟨this.1,?_⟩
       have hqs:q*s+s<=old.length*s:=by rw[←Nat.succ_mul]; exact Nat.mul_le_mul_right _ hq
       rw[WM _ _ _ _ _ (.inl (by omega)) (by simp; omega)]
       exact this.2.up hup
     · have he':new[q-old.length]?=some e:=by rwa [List.getElem?_append_right (by omega)]at he
       have hlt:q-old.length<new.length:=by
         rcases Nat.lt_or_ge (q-old.length) new.length with h|h
         · exact h
         · simp[List.getElem?_eq_none h]at he'
       refine⟨hne2 e (List.mem_of_getElem? he'),?_⟩
       have ak':=bP.elems new cells.toList [] hcells hne2 (q-old.length) e he'
       rw[List.append_nil]at ak'
       have hqe:q*s=old.length*s+(q-old.length)*s:=by rw[←Nat.add_mul]; congr 1; omega
       have hqs:(q-old.length)*s+s<=new.length*s:=by rw[←Nat.succ_mul]; exact Nat.mul_le_mul_right _ hlt
       have hw1:((splice cs.toList (old.length*s+0) cells.toList).drop (old.length*s)).take cells.toList.length=cells.toList:=by
         rw[ahc _ _ _ 0 _ (by omega) (by simp; omega)]
         unfold splice
         simp
       have hw2:((splice cs.toList (old.length*s+0) cells.toList).drop (q*s)).take s=(cells.toList.drop ((q-old.length)*s)).take s:=by
         conv=>rhs; rw[←hw1]
         rw[List.drop_take,List.take_take,List.drop_drop,hqe,Nat.min_eq_left (by rw[ajX]; omega)]
       show bP _ _ ((_:List Value).take s)
       rw[hw2]
       exact ak'.up hup
   · intro _
     refine⟨rfl,?_,by simp; omega,?_⟩
     · simp only[List.size_toArray,ajY]; simpa[hsz]using atv
     · simp only[List.size_toArray,ajY]; simpa using hfr
   · intro k' L' hk'
     by_cases e:k'=k
     · subst e; rw[g_]at hk'; simp at hk'
     · rw[eX _ _ e]at hk'
       exact fun hb=>e (hrel.inj k k' L L' hl hk' hown' hb.symm).symm
   · intro k' L' hk'
     by_cases e:k'=k
     · subst e; rw[g_]at hk'; simp at hk'
     · rw[eX _ _ e]at hk'
       have hne:L.blk≠L'.blk:=fun hb=>e (hrel.inj k k' L L' hl hk' hown' hb).symm
       rw[hw',Array.getElem?_setIfInBounds_ne hne]
 · -- a new array
   have hw1:(({w with drawn:=w.drawn+1}:World)).heap=w.heap:=rfl
   have Jy:Rel P ρ H {w with drawn:=w.drawn+1}:=hrel.of_heap rfl
   obtain⟨b1,c1,hc1,-,-,Bz,ail,aim⟩:=hr.rel hs h0 Jy (hx.use hf)
   obtain⟨b2,c2,hc2,-,-,BA,ain,aio⟩:=hn.rel hs h0 Jy (hy.use hf)
   rw[hcx]at ail
   rw[hcy]at ain
   have hnx:=nextslicecap_le (old.length+new.length) sCap (by omega)
   have hnb:Builtin.nextslicecap (old.length+new.length) sCap*iE.bytes<=2 ^ 48:=by
     rw[hby]; exact Nat.le_trans (Nat.mul_le_mul_right _ hnx) hroom
   obtain⟨newCap,hnew,hcut⟩:∃c,old.length+new.length<=c/\(Question.appendCap (old.length+new.length) sCap E).cut (w.tape w.drawn (.appendCap (old.length+new.length) sCap E))=c:=⟨_,Nat.le_add_right _ _,rfl⟩
   have hex:(execOp a.eval ⟨d,.call ⟨.builtin .append,[x,y].toArray,(T::T2::ts).toArray⟩,T',ps,af,gd⟩).run P w=
       .ok (.value (.slice (some ⟨w.heap.size,0,none⟩) (old.length+new.length) newCap))
         {w with drawn:=w.drawn+1,heap:=w.heap.push (.cells (Bz++BA++Builtin.zeroCells zv.cells (newCap-(old.length+new.length))) E (0,0))}:=by
     have avy:¬ (old.length+new.length<=sCap):=hfit
     have hnb':¬ (2 ^ 48<Builtin.nextslicecap (old.length+new.length) sCap*iE.bytes):=by omega
     have avz:¬ (9223372036854775807<(old.length:Int)+(new.length:Int)/\iE.bytes=0):=by omega
     have hz2:(zeroValue E).run P {w with drawn:=w.drawn+1}= .ok zv {w with drawn:=w.drawn+1}:=by simp[zeroValue,typeInfo,xy,hzv]
     rcases GL with hu2|⟨e2,hu2⟩<;>
       simp[execOp,resolve,invoke,builtin,Builtin.append_,hcx,hcy,underlying,hu,hu2,SZ.run hs,Builtin.lenOf,avy,typeInfo,xy,hnb']
     all_goals
       rw[if_neg avz,if_neg (by simp[Question.forced]),hcut]
       have hf1:(Builtin.firstCells s old.length (Value.slice base old.length sCap)).run P w.drew= .ok Bz w.drew:=ail
       have hf2:(Builtin.firstCells s new.length (Value.slice ajW new.length cap2)).run P w.drew= .ok BA w.drew:=ain
       have hz3:(zeroValue E).run P w.drew= .ok zv w.drew:=hz2
       simp[hf1,hf2,hz3,newRow,newObj,Sem.run]
       rfl
   rw[hex]
   have hzz:zv.cells.size=s:=hzs
   have hl1:Bz.toList.length=old.length*s:=by rw[←aim.length,Ex _ hoe]
   have hl2:BA.toList.length=new.length*s:=by rw[←aio.length,Ex _ hne2]
   have push:∀(ρ0:dR)(H0:aB),Rel P ρ0 H0 {w with drawn:=w.drawn+1}->Up ρ ρ0->H0.length=H.length->Step ρ H w ρ0 H0 {w with drawn:=w.drawn+1}->H0=wO H v->
       K' (a.put d (.slice (some ⟨w.heap.size,0,none⟩) (old.length+new.length) newCap)) {w with drawn:=w.drawn+1,heap:=w.heap.push (.cells (Bz++BA++Builtin.zeroCells zv.cells (newCap-(old.length+new.length))) E (0,0))}:=by
     intro ρ0 H0 hr0 adp avA azp hH0
     have avB:bP ρ0 (flat (old++new)) (Bz.toList++BA.toList):=by
       rw[agt]; exact (aim.up adp).append (aio.up adp)
     have hel:=bP.elems (old++new) (Bz.toList++BA.toList) (Builtin.zeroCells zv.cells (newCap-(old.length+new.length))).toList avB
       (fun e he=>by rcases List.mem_append.1 he with h|h; exact hoe e h; exact hne2 e h)
     have hpu:=hr0.push (g:=true) (w':={w with drawn:=w.drawn+1,heap:=w.heap.push (.cells (Bz++BA++Builtin.zeroCells zv.cells (newCap-(old.length+new.length))) E (0,0))})
       (cs:=Bz++BA++Builtin.zeroCells zv.cells (newCap-(old.length+new.length))) (ty:=E) (es:=old++new) (sz:=s) (cap:=newCap) rfl hs.cells
       (fun i e he=>⟨by rcases List.mem_append.1 (List.mem_of_getElem? he)with h|h; exact hoe e h; exact hne2 e h,by have:=hel i e he; simpa using this⟩)
       (by
         simp only[Array.length_toList]at hl1 hl2
         rw[Array.size_append,Array.size_append,Pf,hl1,hl2,hzz,←Nat.add_mul,←Nat.add_mul]
         exact Nat.mul_le_mul_right _ (by omega)) (by simpa using hnew)
     have hsp:=Step.push (b:=⟨old++new,E,true,true⟩) (sz:=s) (cap:=newCap) hr0 (w':={w with drawn:=w.drawn+1,heap:=w.heap.push (.cells (Bz++BA++Builtin.zeroCells zv.cells (newCap-(old.length+new.length))) E (0,0))}) rfl rfl rfl rfl
     refine hkk _ _ _ _ _ (((hf.up adp).up hsp.up).put d ?_) hpu (azp.trans hsp) (by rw[hH0]; exact h)
     rw[←avA]
     exact dh.slice H0.length 0 _ 2 ⟨w.heap.size,0,s,newCap,true⟩ _ newCap (g_ _ _ _) hnew (by simp) (fun _=>⟨rfl,rfl,Nat.le_refl _,rfl,by omega⟩) (fun _=>⟨by simp,fun _=>Nat.le_trans (Nat.le_of_eq (Nat.zero_add _)) hnew⟩)
   have w9:Step ρ H w ρ H {w with drawn:=w.drawn+1}:=⟨Up.refl ρ,rfl,rfl,rfl,Nat.le_refl _,fun _ _ _=>rfl,fun _ _ h=>.inl h,Nat.le_refl _,fun _ _ h=>⟨h,rfl⟩⟩
   rcases hg with rfl|⟨k,i,m,q,b,rfl,hk,hmode⟩
   · exact push ρ H Jy (Up.refl ρ) rfl w9 rfl
   · rcases hmode with rfl|⟨rfl,rfl,hown⟩
     · exact push ρ H Jy (Up.refl ρ) rfl w9 rfl
     · have hv:=hx.use hf
       obtain⟨L,p,cap',hl,-⟩:=hv.slice_inv hrel hk
       have hkn:ρ k≠none:=by rw[hl]; simp
       have hsk:=Step.kill (H:=H) (w:={w with drawn:=w.drawn+1}) hkn
       exact push _ _ (Jy.kill hkn) hsk.up (by simp) (w9.trans hsk) rfl
end
end Go.Fw
namespace Go.Fw
open Go
def ab5(args:List Value):Fr:=fun t=>args.getD t undef
section
variable{P:Program} [b_ P]
theorem bP.getD{ρ:dR}{a b:List Value}(h:bP ρ a b)(t:Nat):dh ρ (a.getD t undef) (b.getD t undef):=by
 rcases Nat.lt_or_ge t a.length with hl|hl
 · obtain⟨c,hc,hr⟩:=h.get t _ (List.getElem?_eq_getElem hl)
   simp only[List.getD_eq_getElem?_getD,hc,List.getElem?_eq_getElem hl,Option.getD_some]
   exact hr
 · have hl':b.length<=t:=by rw[←h.length]; exact hl
   simp only[List.getD_eq_getElem?_getD,List.getElem?_eq_none hl,List.getElem?_eq_none hl',Option.getD_none]
   exact .undef ρ
end
section
variable{P:Program} [b_ P]{n:Nat}{f:Fr}{H:aB}{A:Array Oper}{r:List Oper}{K:Fr->aB->Prop}{d:Option Tmp}{x y z:Operand}{T T' T'' T2 E:TypeId}{ps:String}{af:Array Edge}
theorem ahK{s:Nat}:∀(vs done:List Value)(Z:Array Value),(∀v∈vs,v.cells.size=s)->Z.size=(done.length+vs.length)*s->(∀v∈done,v.cells.size=s)->Z.toList.take (done.length*s)=flat done->
   ∃C:Array Value,Instr.fill (fun i=>some (i*s,s)) Z ((vs.zipIdx done.length).map fun p=>(p.2,p.1))=some C/\C.toList=flat (done++vs)
 |[],done,Z,_,hz,hd,ht=>⟨Z,by simp[Instr.fill],by
     rw[List.append_nil,←ht]
     rw[List.take_of_length_le]
     simp at hz; simp[hz]⟩
 |v::vs,done,Z,hv,hz,hd,ht=>by
   have hvs:=hv v (by simp)
   have hbound:done.length*s+s<=Z.size:=by
     rw[hz,←Nat.succ_mul]; exact Nat.mul_le_mul_right _ (by simp)
   have key:∀(cs:List Value)(Z:Array Value)(p j0:Nat),p+j0+cs.length<=Z.size->
       ((cs.zipIdx j0).foldl (fun(a:Array Value)(q:Value×Nat)=>a.setIfInBounds (p+q.2) q.1) Z).toList=splice Z.toList (p+j0) cs:=by
     intro cs
     induction cs with
     |nil=>intro Z p j0 _; simp[agV]
     |cons c cs ih=>
       intro Z p j0 hle
       simp only[List.length_cons]at hle
       simp only[List.zipIdx_cons,List.foldl_cons]
       rw[ih _ _ _ (by simp; omega),Array.toList_setIfInBounds]
       exact ags _ _ _ _ (by simp; omega)
   have hk:=key v.cells.toList Z (done.length*s) 0 (by simp[hvs]; omega)
   have avC:(v.cells.zipIdx.foldl (fun(cs:Array Value)(q:Value×Nat)=>cs.setIfInBounds (done.length*s+q.2) q.1) Z)=(splice Z.toList (done.length*s) v.cells.toList).toArray:=by
     apply Array.toList_inj.1
     rw[Nat.add_zero]at hk
     show _=splice Z.toList (done.length*s) v.cells.toList
     rw[←hk,←Array.foldl_toList,Array.toList_zipIdx]
   have hsl:(splice Z.toList (done.length*s) v.cells.toList).length=Z.toList.length:=Ir _ _ _ (by simp[hvs]; omega)
   obtain⟨C,hC,hC2⟩:=ahK vs (done++[v]) (splice Z.toList (done.length*s) v.cells.toList).toArray (fun u hu=>hv u (by simp[hu])) (by
       simp only[List.size_toArray,hsl,Array.length_toList,List.length_append,List.length_cons,List.length_nil]; rw[hz]; congr 1; simp; omega)
     (fun u hu=>by rcases List.mem_append.1 hu with h|h; exact hd u h; simp at h; rw[h]; exact hvs) (by
       have hdl:=Ex done hd
       rw[agt,←ht]
       simp only[List.length_append,List.length_cons,List.length_nil,Nat.zero_add,Nat.succ_mul,flat,List.flatMap_cons,List.flatMap_nil,List.append_nil]
       unfold splice
       have hlt:(Z.toList.take (done.length*s)).length=done.length*s:=by simp; omega
       rw[List.take_append_of_le_length (by simp[hvs]; omega),List.take_of_length_le (by simp[hvs]; omega)])
   refine⟨C,?_,by simpa using hC2⟩
   simp only[List.zipIdx_cons,List.map_cons,Instr.fill]
   have hif:(v.cells.size !=s||decide (done.length*s+v.cells.size>Z.size))=false:=by simp[hvs]; omega
   rw[if_neg (by simpa using hif),avC]
   simpa using hC
theorem ahf:∀(parts:List (Nat×Operand))(k:Nat),parts.map (·.1)=List.range' k parts.length->parts=((parts.map (·.2)).zipIdx k).map fun p=>(p.2,p.1)
 |[],_,_=>rfl
 |(i,x)::l,k,h=>by
   simp only[List.map_cons,List.length_cons,List.range'_succ,List.cons.injEq]at h
   have:=ahf l (k+1) h.2
   simp only[List.map_cons,List.zipIdx_cons]
   rw[←this,h.1]
theorem apx{gd:Option (Nat×Bool)}{g:Bool}{s:Nat}{iE:TypeInfo}{zv:Value}{len:Nat}{parts:List (Nat×Operand)}{vs:List Value}(hT:SL P T E)(hs:SZ P E s)(xy:P.info? E=some iE)(hzv:iE.zero=some zv)
   (hxs:jO n f (parts.map (·.2)) vs) (hidx:parts.map (·.1)=List.range' 0 parts.length) (hlen:len=parts.length) (hbig:Nat.ble (len*s) (2 ^ 24)=true) (hv:∀v∈vs,v.cells.size=s):
   xx P n ⟨d,.buildSlice T len parts.toArray,T',ps,af,gd⟩ f (fun k=>.slice (some ⟨k,0,none⟩) len 1) ⟨vs,E,true,g⟩:=
 ⟨rfl,fun ρ H w a hr hf=>by
   simp only[hs.cells]
   have tJ:=hxs.use hf
   have hvl:vs.length=parts.length:=by rw[tJ.length]; simp
   generalize hcv:(parts.map (·.2)).map a.eval=Ov at tJ
   have hcs:∀c∈Ov,c.cells.size=s:=by
     intro c hc
     obtain⟨i,hi⟩:=List.mem_iff_getElem?.1 hc
     have hil:i<Ov.length:=by
       rcases Nat.lt_or_ge i Ov.length with h|h
       · exact h
       · simp[List.getElem?_eq_none h]at hi
     have ala:i<vs.length:=by rw[tJ.length]; exact hil
     obtain⟨c',hc',hrc⟩:=tJ.get i _ (List.getElem?_eq_getElem ala)
     rw[hc']at hi
     obtain rfl:c'=c:=by simpa using hi
     have:=hrc.cells.length
     simp only[Array.length_toList]at this
     rw[←this]; exact hv _ (List.getElem_mem ala)
   have hcl:Ov.length=len:=by rw[←tJ.length,hvl,hlen]
   have hu:P.underlying T=some (.slice E):=hT
   have hparts:(parts.toArray.map fun p=>(p.1,a.eval p.2)).toList=(Ov.zipIdx 0).map fun p=>(p.2,p.1):=by
     conv=>lhs; rw[ahf parts 0 hidx]
     rw[←hcv]
     simp[List.zipIdx_map,Function.comp_def]
   have atw:∀(l m:List Value),bP ρ l m->bP ρ (flat l) (flat m):=by
     intro l
     induction l with
     |nil=>intro m h; cases h; exact .nil
     |cons x l ih=>intro m h; cases h with|cons _ c _ m' hx ht=>exact hx.cells.append (ih m' ht)
   have RG:(Array.range (len*s)).size=len*s:=by simp
   obtain⟨C,hC,hC2⟩:=ahK Ov [] ((Array.range (len*s)).map fun q=>(if len*s=0 then #[]else zv.cells)[q % (if len*s=0 then #[]else zv.cells).size]!) hcs (by simp[hcl]) (by simp) (by simp[flat])
   rw[List.nil_append]at hC2
   have hrun:(execOp a.eval ⟨d,.buildSlice T len parts.toArray,T',ps,af,gd⟩).run P w= .ok (.value (.slice (some ⟨w.heap.size,0,none⟩) len len)) {w with heap:=w.heap.push (.cells C E (0,0))}:=by
     have hb:¬ (2 ^ 24<len*s):=by have:=Nat.le_of_ble_eq_true hbig; omega
     have hz:(zeroValue E).run P w= .ok zv w:=by simp[zeroValue,typeInfo,xy,hzv]
     have hC':=hC
     rw[List.length_nil,←hparts]at hC'
     rw[show (parts.toArray.map fun p=>(p.1,a.eval p.2)).toList=parts.map fun p=>(p.1,a.eval p.2)from by simp]at hC'
     by_cases hz0:len*s=0
     · rw[if_pos hz0]at hC'
       simp only[execOp,Instr.buildSlice,underlying]
       simp only[hz0]at hC'
       have hC3:Instr.fill (fun i=>some (i*s,s)) (Array.map (fun _=>default) (Array.range 0)) (parts.map fun p=>(p.1,a.eval p.2))=some C:=by simpa using hC'
       simp[hu,SZ.run hs,hz0]
       rw[hC3]
       simp[newRow,newObj,Sem.run]
     · rw[if_neg hz0]at hC'
       simp only[execOp,Instr.buildSlice,underlying]
       simp[hu,SZ.run hs,hb,hz0,hz]
       rw[hC']
       simp[newRow,newObj,Sem.run]
   refine⟨_,C,len,_,hrun,rfl,rfl,rfl,rfl,?_,?_,?_,by omega⟩
   · intro ρ' k h'
     exact dh.slice k 0 len 1 _ _ len h' (Nat.le_refl _) (fun _=>⟨rfl,Nat.le_refl _⟩) (fun h=>by simp at h) (fun _=>by simp)
   · intro i e he
     refine⟨hv e (List.mem_of_getElem? he),?_⟩
     have:=bP.elems vs C.toList [] (by rw[hC2]; exact atw _ _ tJ) hv i e he
     simpa using this
   · have:C.toList.length=len*s:=by rw[hC2,Ex _ hcs,hcl]
     simp at this; omega⟩
end
end Go.Fw
namespace Go.Fw
open Go
section
variable{P:Program} [b_ P]{n:Nat}{f:Fr}{H:aB}{A:Array Oper}{r:List Oper}{K:Fr->aB->Prop}{Q:Exit->Fr->aB->Prop}{d:Option Tmp}{x y z:Operand}{T T' T'' T2 E:TypeId}{ps:String}{af:Array Edge}{op:Op}{c1 c2 c3:Code}
theorem avD{j:Nat}{t:Tmp}{b:Bool}(hd:(A[j]?).bind (·.dst)=some t)(hv:f t= .bool b)(ht:Nat.blt t n=true)(h:nH P n A (⟨d,op,T,ps,af,none⟩::r) f H K):
   nH P n A (⟨d,op,T,ps,af,some (j,b)⟩::r) f H K:=by
 intro ρ w a Q' hr hf hk
 have hw:=Wanted.guard (n:=n) (o:=⟨d,op,T,ps,af,some (j,b)⟩) rfl hd hv ht ρ a hf
 have h':=h ρ w a Q' hr hf hk
 have e:(b==b)=true:=by simp
 rw[e]at hw
 unfold wpList at h' ⊢
 rw[if_pos hw]
 rw[if_pos (by simp[Region.wanted])]at h'
 exact h'
theorem atx{j:Nat}{t:Tmp}{b:Bool}(hd:(A[j]?).bind (·.dst)=some t)(hv:f t= .bool (!b))(ht:Nat.blt t n=true)(h:nH P n A r (put f d undef) H K):
   nH P n A (⟨d,op,T,ps,af,some (j,b)⟩::r) f H K:=by
 refine ahb ?_ h
 have:=Wanted.guard (n:=n) (A:=A) (f:=f) (o:=⟨d,op,T,ps,af,some (j,b)⟩) rfl hd hv ht
 simpa using this
end
end Go.Fw
namespace Go.Fw
open Go
structure pu(H H':aB):Prop where
 len:H.length<=H'.length
 get:∀k,k<H.length->H'[k]?=H[k]?
theorem pu.refl(H:aB):pu H H:=⟨Nat.le_refl _,fun _ _=>rfl⟩
theorem pu.trans{a b c:aB}(h:pu a b)(g:pu b c):pu a c:=
 ⟨Nat.le_trans h.len g.len,fun k hk=>(g.get k (Nat.lt_of_lt_of_le hk h.len)).trans (h.get k hk)⟩
theorem pu.app(H:aB)(x:aB):pu H (H++x):=⟨by simp,fun k hk=>by rw[List.getElem?_append_left hk]⟩
theorem pu.at{H H':aB}(h:pu H H'){k:Nat}{b:fE}(hk:H[k]?=some (some b)):H'[k]?=some (some b):=by
 rw[h.get k ?_,hk]
 rcases Nat.lt_or_ge k H.length with h|h
 · exact h
 · simp[List.getElem?_eq_none h]at hk
def lF(o:Oper):List Nat:=(o.after.toList.filter (Region.binds .any ·)).map (·.on)
def fK(l:List Oper)(o:Oper):List Tmp:=
 o.op.operands.toList.filterMap (fun| .tmp t=>some t|_=>none)++(match o.guard with|some (j,_)=>((l[j]?).bind (·.dst)).toList|none=>[])
def okD(l:List Oper):Bool:=
 l.zipIdx.all fun(o,i)=>(lF o).all (Nat.blt · i)&&l.zipIdx.all fun(p,j)=>
   match p.dst with
   |none=>true
   |some t=>(Nat.beq j i||(match o.dst with|some u=>!Nat.beq u t|none=>true))&&
     ((fK l o).all fun u=>!Nat.beq u t||Nat.beq j i||(if Nat.blt j i then (lF o).any (Nat.beq j)else (lF p).any (Nat.beq i)))
def J5:Fr->List Oper->List Value->List Bool->Fr
 |f,o::l,v::vs,b::bs=>J5 (if b then put f o.dst v else f) l vs bs
 |f,_,_,_=>f
def QOp(P:Program) [b_ P](n:Nat)(A:List Oper)(o:Oper)(f:Fr)(H:aB)(v:Value):Prop:=
 ∀f' H',(∀t,t∈fK A o->f' t=f t)->pu H H'-> ∀ρ w a (K':Act->World->Prop)(Q':Exit->Act->World->Prop),Rel P ρ H' w->jN ρ n f' a->
   (∀c xu xw w',dh xu v c->Rel P xu xw w'->Step ρ H' w xu xw w'->pu H' xw->K' (a.put o.dst c) w')->
   if Region.wanted o (yielded A.toArray a.tmps)then o.wp P a w K' Q' else K' (a.put o.dst undef) w
def YS(P:Program) [b_ P](n:Nat)(A:List Oper):List Oper->Fr->aB->(Fr->Prop)->Prop
 |[],f,_,K=>K f
 |o::r,f,H,K=>∃v,QOp P n A o f H v/\YS P n A r (put f o.dst v) H K
theorem YS.vals{P:Program} [b_ P]{n:Nat}{A:List Oper}{H:aB}{K:Fr->Prop}:∀(l:List Oper)(f:Fr),YS P n A l f H K->
   ∃vs:List Value,vs.length=l.length/\(∀(i:Nat) o v,l[i]?=some o->vs[i]?=some v->QOp P n A o (J5 f l vs (List.replicate i true)) H v)/\K (J5 f l vs (List.replicate l.length true))
 |[],f,h=>⟨[],rfl,fun i o v h=>by simp at h,by simp only[J5]; exact h⟩
 |o::l,f,⟨v,hv,hr⟩=>by
   obtain⟨vs,h1,h2,h3⟩:=YS.vals l _ hr
   refine⟨v::vs,by simp[h1],?_,by simpa[J5,List.replicate_succ]using h3⟩
   intro i o' v' ho hv'
   cases i with
   |zero=>
     obtain rfl:o=o':=by simpa using ho
     obtain rfl:v=v':=by simpa using hv'
     simpa[J5]using hv
   |succ i=>
     have:=h2 i o' v' (by simpa using ho) (by simpa using hv')
     simpa[J5,List.replicate_succ]using this
theorem mem_ready{l:List Oper}{listed:Array Bool}{i:Nat}:i∈Region.ready .any l.toArray listed↔
   ∃o,l[i]?=some o/\listed.getD i true=false/\ ∀j∈lF o,listed.getD j false=true:=by
 unfold Region.ready
 simp only[List.mem_filter,List.mem_range,List.size_toArray,Bool.and_eq_true,Bool.not_eq_true',List.getElem?_toArray]
 constructor
 · rintro⟨hlt,h1,h2⟩
   refine⟨l[i],List.getElem?_eq_getElem hlt,h1,?_⟩
   rw[List.getElem?_eq_getElem hlt]at h2
   simp only[Option.map_some,Option.getD_some,Array.all_eq_true_iff_forall_mem]at h2
   intro j hj
   simp only[lF,List.mem_map,List.mem_filter]at hj
   obtain⟨e,⟨he,hb⟩,rfl⟩:=hj
   have:=h2 e (by simpa using he)
   simpa[hb]using this
 · rintro⟨o,ho,h1,h2⟩
   have hlt:i<l.length:=by
     rcases Nat.lt_or_ge i l.length with h|h
     · exact h
     · simp[List.getElem?_eq_none h]at ho
   refine⟨hlt,h1,?_⟩
   rw[ho]
   simp only[Option.map_some,Option.getD_some,Array.all_eq_true_iff_forall_mem]
   intro e he
   by_cases hb:Region.binds .any e=true
   · have:=h2 e.on (by simp only[lF,List.mem_map,List.mem_filter]; exact⟨e,⟨by simpa using he,hb⟩,rfl⟩)
     simp[this]
   · simp[hb]
theorem abn{l:List Oper}(h:okD l=true){i j:Nat}{o p:Oper}(hi:l[i]?=some o)(hj:l[j]?=some p){t:Tmp}(ht:p.dst=some t):
   (j=i\/o.dst≠some t)/\(t∈fK l o->j=i\/(j<i/\j∈lF o)\/(i<j/\i∈lF p)):=by
 unfold okD at h
 have h1:=(List.all_eq_true.1 h) (o,i) (by rw[List.mem_zipIdx_iff_getElem?]; exact hi)
 simp only[Bool.and_eq_true]at h1
 have h2:=(List.all_eq_true.1 h1.2) (p,j) (by rw[List.mem_zipIdx_iff_getElem?]; exact hj)
 simp only[ht,Bool.and_eq_true,Bool.or_eq_true]at h2
 obtain⟨h3,h4⟩:=h2
 refine⟨?_,fun hn=>?_⟩
 · rcases h3 with h3|h3
   · exact .inl (Nat.eq_of_beq_eq_true h3)
   · cases hd:o.dst with
     |none=>exact .inr (by simp)
     |some u=>
       rw[hd]at h3
       refine .inr fun e=>?_
       have:u=t:=by simpa using e
       subst this
       simp at h3
 · have h5:=(List.all_eq_true.1 h4) t hn
   simp only[Bool.or_eq_true]at h5
   rcases h5 with (h5|h5)|h5
   · simp at h5
   · exact .inl (Nat.eq_of_beq_eq_true h5)
   · by_cases hlt:Nat.blt j i=true
     · rw[if_pos hlt]at h5
       obtain⟨x,hx,hxe⟩:=List.any_eq_true.1 h5
       have:=Nat.eq_of_beq_eq_true hxe
       subst this
       exact .inr (.inl ⟨by simpa[Nat.blt_eq]using hlt,hx⟩)
     · rw[if_neg hlt]at h5
       obtain⟨x,hx,hxe⟩:=List.any_eq_true.1 h5
       have:=Nat.eq_of_beq_eq_true hxe
       subst this
       by_cases e:j=i
       · exact .inl e
       · refine .inr (.inr ⟨?_,hx⟩)
         have:¬ j<i:=fun hh=>hlt (by simpa[Nat.blt_eq]using hh)
         omega
theorem ai5{l:List Oper}(h:okD l=true){i j:Nat}{o:Oper}(hi:l[i]?=some o)(hj:j∈lF o):j<i:=by
 unfold okD at h
 have h1:=(List.all_eq_true.1 h) (o,i) (by rw[List.mem_zipIdx_iff_getElem?]; exact hi)
 simp only[Bool.and_eq_true]at h1
 have:=(List.all_eq_true.1 h1.1) j hj
 simpa[Nat.blt_eq]using this
theorem aru{listed:Array Bool}{j:Nat}(h:listed.getD j false=true):listed.toList[j]?=some true:=by
 rw[Array.getD_eq_getD_getElem?]at h
 cases hj:listed[j]? with
 |none=>rw[hj]at h; simp at h
 |some b=>rw[hj]at h; simp at h; subst h; simpa using hj
theorem apy{listed:Array Bool}{j:Nat}(h:listed.toList[j]?=some true):listed.getD j false=true:=by
 rw[Array.getD_eq_getD_getElem?]
 have:listed[j]?=some true:=by simpa using h
 rw[this]; rfl
section
variable{P:Program} [b_ P]{n:Nat}{f:Fr}{H:aB}{Q:Exit->Fr->aB->Prop}
end
end Go.Fw
namespace Go.Fw
open Go
theorem fo{n:Int}(h1:-9223372036854775808<=n)(h2:n<=9223372036854775807):IntKind.i64.wrap n=n:=by
 have e:IntKind.i64.wrap n=if 9223372036854775808<=n % 18446744073709551616 then n % 18446744073709551616-18446744073709551616 else n % 18446744073709551616:=by
   simp[IntKind.wrap,IntKind.bits,IntKind.signed]
 rw[e]
 split<;>omega
theorem bind_some{α β:Type}{x:Option α}{g:α->Option β}{b:β}(h:x.bind g=some b):∃a,x=some a/\g a=some b:=by
 cases x with
 |none=>simp at h
 |some a=>exact⟨a,rfl,h⟩
end Go.Fw
namespace Go.Fw
open Go Go.RowKit Go.WideShapes Go.ChangeShapes Go.ChangeAt
theorem Step.below{ρ:dR}{H H':aB}{w w':World}{ρ':dR}(h:Step ρ H w ρ' H' w')(hn:∀k L,ρ k=some (some L)->L.own=false):Below w.heap.size w w':=
 ⟨h.os,h.tape,h.output,h.size,fun k hk=>h.frame k hk (fun j L hj ho=>by rw[hn j L hj]at ho; simp at ho)⟩
section
variable{T:Type}{enc:TypeId×Value->T}{P:Program} [b_ P]
theorem af7{Pg:Program}(hl:laidOutB Pg=true){W W':World}(hb:Below W.heap.size W W'){sp:Nat->Bool}:∀{ts:List TypeId}{vs:List Value}{ds:List (DataW T)}{ps:List MemPlace},
   (ts.all fun t=>Pg.readableRec t&&decide (t<Pg.types.size))=true->DataW.TrodAll enc Pg W 0 (fun _=>true) true ts vs ds ps->(∀p∈ps,p.block<W.heap.size)->(∀p∈ps,sp p.block=true)->
   DataW.TrodAll enc Pg W' 0 sp true ts vs ds ps
 |[],[],[],_,_,h,_,_=>h
 |t::ts,v::vs,d::ds,ps,ht,h,hlt,hsp=>by
   obtain⟨p,q,h1,h2,rfl⟩:=h
   simp only[List.all_cons,Bool.and_eq_true,decide_eq_true_eq]at ht
   exact⟨p,q,WideElems.Trod_stays hl ht.1.1 ht.1.2 h1 (fun x hx=>hb.same (hlt x (by simp[hx]))) (fun x hx=>hsp x (by simp[hx])),
     af7 hl hb ht.2 h2 (fun x hx=>hlt x (by simp[hx])) (fun x hx=>hsp x (by simp[hx])),rfl⟩
 |[],_::_,_,_,_,h,_,_=>h.elim
 |[],[],_::_,_,_,h,_,_=>h.elim
 |_::_,[],_,_,_,h,_,_=>h.elim
 |_::_,_::_,[],_,_,h,_,_=>h.elim
theorem ar2{Pg:Program}{f:Func}{s:ChangeSpec}{apart fresh handsOn again:Bool}{W W':World}{args:Array Value}{ds gs:List (DataW T)}{before:List MemPlace}{tb:TypeId}
   (hW:DataW.Whole enc Pg f.params.toList s.vars apart W args.toList ds gs before) (hvars:s.vars=[]) (hl:laidOutB Pg=true)
   (ht:(f.params.toList.all fun t=>Pg.readableRec t&&decide (t<Pg.types.size))=true) (hres:f.resultTypes= #[tb]) (hub:Pg.underlying tb=some .bool)
   (hfn:∀d,(s.fn T d).results=[.lit (.bool true)]/\(s.fn T d).args=d/\(s.fn T d).vars=[]\/d≠ds++gs)
   (hb:Below W.heap.size W W'):s.post enc Pg f apart fresh handsOn again W args (.bool true) W':=by
 have hlt:∀p∈before,p.block<W.heap.size:=fun p hp=>hW.lt p hp
 obtain⟨p,q,hA,hV,hbe,hz,hn⟩:=id hW
 have hV':gs=[]/\q=[]:=by
   rw[hvars]at hV
   cases gs with
   |nil=>exact⟨rfl,hV⟩
   |cons _ _=>exact hV.elim
 obtain⟨rfl,rfl⟩:=hV'
 rw[List.append_nil]at hbe
 subst hbe
 have hf:=(hfn (ds++[])).resolve_right (by simp)
 have hargs:∀sp:Nat->Bool,(∀x∈before,sp x.block=true)->DataW.TrodAll enc Pg W' 0 sp true f.params.toList args.toList (s.fn T (ds++[])).args before:=by
   intro sp hsp
   rw[hf.2.1,List.append_nil]
   exact af7 hl hb ht hA hlt hsp
 have hvs:∀sp:Nat->Bool,DataW.TrodVars enc Pg W' sp s.vars (s.fn T (ds++[])).vars []:=by
   intro sp
   rw[hf.2.2,hvars]
   rfl
 have ajZ:∀(b:Nat)(sp:Nat->Bool)(hd:Bool),DataW.TrodAll enc Pg W' b sp hd f.resultTypes.toList ((Value.bool true).resultList f.resultTypes.size) (s.fn T (ds++[])).results []:=by
   intro b sp hd
   rw[hres,hf.1]
   exact trodAll_cons_mk (shut_bool hub _) trodAll_mk0
 have hold:∀p∈before,(fun b=>decide (b<W.heap.size)) p.block=true:=fun p hp=>by simpa using hlt p hp
 refine⟨ds,[],before,[],before,[],hW,ajZ _ _ _,hargs _ hold,hvs _,World.keptBut_mono (fun p hp=>⟨hp,?_⟩) (hb.frame (· ∈before)),fun _=>?_⟩
 · exact Or.inr (Or.inl hp)
 · refine⟨?_,_,_,([]++before)++[],⟨[]++before,[],trodAll_append (hargs _ (fun _ _=>rfl)) (ajZ _ _ _),hvs _,rfl,?_,?_⟩,?_⟩
   · intro j t r hj hr
     rw[hres]at hj hr
     have hj0:j=0:=by
       rcases Nat.eq_zero_or_pos j with h|h
       · exact h
       · rw[Array.getElem?_eq_none (by simp; omega)]at hj; simp at hj
     subst hj0
     obtain rfl:tb=t:=by simpa using hj
     have hr':r= .bool true:=by simpa[Value.resultList]using hr.symm
     subst hr'
     exact okWide_bool_mk hub _
   · intro b off hp
     have hin:MemPlace.cell b off∈before:=by simpa using hp
     rw[hb.frozen (hlt _ hin)]
     exact hz b off hin
   · intro ha
     simpa using hn ha
   · intro p hp _
     simpa using hp
end
end Go.Fw
