/-
  A framework: an abstract heap, what code does to it, in any schedule. No conditions.
-/
import Derived.Calls
import Derived.Orders
import Derived.Tactics
import Derived.Laws.Strings2
import Derived.Laws.Concat
import Derived.Below
import Derived.ChangeSame
import Derived.Carry
import Derived.ProofKit
import Derived.OpenShut
namespace Go.Fw
open Go
abbrev acs:=@Option.bind_some
abbrev age:=@Bool.and_eq_true
abbrev agr:=@List.length_cons
abbrev ag3:=@decide_eq_true_eq
abbrev apA:=@List.getElem?_eq_getElem
abbrev aqA:=@if_neg
abbrev atV:=@if_pos
abbrev av0:=@Bool.false_eq_true
abbrev av1:=@List.flatMap_cons
abbrev av2:=@Int.cast_ofNat_Int
abbrev aQQ:=@List.getElem?_append_left
abbrev aQR:=@List.getElem?_eq_none
abbrev aQS:=@Nat.le_of_ble_eq_true
abbrev aQT:=@Nat.le_refl
abbrev aQU:=@Int.natCast_add
abbrev aQV:=@List.drop_eq_getElem_cons
abbrev aQW:=@List.length_append
abbrev aQX:=@Bool.not_true
abbrev aQY:=@List.append_assoc
abbrev aQZ:=@List.mem_append
abbrev aQ0:=@Option.some.inj
abbrev aQ1:=@List.mem_cons
abbrev aQ2:=@Nat.lt_of_lt_of_le
abbrev aQ3:=@cond_false
abbrev aQ4:=@Nat.mul_le_mul_right
abbrev aQ5:=@Bool.true_and
abbrev aQ6:=@Nat.le_trans
abbrev aQ7:=@Nat.lt_or_ge
abbrev aQ8:=@List.getElem?_set_ne
abbrev aQ9:=@if_false
abbrev aQ_:=@List.append_nil
abbrev aQ':=@List.length_nil
abbrev aRa:=@List.nil_append
abbrev aRb:=@List.pairwise_cons
abbrev aRc:=@Int.toNat_natCast
abbrev aRd:=@List.not_mem_nil
abbrev aRe:=@Nat.le_of_eq
abbrev aRf:=@Nat.zero_add
abbrev aRg:=@Nat.blt_eq
abbrev aRh:=@List.mem_of_getElem?
abbrev aRi:=@List.length_take
abbrev aRj:=@List.drop_of_length_le
abbrev aRk:=@cond_true
abbrev aRl:=@List.drop_zero
abbrev aRm:=@List.getElem?_take_of_lt
abbrev aRn:=@Int.add_assoc
abbrev aRo:=@List.getElem?_set_self
abbrev aRp:=@Array.getD_eq_getD_getElem?
abbrev aRq:=@List.getElem?_append_right
abbrev aRr:=@if_true
abbrev aRs:=@List.all_eq_not_any_not
abbrev aRt:=@List.take_of_length_le
abbrev aRu:=@List.filter_cons
abbrev aRv:=@List.foldl_cons
abbrev aRw:=@decide_eq_false_iff_not
abbrev aRx:=@Array.getElem?_setIfInBounds_ne
abbrev aRy:=@Nat.add_mul
abbrev aRz:=@List.drop_append_of_le_length
abbrev aRA:=@List.length_filter_le
abbrev aRB:=@List.length_map
abbrev aRC:=@List.take_succ_eq_append_getElem
abbrev aRD:=@List.drop_eq_nil_of_le
abbrev aRE:=@List.getElem?_drop
abbrev aRF:=@Bool.not_false
abbrev aRG:=@List.map_cons
abbrev aRH:=@bne_self_eq_false
abbrev aRI:=@List.take_append_of_le_length
abbrev aRJ:=@congrArg
abbrev aRK:=@List.length_set
abbrev aRL:=@List.flatMap_nil
abbrev aRM:=@Bool.eq_false_or_eq_true
abbrev aRN:=@List.all_eq_true
abbrev aRO:=@List.flatMap_append
abbrev aRP:=@List.size_toArray
abbrev aRQ:=@or_false
abbrev aRR:=@List.drop_drop
abbrev aRS:=@List.all_cons
abbrev aRT:=@List.length_drop
abbrev aRU:=@Nat.eq_of_beq_eq_true
abbrev aRV:=@Nat.add_zero
abbrev aRW:=@Nat.succ_mul
abbrev aRX:=@Int.natCast_nonneg
abbrev aRY:=@List.mem_of_mem_take
abbrev aRZ:=@beq_iff_eq
abbrev aR0:=@List.ext_getElem?
abbrev aR1:=@Bool.not_eq_true'
abbrev aR2:=@Option.some.injEq
abbrev aR3:=@Array.length_toList
abbrev aR4:=@Bool.or_eq_true
abbrev aR5:=@Nat.zero_mul
abbrev aR6:=@List.perm_middle
abbrev aR7:=@List.take_length
abbrev aR8:=@forall_eq_or_imp
abbrev aR9:=@Nat.min_eq_left
abbrev aR_:=@List.any_cons
abbrev aR':=@Bool.false_or
abbrev aSa:=@List.getElem?_take
abbrev aSb:=@decide_eq_true
abbrev aSc:=@List.length_singleton
abbrev aSd:=@List.sublist_append_right
abbrev aSe:=@List.sublist_append_left
abbrev aSf:=@List.set_set
abbrev aSg:=@Nat.pow_le_pow_right
abbrev aSh:=@Array.getElem?_push
abbrev aSi:=@List.mem_zipIdx_iff_getElem?
abbrev aSj:=@List.drop_length
abbrev aSk:=@List.zip_cons_cons
abbrev aSl:=@List.filter_append
abbrev aSm:=@Array.toList_setIfInBounds
abbrev aSn:=@List.getD_eq_getElem?_getD
abbrev aSo:=@Array.size_append
abbrev aSp:=@decide_true
abbrev aSq:=@trivial
abbrev aSr:=@Bool.false_and
abbrev aSs:=@Option.getD_some
abbrev aSt:=@List.cons_append
abbrev aSu:=@List.getElem?_replicate
abbrev aSv:=@Nat.add_assoc
abbrev aSw:=@List.mem_filter
abbrev aSx:=@List.getElem?_map
abbrev aSy:=@List.getElem_mem
abbrev aSz:=@List.map_snd_zip
abbrev aSA:=@List.mem_of_mem_drop
abbrev aSB:=@Array.getElem?_append_left
abbrev aSC:=@Nat.one_mul
abbrev aSD:=@List.drop_set_of_lt
abbrev aSE:=@List.replicate_succ
abbrev aSF:=@Nat.mul_le_mul_left
abbrev aSG:=@Option.map_some
abbrev aSH:=@Array.getElem?_eq_getElem
abbrev aSI:=@List.map_append
abbrev aSJ:=@Nat.le_of_lt
abbrev aSK:=@Array.ext_getElem?
abbrev aSL:=@Nat.add_comm
abbrev aSM:=@Nat.eq_zero_or_pos
abbrev aSN:=@decide_false
abbrev aSO:=@Ne.symm
abbrev aSP:=@Nat.mul_le_mul
abbrev aSQ:=@List.Sublist.refl
abbrev aSR:=@List.zipIdx_cons
abbrev aSS:=@Array.all_eq_true_iff_forall_mem
abbrev aST:=@Nat.lt_succ_self
abbrev aSU:=@List.length_replicate
abbrev aSV:=@Nat.ble_eq
abbrev aSW:=@List.erase_cons_head
abbrev aSX:=@Nat.mul_comm
abbrev aSY:=@Bool.eq_iff_iff
abbrev aSZ:=@Array.toList_zipIdx
abbrev aS0:=@List.take_set_of_le
abbrev aS1:=@Bool.and_false
abbrev aS2:=@Nat.mul_one
abbrev aS3:=@Array.foldl_toList
abbrev aS4:=@not_or
abbrev aS5:=@List.mem_cons_self
abbrev aS6:=@List.sum_cons
abbrev aS7:=@false_implies
abbrev aS8:=@List.getElem?_set
abbrev aS9:=@List.getElem_take
abbrev aS_:=@List.foldl_append
abbrev aS':=@Decidable.not_not
abbrev aTa:=@bne_iff_ne
abbrev aTb:=@forall_eq'
abbrev aTc:=@List.mem_of_find?_eq_some
abbrev aTd:=@decide_eq_decide
abbrev aTe:=@implies_true
abbrev aTf:=@Bool.true_or
abbrev aTg:=@List.take_append_getElem
abbrev aTh:=@Nat.le_mul_of_pos_right
abbrev aTi:=@List.cons.injEq
abbrev aTj:=@List.nodup_cons
abbrev aTk:=@Int.le_refl
abbrev aTl:=@wp_mono
abbrev aTm:=@List.take_take
abbrev aTn:=@Nat.testBit_or
abbrev aTo:=@true_and
abbrev aTp:=@Bool.and_true
abbrev aTq:=@Nat.mul_assoc
abbrev aTr:=@forall_eq
structure eO where
 elems:List Value
 ty:TypeId
 own:Bool
 wr:Bool
abbrev aB:=List (Option eO)
def core(b:Option eO):Option (List Value×TypeId×Bool):=b.map fun b=>(b.elems,b.ty,b.own)
structure Loc where
 blk:Nat
 off:Nat
 sz:Nat
 cap:Nat
 own:Bool
abbrev dI:=Nat->Option (Option Loc)
mutual
inductive bW (ρ:dI):Value->Value->Prop
 |bool (b:Bool):bW ρ (.bool b) (.bool b)
 |int (k:IntKind) (n:Int):bW ρ (.int k n) (.int k n)
 |string (s:ByteArray):bW ρ (.string s) (.string s)
 |nilPtr:bW ρ (.pointer none) (.pointer none)
 |ptr (k i j:Nat) (L:Loc) (h:ρ k=some (some L)):bW ρ (.pointer (some ⟨k,i,some j⟩)) (.pointer (some ⟨L.blk,L.off+i*L.sz+j,none⟩))
 |IZ (k i:Nat) (s:Option Nat) (p:Addr) (h:ρ k=some none):bW ρ (.pointer (some ⟨k,i,s⟩)) (.pointer (some p))
 |oF:bW ρ (.slice none 0 0) (.slice none 0 0)
 |slice (k i n m:Nat) (L:Loc) (p:Addr) (cap:Nat) (h:ρ k=some (some L)) (hc:n<=cap) (h1:m=1->cap=n/\n<=L.cap)
     (h2:2<=m->i=0/\L.own=true/\cap<=L.cap/\p=⟨L.blk,L.off,none⟩/\(3<=m->cap+3=m)) (hp:n≠0->p=⟨L.blk,L.off+i*L.sz,none⟩/\(L.own=true->i+n<=L.cap)):
     bW ρ (.slice (some ⟨k,i,none⟩) n m) (.slice (some p) n cap)
 |ui (k i n m:Nat) (p:Addr) (cap:Nat) (h:ρ k=some none):bW ρ (.slice (some ⟨k,i,none⟩) n m) (.slice (some p) n cap)
 |func (fn:Fn) (a b a' b':List Value) (h:bn ρ a a') (h':bn ρ b b'):bW ρ (.func fn a.toArray b.toArray) (.func fn a'.toArray b'.toArray)
 |nilFunc:bW ρ .nilFunc .nilFunc
 |iface (t:TypeId) (v v':Value) (h:bW ρ v v'):bW ρ (.iface t v) (.iface t v')
 |nilIface:bW ρ .nilIface .nilIface
 |agg (a a':List Value) (h:bn ρ a a'):bW ρ (.agg a.toArray) (.agg a'.toArray)
 |tuple (a a':List Value) (h:bn ρ a a'):bW ρ (.tuple a.toArray) (.tuple a'.toArray)
inductive bn (ρ:dI):List Value->List Value->Prop
 |nil:bn ρ [] []
 |cons (v v':Value) (l l':List Value) (h:bW ρ v v') (t:bn ρ l l'):bn ρ (v::l) (v'::l')
end
def Up(ρ ρ':dI):Prop:=∀k,ρ k=none\/ρ' k=ρ k\/ρ' k=some none
theorem Up.refl(ρ:dI):Up ρ ρ:=fun _=>.inr (.inl rfl)
theorem Up.trans{a b c:dI}(h:Up a b)(h':Up b c):Up a c:=by
 intro k
 rcases h k with e|e|e
 · exact .inl e
 · rcases h' k with e'|e'|e'
   · exact .inl (e ▸ e')
   · exact .inr (.inl (e'.trans e))
   · exact .inr (.inr e')
 · rcases h' k with e'|e'|e'
   · rw[e]at e'; exact absurd e' (by simp)
   · exact .inr (.inr (e'.trans e))
   · exact .inr (.inr e')
mutual
theorem bW.up{ρ ρ':dI}(hu:Up ρ ρ'){v c:Value}(h:bW ρ v c):bW ρ' v c:=by
 cases h with
 |bool b=>exact .bool b
 |int k n=>exact .int k n
 |string s=>exact .string s
 |nilPtr=>exact .nilPtr
 |ptr k i j L h=>
   rcases hu k with e|e|e
   · rw[e]at h; exact absurd h (by simp)
   · exact .ptr k i j L (e.trans h)
   · exact .IZ k i _ _ e
 |IZ k i s p h=>
   rcases hu k with e|e|e
   · rw[e]at h; exact absurd h (by simp)
   · exact .IZ k i s p (e.trans h)
   · exact .IZ k i s p e
 |oF=>exact .oF
 |slice k i n m L p cap h hc h1 h2 hp=>
   rcases hu k with e|e|e
   · rw[e]at h; exact absurd h (by simp)
   · exact .slice k i n m L p cap (e.trans h) hc h1 h2 hp
   · exact .ui k i n m p cap e
 |ui k i n m p cap h=>
   rcases hu k with e|e|e
   · rw[e]at h; exact absurd h (by simp)
   · exact .ui k i n m p cap (e.trans h)
   · exact .ui k i n m p cap e
 |func fn a b a' b' h h'=>exact .func fn a b a' b' (bn.up hu h) (bn.up hu h')
 |nilFunc=>exact .nilFunc
 |iface t v v' h=>exact .iface t v v' (bW.up hu h)
 |nilIface=>exact .nilIface
 |agg a a' h=>exact .agg a a' (bn.up hu h)
 |tuple a a' h=>exact .tuple a a' (bn.up hu h)
theorem bn.up{ρ ρ':dI}(hu:Up ρ ρ'){v c:List Value}(h:bn ρ v c):bn ρ' v c:=by
 cases h with
 |nil=>exact .nil
 |cons v v' l l' h t=>exact .cons v v' l l' (bW.up hu h) (bn.up hu t)
end
theorem bn.length{ρ:dI}:∀{a b:List Value},bn ρ a b->a.length=b.length
 |_,_,.nil=>rfl
 |_,_,.cons _ _ _ _ _ t=>by simp[t.length]
theorem bn.get{ρ:dI}:∀{a b:List Value},bn ρ a b-> ∀(i:Nat)(v:Value),a[i]?=some v-> ∃c,b[i]?=some c/\bW ρ v c
 |_,_,.nil,i,v,h=>by simp at h
 |_,_,.cons x y l l' h t,0,v,e=>by
   have:x=v:=by simpa using e
   subst this
   exact⟨y,by simp,h⟩
 |_,_,.cons x y l l' h t,i+1,v,e=>by
   have e':l[i]?=some v:=by simpa using e
   obtain⟨c,hc,hr⟩:=t.get i v e'
   exact⟨c,by simpa using hc,hr⟩
theorem bn.of_get{ρ:dI}:∀{a b:List Value},a.length=b.length->(∀(i:Nat) v c,a[i]?=some v->b[i]?=some c->bW ρ v c)->bn ρ a b
 |[],[],_,_=>.nil
 |[],_::_,h,_=>by simp at h
 |_::_,[],h,_=>by simp at h
 |x::a,y::b,h,hr=>.cons x y a b (hr 0 x y (by simp) (by simp)) (bn.of_get (by simpa using h) (fun i v c e e'=>hr (i+1) v c (by simpa using e) (by simpa using e')))
theorem bn.append{ρ:dI}:∀{a b c d:List Value},bn ρ a b->bn ρ c d->bn ρ (a++c) (b++d)
 |_,_,_,_,.nil,h=>h
 |_,_,_,_,.cons v v' l l' h t,h'=>.cons _ _ _ _ h (t.append h')
theorem bn.take{ρ:dI}:∀{a b:List Value}(n:Nat),bn ρ a b->bn ρ (a.take n) (b.take n)
 |_,_,0,_=>by simpa using bn.nil
 |_,_,_+1,.nil=>by simpa using bn.nil
 |_,_,n+1,.cons v v' l l' h t=>.cons _ _ _ _ h (t.take n)
theorem bn.drop{ρ:dI}:∀{a b:List Value}(n:Nat),bn ρ a b->bn ρ (a.drop n) (b.drop n)
 |_,_,0,h=>h
 |_,_,_+1,.nil=>by simpa using bn.nil
 |_,_,n+1,.cons v v' l l' h t=>t.drop n
class bF(P:Program) where
 V:World->Prop
def GG(P:Program) [bF P](ρ:dI)(w:World):Prop:=
 ∃w0:World,bF.V P w0/\w0.heap.size<=w.heap.size/\(∀b,b<w0.heap.size->w.heap[b]?=w0.heap[b]?)/\ ∀k L,ρ k=some (some L)->L.own=true->w0.heap.size<=L.blk
theorem GG.keep{P:Program} [bF P]{ρ ρ':dI}{w w':World}(h:GG P ρ w)(hs:w.heap.size<=w'.heap.size)(hf:∀b,b<w.heap.size->(∀k L,ρ k=some (some L)->L.own=true->L.blk≠b)->w'.heap[b]?=w.heap[b]?)
   (hn:∀k L,ρ' k=some (some L)->L.own=true->ρ k=some (some L)\/w.heap.size<=L.blk\/ ∃k0 L0,ρ k0=some (some L0)/\L0.own=true/\L0.blk=L.blk):GG P ρ' w':=by
 obtain⟨w0,h1,h2,h3,h4⟩:=h
 refine⟨w0,h1,aQ6 h2 hs,fun b hb=>?_,fun k L hk ho=>?_⟩
 · rw[hf b (aQ2 hb h2) fun k L hk ho e=>by have:=h4 k L hk ho; omega,h3 b hb]
 · rcases hn k L hk ho with e|e|⟨k0,L0,e1,e2,e3⟩
   · exact h4 k L e ho
   · exact aQ6 h2 e
   · rw[←e3]; exact h4 k0 L0 e1 e2
structure xm(P:Program) [bF P](ρ:dI)(L:Loc)(b:eO)(w:World):Prop where
 own:b.own=L.own
 sz:P.cellsOf b.ty=L.sz
 cells:∃cs ct fr,w.heap[L.blk]?=some (.cells cs ct fr)/\
   (∀(i:Nat) e,b.elems[i]?=some e->e.cells.size=L.sz/\bn ρ e.cells.toList ((cs.toList.drop (L.off+i*L.sz)).take L.sz))/\
   (L.own=true->L.off=0/\L.cap*L.sz<=cs.size/\b.elems.length<=L.cap/\(∀o,o<=cs.size-> ¬ (fr.1<=o/\o<fr.2))/\ct=b.ty)
structure aD(P:Program) [bF P](ρ:dI)(H:aB)(w:World):Prop where
 blk:∀k L,ρ k=some (some L)-> ∃b,H[k]?=some (some b)/\xm P ρ L b w
 alive:∀(k:Nat) b,H[k]?=some (some b)->ρ k≠some none
 dom:∀k,H.length<=k->ρ k=none
 inj:∀k k' L L',ρ k=some (some L)->ρ k'=some (some L')->L.own=true->L.blk=L'.blk->k=k'
 xU:GG P ρ w
structure Step(ρ:dI)(H:aB)(w:World)(ρ':dI)(H':aB)(w':World):Prop where
 up:Up ρ ρ'
 os:w'.os=w.os
 output:w'.output=w.output
 tape:w'.tape=w.tape
 size:w.heap.size<=w'.heap.size
 frame:∀b,b<w.heap.size->(∀k L,ρ k=some (some L)->L.own=true->L.blk≠b)->w'.heap[b]?=w.heap[b]?
 fresh:∀k L,ρ' k=some (some L)->ρ k=some (some L)\/(L.own=true/\(w.heap.size<=L.blk\/ ∃k0 L0,ρ k0=some (some L0)/\L0.own=true/\L0.blk=L.blk))
 len:H.length<=H'.length
 hold:∀k,k<H.length->ρ k=none->ρ' k=none/\(H'[k]?).map core=(H[k]?).map core
theorem GG.step{P:Program} [bF P]{ρ ρ':dI}{H H':aB}{w w':World}(h:GG P ρ w)(g:Step ρ H w ρ' H' w'):GG P ρ' w':=
 h.keep g.size g.frame fun k L hk _=>(g.fresh k L hk).imp id fun h=>h.2
theorem Step.refl(ρ:dI)(H:aB)(w:World):Step ρ H w ρ H w:=
 ⟨Up.refl ρ,rfl,rfl,rfl,aQT _,fun _ _ _=>rfl,fun _ _ h=>.inl h,aQT _,fun _ _ h=>⟨h,rfl⟩⟩
theorem Step.trans{ρ ρ₁ ρ₂:dI}{H H₁ H₂:aB}{w w₁ w₂:World}(h:Step ρ H w ρ₁ H₁ w₁)(g:Step ρ₁ H₁ w₁ ρ₂ H₂ w₂):Step ρ H w ρ₂ H₂ w₂ where
 up:=h.up.trans g.up
 os:=g.os.trans h.os
 output:=g.output.trans h.output
 tape:=g.tape.trans h.tape
 size:=aQ6 h.size g.size
 frame b hb hn:=by
   rw[g.frame b (aQ2 hb h.size) ?_,h.frame b hb hn]
   intro k L hk ho he
   rcases h.fresh k L hk with e|⟨-,e|⟨k0,L0,h0,ho0,e⟩⟩
   · exact hn k L e ho he
   · omega
   · exact hn k0 L0 h0 ho0 (e.trans he)
 fresh k L hk:=by
   rcases g.fresh k L hk with e|⟨ho,e|⟨k0,L0,h0,ho0,e⟩⟩
   · exact h.fresh k L e
   · exact .inr ⟨ho,.inl (aQ6 h.size e)⟩
   · rcases h.fresh k0 L0 h0 with e'|⟨-,e'|⟨k1,L1,h1,ho1,e'⟩⟩
     · exact .inr ⟨ho,.inr ⟨k0,L0,e',ho0,e⟩⟩
     · exact .inr ⟨ho,.inl (e ▸ e')⟩
     · exact .inr ⟨ho,.inr ⟨k1,L1,h1,ho1,e'.trans e⟩⟩
 len:=aQ6 h.len g.len
 hold k hk hn:=by
   obtain⟨h1,h2⟩:=h.hold k hk hn
   obtain⟨g1,g2⟩:=g.hold k (aQ2 hk h.len) h1
   exact⟨g1,g2.trans h2⟩
abbrev Fr:=Nat->Value
def upd(f:Fr)(t:Nat)(v:Value):Fr:=fun s=>bif Nat.beq s t then v else f s
def put(f:Fr)(d:Option Tmp)(v:Value):Fr:=match d with|some t=>upd f t v|none=>f
theorem IL(f:Fr)(t:Nat)(v:Value):upd f t v t=v:=by simp[upd]
theorem upd_ne(f:Fr){t s:Nat}(v:Value)(h:s≠t):upd f t v s=f s:=by
 have:Nat.beq s t=false:=by cases e:Nat.beq s t with|true=>exact absurd (aRU e) h|false=>rfl
 simp[upd,this]
theorem axP(f:Fr)(t:Nat):upd f t (f t)=f:=by
 funext s
 by_cases h:s=t
 · subst h; exact IL _ _ _
 · exact upd_ne _ _ h
structure kY(ρ:dI)(n:Nat)(f:Fr)(a:Act):Prop where
 defers:a.defers=[]
 size:a.tmps.size=n
 get:∀t,t<n->bW ρ (f t) (a.tmps.getD t undef)
theorem kY.up{ρ ρ':dI}(hu:Up ρ ρ'){n:Nat}{f:Fr}{a:Act}(h:kY ρ n f a):kY ρ' n f a:=
 ⟨h.defers,h.size,fun t ht=>(h.get t ht).up hu⟩
theorem bW.undef(ρ:dI):bW ρ undef undef:=.tuple [] [] .nil
theorem kY.put{ρ:dI}{n:Nat}{f:Fr}{a:Act}(h:kY ρ n f a)(d:Option Tmp){v c:Value}(hv:bW ρ v c):kY ρ n (put f d v) (a.put d c):=by
 cases d with
 |none=>exact h
 |some d=>
   refine⟨h.defers,by simp[Act.put,h.size],fun t ht=>?_⟩
   simp only[Act.put,Fw.put]
   by_cases e:t=d
   · subst e
     rw[IL]
     have:(a.tmps.setIfInBounds t c).getD t Go.undef=c:=by
       have hlt:t<a.tmps.size:=by rw[h.size]; exact ht
       simp[aRp,hlt]
     rw[this]; exact hv
   · rw[upd_ne _ _ e]
     have:(a.tmps.setIfInBounds d c).getD t Go.undef=a.tmps.getD t Go.undef:=by
       simp[aRp,aSO e]
     rw[this]; exact h.get t ht
def EV(n:Nat)(f:Fr)(x:Operand)(v:Value):Prop:=(∃t,x= .tmp t/\f t=v/\t<n)\/((∀t,x≠ .tmp t)/\ ∀ρ (a:Act),bW ρ v (a.eval x))
theorem EV.use{n:Nat}{f:Fr}{x:Operand}{v:Value}(h:EV n f x v){ρ:dI}{a:Act}(hf:kY ρ n f a):bW ρ v (a.eval x):=by
 rcases h with⟨t,rfl,rfl,ht⟩|⟨-,h⟩
 · exact hf.get t ht
 · exact h ρ a
theorem EV.tmp{n:Nat}{f:Fr}{t:Nat}{v:Value}(hv:f t=v)(ht:Nat.blt t n=true):EV n f (.tmp t) v:=
 .inl ⟨t,rfl,hv,by simpa[aRg]using ht⟩
theorem EV.closed{n:Nat}{f:Fr}{x:Operand}{v:Value}(hx:∀t,x≠ .tmp t)(h:∀ρ (a:Act),bW ρ v (a.eval x)):EV n f x v:=.inr ⟨hx,h⟩
theorem EV.int{n:Nat}{f:Fr}(k:IntKind)(i:Int):EV n f (.const (.int k i)) (.int k i):=.closed (by simp) fun _ _=>.int k i
theorem EV.bool{n:Nat}{f:Fr}(b:Bool):EV n f (.const (.bool b)) (.bool b):=.closed (by simp) fun _ _=>.bool b
theorem EV.str{n:Nat}{f:Fr}(s:ByteArray):EV n f (.const (.string s)) (.string s):=.closed (by simp) fun _ _=>.string s
theorem EV.oF{n:Nat}{f:Fr}:EV n f (.const (.slice none 0 0)) (.slice none 0 0):=.closed (by simp) fun _ _=>.oF
theorem EV.nilFunc{n:Nat}{f:Fr}:EV n f (.const .nilFunc) .nilFunc:=.closed (by simp) fun _ _=>.nilFunc
theorem EV.nilPtr{n:Nat}{f:Fr}:EV n f (.const (.pointer none)) (.pointer none):=.closed (by simp) fun _ _=>.nilPtr
theorem EV.nilIface{n:Nat}{f:Fr}:EV n f (.const .nilIface) .nilIface:=.closed (by simp) fun _ _=>.nilIface
theorem EV.fn{n:Nat}{f:Fr}(g:FuncId):EV n f (.func g) (.func (.func g) #[] #[]):=.closed (by simp) fun _ _=>.func _ [] [] [] [] .nil .nil
def Tt(P:Program) [bF P](n:Nat)(ρ:dI)(H:aB)(w:World)(Q:Exit->Fr->aB->Prop)(e:Exit)(a':Act)(w':World):Prop:=
 ∃f' ρ' H',kY ρ' n f' a'/\aD P ρ' H' w'/\Step ρ H w ρ' H' w'/\Q e f' H'
def AW(P:Program) [bF P](n:Nat)(c:Code)(Q:Exit->Fr->aB->Prop)(f:Fr)(H:aB):Prop:=
 ∀ρ w a,aD P ρ H w->kY ρ n f a->c.wp P (Tt P n ρ H w Q) a w
def AC(P:Program) [bF P](g:FuncId)(args:List Value)(H:aB)(Q:Value->aB->Prop):Prop:=
 ∀ρ w (lI:Array Value),aD P ρ H w->bn ρ args lI.toList->Calls P g lI w fun e w'=>
   ∃v r ρ' H',e= .returned v/\bW ρ' r v/\aD P ρ' H' w'/\Step ρ H w ρ' H' w'/\Q r H'
theorem AC.mono{P:Program} [bF P]{g:FuncId}{args:List Value}{H:aB}{Q Q':Value->aB->Prop}(h:AC P g args H Q)(hq:∀r H',Q r H'->Q' r H'):AC P g args H Q':=
 fun ρ w lI hr ha=>(h ρ w lI hr ha).mono fun _ _ ⟨v,r,ρ',H',h1,h2,h3,h4,h5⟩=>⟨v,r,ρ',H',h1,h2,h3,h4,hq r H' h5⟩
section
variable{P:Program} [bF P]{n:Nat}{f:Fr}{H:aB}{Q:Exit->Fr->aB->Prop}
theorem AW.mono{c:Code}{Q':Exit->Fr->aB->Prop}(h:AW P n c Q f H)(hq:∀e f H,Q e f H->Q' e f H):AW P n c Q' f H:=
 fun ρ w a hr hf=>aTl (h ρ w a hr hf) fun _ _ _ ⟨f',ρ',H',h1,h2,h3,h4⟩=>⟨f',ρ',H',h1,h2,h3,hq _ _ _ h4⟩
theorem axQ(h:Q .normal f H):AW P n .skip Q f H:=fun ρ _ _ hr hf=>wp_skip ⟨f,ρ,H,hf,hr,Step.refl _ _ _,h⟩
theorem axR{id:Nat}(h:Q (.exit id) f H):AW P n (.exit id) Q f H:=fun ρ _ _ hr hf=>wp_exit ⟨f,ρ,H,hf,hr,Step.refl _ _ _,h⟩
theorem ay7(h:Q .ret f H):AW P n .ret Q f H:=fun ρ _ _ hr hf=>wp_ret ⟨f,ρ,H,hf,hr,Step.refl _ _ _,h⟩
def Then(next:Fr->aB->Prop)(Q:Exit->Fr->aB->Prop):Exit->Fr->aB->Prop
 | .normal,f,H=>next f H
 |e,f,H=>Q e f H
theorem ay8{x y:Code}{M:Fr->aB->Prop}(h:AW P n x (Then M Q) f H)(hm:∀f' H',M f' H'->AW P n y Q f' H'):AW P n (.seq x y) Q f H:=by
 intro ρ w a hr hf
 refine wp_seq (aTl (h ρ w a hr hf) fun e a' w' hp=>?_)
 obtain⟨f',ρ',H',h1,h2,h3,h4⟩:=hp
 cases e with
 |normal=>
   refine aTl (hm f' H' h4 ρ' w' a' h2 h1) fun e a'' w'' hp'=>?_
   obtain⟨Oj,xV,xW,g1,g2,g3,g4⟩:=hp'
   exact⟨Oj,xV,xW,g1,g2,h3.trans g3,g4⟩
 |_=>exact⟨f',ρ',H',h1,h2,h3,h4⟩
theorem axS{c:Operand}{x y:Code}{t:Bool}(hc:EV n f c (.bool t))(h1:t=true->AW P n x Q f H)(h2:t=false->AW P n y Q f H):AW P n (.cond c x y) Q f H:=by
 intro ρ w a hr hf
 have hv:=hc.use hf
 generalize hx:a.eval c=v at hv
 cases hv
 exact wp_cond_split hx (fun e=>h1 e ρ w a hr hf) (fun e=>h2 e ρ w a hr hf)
def aej(id:Nat)(Q:Exit->Fr->aB->Prop):Exit->Fr->aB->Prop
 | .exit id',f,H=>if id'=id then Q .normal f H else Q (.exit id') f H
 |e,f,H=>Q e f H
theorem aw1{id:Nat}{c:Code}(h:AW P n c (aej id Q) f H):AW P n (.block id c) Q f H:=by
 intro ρ w a hr hf
 refine wp_block (aTl (h ρ w a hr hf) fun e a' w' hp=>?_)
 obtain⟨f',ρ',H',h1,h2,h3,h4⟩:=hp
 cases e with
 |exit id'=>
   simp only[aej]at h4
   simp only[Exit.inBlock]
   split
   · rename_i he; rw[atV he]at h4; exact⟨f',ρ',H',h1,h2,h3,h4⟩
   · rename_i he; rw[aqA he]at h4; exact⟨f',ρ',H',h1,h2,h3,h4⟩
 |_=>exact⟨f',ρ',H',h1,h2,h3,h4⟩
theorem axT{c:Code}(I:Nat->Fr->aB->Prop)(m:Nat)(h0:I m f H)
   (round:∀m f H,I m f H->AW P n c (Then (fun f' H'=>∃m',m'<m/\I m' f' H') Q) f H):AW P n (.loop c) Q f H:=by
 intro ρ w a hr hf b k cs
 have key:∀m f H ρ w a,aD P ρ H w->kY ρ n f a->I m f H->
     ∃e a' w',Tt P n ρ H w Q e a' w'/\Arrives P (lone (b.at a (.code c:: .inLoop c::k)) cs w) b k cs e a' w':=by
   intro m
   induction m using Nat.strongRecOn with
   |_ m ih=>
     intro f H ρ w a hr hf hI
     obtain⟨e,a₁,w₁,hq,harr⟩:=round m f H hI ρ w a hr hf b (.inLoop c::k) cs
     obtain⟨f',ρ',H',h1,h2,h3,h4⟩:=hq
     cases e with
     |normal=>
       obtain⟨m',hlt,hI'⟩:=h4
       obtain⟨e₂,a₂,w₂,hq₂,harr₂⟩:=ih m' hlt f' H' ρ' w₁ a₁ h2 h1 hI'
       obtain⟨Oj,xV,xW,g1,g2,g3,g4⟩:=hq₂
       exact⟨e₂,a₂,w₂,⟨Oj,xV,xW,g1,g2,h3.trans g3,g4⟩,.of_steps (Steps.trans harr (.one step_inLoop)) harr₂⟩
     |exit id=>exact⟨_,a₁,w₁,⟨f',ρ',H',h1,h2,h3,h4⟩,.pass (x:=.inLoop c) rfl (fun _ _=>.inl (by simp)) harr⟩
     |goto l=>exact⟨_,a₁,w₁,⟨f',ρ',H',h1,h2,h3,h4⟩,.pass (x:=.inLoop c) rfl (fun _ _=>.inl (by simp)) harr⟩
     |ret=>exact⟨_,a₁,w₁,⟨f',ρ',H',h1,h2,h3,h4⟩,.pass (x:=.inLoop c) rfl (fun _ _=>.inl (by simp)) harr⟩
     |panic ch=>exact⟨_,a₁,w₁,⟨f',ρ',H',h1,h2,h3,h4⟩,.pass (x:=.inLoop c) rfl (fun _ _=>.inl (by simp)) harr⟩
     |outgrown=>exact⟨_,a₁,w₁,⟨f',ρ',H',h1,h2,h3,h4⟩,.pass (x:=.inLoop c) rfl (fun _ _=>.inl (by simp)) harr⟩
 obtain⟨e,a',w',hq,harr⟩:=key m f H ρ w a hr hf h0
 exact⟨e,a',w',hq,.of_steps (.one step_loop) harr⟩
end
end Go.Fw
namespace Go.Fw
open Go
def Wanted(n:Nat)(A:Array Oper)(f:Fr)(o:Oper)(b:Bool):Prop:=∀ρ a,kY ρ n f a->Region.wanted o (yielded A a.tmps)=b
def AU(P:Program) [bF P](n:Nat)(o:Oper)(f:Fr)(H:aB)(K:Fr->aB->Prop):Prop:=
 ∀ρ w a (K':Act->World->Prop)(Q':Exit->Act->World->Prop),aD P ρ H w->kY ρ n f a->
   (∀f' ρ' H' a' w',kY ρ' n f' a'->aD P ρ' H' w'->Step ρ H w ρ' H' w'->K f' H'->K' a' w')->o.wp P a w K' Q'
def pg(P:Program) [bF P](n:Nat)(A:Array Oper)(l:List Oper)(f:Fr)(H:aB)(K:Fr->aB->Prop):Prop:=
 ∀ρ w a (Q':Exit->Act->World->Prop),aD P ρ H w->kY ρ n f a->
   (∀f' ρ' H' a' w',kY ρ' n f' a'->aD P ρ' H' w'->Step ρ H w ρ' H' w'->K f' H'->Q' .normal a' w')->wpList P A Q' l a w
section
variable{P:Program} [bF P]{n:Nat}{f:Fr}{H:aB}{A:Array Oper}{o:Oper}{r:List Oper}{K:Fr->aB->Prop}
theorem aw2(h:K f H):pg P n A [] f H K:=fun _ _ _ _ hr hf hk=>hk _ _ _ _ _ hf hr (Step.refl _ _ _) h
theorem ad3(hw:Wanted n A f o true)(h:AU P n o f H (fun f' H'=>pg P n A r f' H' K)):pg P n A (o::r) f H K:=by
 intro ρ w a Q' hr hf hk
 refine wpList_step fun K' hK'=>?_
 rw[atV (hw ρ a hf)]
 refine h ρ w a K' Q' hr hf fun f' ρ' H' a' w' h1 h2 h3 h4=>hK' _ _ ?_
 exact h4 ρ' w' a' Q' h2 h1 fun Oj xV xW a'' w'' g1 g2 g3 g4=>hk _ _ _ _ _ g1 g2 (h3.trans g3) g4
theorem alf(hw:Wanted n A f o false)(h:pg P n A r (put f o.dst undef) H K):pg P n A (o::r) f H K:=by
 intro ρ w a Q' hr hf hk
 refine wpList_step fun K' hK'=>?_
 rw[aqA (by rw[hw ρ a hf]; simp)]
 exact hK' _ _ (h ρ w _ Q' hr (hf.put o.dst (bW.undef ρ)) hk)
theorem Wanted.none(h:o.guard=none):Wanted n A f o true:=fun _ _ _=>by simp[Region.wanted,h]
theorem Wanted.guard{j:Nat}{want b:Bool}{t:Tmp}(h:o.guard=some (j,want))(hd:(A[j]?).bind (·.dst)=some t)(hv:f t= .bool b)(ht:Nat.blt t n=true):
   Wanted n A f o (b==want):=by
 intro ρ a hf
 have hlt:t<n:=by simpa[aRg]using ht
 have hr:=hf.get t hlt
 rw[hv]at hr
 have hlt':t<a.tmps.size:=by rw[hf.size]; exact hlt
 have hg:a.tmps[t]?=some (a.tmps.getD t undef):=by
   simp[aRp,hlt']
 generalize a.tmps.getD t undef=c at hr hg
 cases hr
 simp[Region.wanted,h,yielded,hd,hg]
theorem awn{id:Nat}{l:List Oper}{Q:Exit->Fr->aB->Prop}(h:pg P n l.toArray l f H (fun f' H'=>Q .normal f' H')):AW P n (.region id l.toArray false) Q f H:=
 fun ρ w a hr hf=>wp_region_lit (h ρ w a _ hr hf fun f' ρ' H' _ _ h1 h2 h3 h4=>⟨f',ρ',H',h1,h2,h3,h4⟩)
theorem Zy{v:Value}(hv:∀ρ w a,aD P ρ H w->kY ρ n f a-> ∃c,(execOp a.eval o).run P w= .ok (.value c) w/\bW ρ v c)
   (h:K (put f o.dst v) H):AU P n o f H K:=by
 intro ρ w a K' Q' hr hf hk
 obtain⟨c,hrun,hrel⟩:=hv ρ w a hr hf
 show o.upon P a K' Q' _
 rw[hrun]
 exact hk _ _ _ _ _ (hf.put o.dst hrel) hr (Step.refl _ _ _) h
theorem avG{v:Value}(hg:o.guard=none)(hv:∀ρ w a,aD P ρ H w->kY ρ n f a-> ∃c,(execOp a.eval o).run P w= .ok (.value c) w/\bW ρ v c)
   (h:pg P n A r (put f o.dst v) H K):pg P n A (o::r) f H K:=ad3 (.none hg) (Zy hv h)
end
def fK(P:Program) [bF P](n:Nat)(o:Oper)(f:Fr)(H:aB)(v:Value):Prop:=
 ∀ρ w a,aD P ρ H w->kY ρ n f a-> ∃c,(execOp a.eval o).run P w= .ok (.value c) w/\bW ρ v c
theorem vV{P:Program} [bF P]{n:Nat}{f:Fr}{H:aB}{A:Array Oper}{r:List Oper}{K:Fr->aB->Prop}{d:Option Tmp}{op:Op}{T:TypeId}{ps:String}{af:Array Edge}{v:Value}
   (hv:fK P n ⟨d,op,T,ps,af,none⟩ f H v) (h:pg P n A r (put f d v) H K):pg P n A (⟨d,op,T,ps,af,none⟩::r) f H K:=avG rfl hv h
section
variable{ρ:dI}{c:Value}
theorem bW.int_inv{k:IntKind}{i:Int}(h:bW ρ (.int k i) c):c= .int k i:=by cases h; rfl
theorem bW.bool_inv{b:Bool}(h:bW ρ (.bool b) c):c= .bool b:=by cases h; rfl
theorem bW.tuple_inv{a:List Value}(h:bW ρ (.tuple a.toArray) c):∃b,c= .tuple b.toArray/\bn ρ a b:=by
 generalize hx:Value.tuple a.toArray=x at h
 cases h with
 |tuple a' b hr=>cases hx; exact⟨b,rfl,hr⟩
 |_=>simp at hx
end
section
variable{P:Program} [bF P]{n:Nat}{f:Fr}{H:aB}{A:Array Oper}{r:List Oper}{K:Fr->aB->Prop}{d:Option Tmp}{x y z:Operand}{T T' T'':TypeId}{ps:String}{af:Array Edge}
theorem bE{v:Value}(hx:EV n f x v):
   fK P n ⟨d,.move x,T,ps,af,none⟩ f H (v):=
 fun ρ _ a _ hf=>⟨a.eval x,by simp[execOp],hx.use hf⟩
theorem jI{v:Value}(hx:EV n f x v):
   fK P n ⟨d,.assign x,T,ps,af,none⟩ f H (v):=
 fun ρ _ a _ hf=>⟨a.eval x,by simp[execOp],hx.use hf⟩
theorem nO{k:IntKind}{i j:Int}(hx:EV n f x (.int k i))(hy:EV n f y (.int k j)):
   fK P n ⟨d,.binOp .add T x y T',T'',ps,af,none⟩ f H ((.int k (k.wrap (i+j)))):=
 fun ρ _ a _ hf=>⟨_,by simp[execOp,(hx.use hf).int_inv,(hy.use hf).int_inv,eqGuard,binOp,Op.intArith],.int _ _⟩
theorem Tu{k:IntKind}{i j:Int}(hx:EV n f x (.int k i))(hy:EV n f y (.int k j)):
   fK P n ⟨d,.binOp .sub T x y T',T'',ps,af,none⟩ f H ((.int k (k.wrap (i-j)))):=
 fun ρ _ a _ hf=>⟨_,by simp[execOp,(hx.use hf).int_inv,(hy.use hf).int_inv,eqGuard,binOp,Op.intArith],.int _ _⟩
theorem anV{k:IntKind}{i j:Int}(hx:EV n f x (.int k i))(hy:EV n f y (.int k j)):
   fK P n ⟨d,.binOp .mul T x y T',T'',ps,af,none⟩ f H ((.int k (k.wrap (i*j)))):=
 fun ρ _ a _ hf=>⟨_,by simp[execOp,(hx.use hf).int_inv,(hy.use hf).int_inv,eqGuard,binOp,Op.intArith],.int _ _⟩
theorem aff{k:IntKind}{i j:Int}(hx:EV n f x (.int k i))(hy:EV n f y (.int k j)):
   fK P n ⟨d,.binOp .lss T x y T',T'',ps,af,none⟩ f H ((.bool (decide (i<j)))):=
 fun ρ _ a _ hf=>⟨_,by simp[execOp,(hx.use hf).int_inv,(hy.use hf).int_inv,eqGuard,binOp,Op.intCmp],.bool _⟩
theorem anW{k:IntKind}{i j:Int}(hx:EV n f x (.int k i))(hy:EV n f y (.int k j)):
   fK P n ⟨d,.binOp .leq T x y T',T'',ps,af,none⟩ f H ((.bool (decide (i<=j)))):=
 fun ρ _ a _ hf=>⟨_,by simp[execOp,(hx.use hf).int_inv,(hy.use hf).int_inv,eqGuard,binOp,Op.intCmp],.bool _⟩
theorem Tv{k:IntKind}{i j:Int}(hx:EV n f x (.int k i))(hy:EV n f y (.int k j)):
   fK P n ⟨d,.binOp .gtr T x y T',T'',ps,af,none⟩ f H ((.bool (decide (j<i)))):=
 fun ρ _ a _ hf=>⟨_,by simp[execOp,(hx.use hf).int_inv,(hy.use hf).int_inv,eqGuard,binOp,Op.intCmp],.bool _⟩
theorem anX{k:IntKind}{i j:Int}(hx:EV n f x (.int k i))(hy:EV n f y (.int k j)):
   fK P n ⟨d,.binOp .geq T x y T',T'',ps,af,none⟩ f H ((.bool (decide (j<=i)))):=
 fun ρ _ a _ hf=>⟨_,by simp[execOp,(hx.use hf).int_inv,(hy.use hf).int_inv,eqGuard,binOp,Op.intCmp],.bool _⟩
theorem CQ{k:IntKind}{i j:Int}(hx:EV n f x (.int k i))(hy:EV n f y (.int k j)):
   fK P n ⟨d,.binOp .eql T x y T',T'',ps,af,none⟩ f H ((.bool (i==j))):=
 fun ρ _ a _ hf=>⟨_,by simp[execOp,(hx.use hf).int_inv,(hy.use hf).int_inv,eqGuard,binOp,Op.intCmp],.bool _⟩
theorem anY{k:IntKind}{i j:Int}(hx:EV n f x (.int k i))(hy:EV n f y (.int k j)):
   fK P n ⟨d,.binOp .neq T x y T',T'',ps,af,none⟩ f H ((.bool (i !=j))):=
 fun ρ _ a _ hf=>⟨_,by simp[execOp,(hx.use hf).int_inv,(hy.use hf).int_inv,eqGuard,binOp,Op.intCmp],.bool _⟩
theorem NE{b:Bool}(hx:EV n f x (.bool b)):
   fK P n ⟨d,.unOp .not T x,T',ps,af,none⟩ f H ((.bool (!b))):=
 fun ρ _ a _ hf=>⟨_,by simp[execOp,(hx.use hf).bool_inv,Op.unary],.bool _⟩
theorem tC{l:List Value}{i:Nat}{v:Value}(hx:EV n f x (.tuple l.toArray))(hi:l[i]?=some v):
   fK P n ⟨d,.extract x i,T,ps,af,none⟩ f H (v):=
 fun ρ _ a _ hf=>by
   obtain⟨b,hb,hr⟩:=(hx.use hf).tuple_inv
   obtain⟨c,hc,hv⟩:=hr.get i v hi
   exact⟨c,by simp[execOp,hb,Instr.extract,hc],hv⟩
end
end Go.Fw
namespace Go.Fw
open Go
def SZ(P:Program) [bF P](t:TypeId)(s:Nat):Prop:=(P.info? t).map (·.size)=some s
def BY(P:Program) [bF P](t:TypeId)(s:Nat):Prop:=(P.info? t).map (·.bytes)=some s
def AG(P:Program) [bF P](t:TypeId)(b:Bool):Prop:=(P.underlying t).map (fun d=>match d with| .struct _| .array _ _=>true|_=>false)=some b
def SL(P:Program) [bF P](t e:TypeId):Prop:=P.underlying t=some (.slice e)
def FD(P:Program) [bF P](t:TypeId)(i off:Nat):Prop:=
 (match P.underlying t with|some (.struct fs)=>(fs[i]?).bind (fun d=>((P.info? d.type).map (·.size)).map (fun s=>(d.offset,s !=0)))|_=>none)=some (off,true)
section
variable{P:Program} [bF P]
theorem SZ.inv{t:TypeId}{s:Nat}(h:SZ P t s):∃i,P.info? t=some i/\i.size=s:=by
 unfold SZ at h
 cases hi:P.info? t with
 |none=>rw[hi]at h; simp at h
 |some i=>rw[hi]at h; exact⟨i,rfl,by simpa using h⟩
theorem BY.inv{t:TypeId}{s:Nat}(h:BY P t s):∃i,P.info? t=some i/\i.bytes=s:=by
 unfold BY at h
 cases hi:P.info? t with
 |none=>rw[hi]at h; simp at h
 |some i=>rw[hi]at h; exact⟨i,rfl,by simpa using h⟩
theorem FD.inv{t:TypeId}{i off:Nat}(h:FD P t i off):∃fs d i0,P.underlying t=some (.struct fs)/\fs[i]?=some d/\P.info? d.type=some i0/\i0.size≠0/\d.offset=off:=by
 unfold FD at h
 cases hu:P.underlying t with
 |none=>rw[hu]at h; simp at h
 |some u=>
   rw[hu]at h
   cases u with
   |struct fs=>
     dsimp only at h
     cases hd:fs[i]? with
     |none=>rw[hd]at h; simp at h
     |some d=>
       rw[hd]at h
       cases hi:P.info? d.type with
       |none=>rw[acs,hi]at h; simp at h
       |some i0=>rw[acs,hi]at h; simp at h; exact⟨fs,d,i0,rfl,hd,hi,h.2,h.1⟩
   |_=>simp at h
theorem SZ.run{t:TypeId}{s:Nat}(h:SZ P t s)(w:World):(sizeOf t).run P w= .ok s w:=by
 obtain⟨i,hi,rfl⟩:=h.inv
 simp[sizeOf,typeInfo,hi]
theorem SZ.cells{t:TypeId}{s:Nat}(h:SZ P t s):P.cellsOf t=s:=by
 obtain⟨i,hi,rfl⟩:=h.inv
 simp[Program.cellsOf,hi]
theorem SL.run{t e:TypeId}(h:SL P t e)(w:World):(underlying t).run P w= .ok (.slice e) w:=by
 have h':P.underlying t=some (.slice e):=h
 simp[underlying,h']
theorem AG.run{t:TypeId}{b:Bool}(h:AG P t b)(w:World):(isAgg t).run P w= .ok b w:=by
 unfold AG at h
 cases hu:P.underlying t with
 |none=>rw[hu]at h; simp at h
 |some u=>
   rw[hu]at h
   cases u<;>simp at h<;>simp[isAgg,underlying,hu,←h]
end
theorem addr_add(b o n:Nat):Addr.add ⟨b,o,none⟩ n=⟨b,o+n,none⟩:=by
 unfold Addr.add; split
 · subst_vars; rfl
 · rfl
section
variable{P:Program} [bF P]{ρ:dI}{H:aB}{w:World}
theorem aD.at{k:Nat}{b:eO}(h:aD P ρ H w)(hk:H[k]?=some (some b))(hn:ρ k≠none):∃L,ρ k=some (some L)/\xm P ρ L b w:=by
 cases hp:ρ k with
 |none=>exact absurd hp hn
 |some o=>
   cases o with
   |none=>exact absurd hp (h.alive k b hk)
   |some L=>
     obtain⟨b',hb,hr⟩:=h.blk k L hp
     rw[hk]at hb
     have:b=b':=by simpa using hb
     subst this
     exact⟨L,rfl,hr⟩
theorem bW.ptr_inv{k i j:Nat}{b:eO}{c:Value}(hr:aD P ρ H w)(hk:H[k]?=some (some b))(h:bW ρ (.pointer (some ⟨k,i,some j⟩)) c):
   ∃L,ρ k=some (some L)/\xm P ρ L b w/\c= .pointer (some ⟨L.blk,L.off+i*L.sz+j,none⟩):=by
 cases h with
 |ptr _ _ _ L hl=>
   obtain⟨L',hl',hb⟩:=hr.at hk (by rw[hl]; simp)
   rw[hl]at hl'
   have:L=L':=by simpa using hl'
   subst this
   exact⟨L,hl,hb,rfl⟩
 |IZ _ _ _ p hl=>exact absurd hl (hr.alive k b hk)
theorem bW.slice_inv{k i n m:Nat}{b:eO}{c:Value}(hr:aD P ρ H w)(hk:H[k]?=some (some b))(h:bW ρ (.slice (some ⟨k,i,none⟩) n m) c):
   ∃L p cap,ρ k=some (some L)/\xm P ρ L b w/\c= .slice (some p) n cap/\n<=cap/\(m=1->cap=n/\n<=L.cap)/\
     (2<=m->i=0/\L.own=true/\cap<=L.cap/\p=⟨L.blk,L.off,none⟩/\(3<=m->cap+3=m))/\(n≠0->p=⟨L.blk,L.off+i*L.sz,none⟩):=by
 cases h with
 |slice _ _ _ _ L p cap hl hc h1 h2 hp=>
   obtain⟨L',hl',hb⟩:=hr.at hk (by rw[hl]; simp)
   rw[hl]at hl'
   have:L=L':=by simpa using hl'
   subst this
   exact⟨L,p,cap,hl,hb,rfl,hc,h1,h2,fun h=>(hp h).1⟩
 |ui _ _ _ _ p cap hl=>exact absurd hl (hr.alive k b hk)
theorem bW.slice_ext{k i n m:Nat}{b:eO}{c:Value}(hr:aD P ρ H w)(hk:H[k]?=some (some b))(h:bW ρ (.slice (some ⟨k,i,none⟩) n m) c)(hn:n≠0):∃L,ρ k=some (some L)/\(L.own=true->i+n<=L.cap):=by
 cases h with
 |slice _ _ _ _ L p cap hl hc h1 h2 hp=>exact⟨L,hl,(hp hn).2⟩
 |ui _ _ _ _ p cap hl=>exact absurd hl (hr.alive k b hk)
theorem bW.cells{v c:Value}(h:bW ρ v c):bn ρ v.cells.toList c.cells.toList:=by
 have h0:=h
 cases h with
 |agg a a' h=>exact h
 |_=>exact .cons _ _ _ _ h0 .nil
theorem Nv{w:World}{b o:Nat}{cs:Array Value}{t:TypeId}{fr:Nat×Nat}(h:w.heap[b]?=some (.cells cs t fr)):w.cell? ⟨b,o,none⟩=cs[o]?:=by
 simp[World.cell?,h]
theorem run_loadCellsFrom(P:Program) [bF P]{w:World}{b o:Nat}{cs:Array Value}{t:TypeId}{fr:Nat×Nat}(h:w.heap[b]?=some (.cells cs t fr)):
   ∀(n i:Nat)(acc:Array Value),o+i+n<=cs.size->(loadCellsFrom ⟨b,o,none⟩ i n acc).run P w= .ok (acc++((cs.toList.drop (o+i)).take n).toArray) w:=by
 intro n
 induction n with
 |zero=>intro i acc _; simp[loadCellsFrom]
 |succ n ih=>
   intro i acc hle
   have hlt:o+i<cs.size:=by omega
   have hc:w.cell? (Addr.add ⟨b,o,none⟩ i)=some cs[o+i]:=by
     rw[addr_add,Nv h]; simp[hlt]
   have:=ih (i+1) (acc.push cs[o+i]) (by omega)
   simp only[loadCellsFrom]
   have hd:cs.toList.drop (o+i)=cs[o+i]::cs.toList.drop (o+i+1):=by
     rw[aQV (by simpa using hlt)]; simp
   rw[hd]
   simp only[load,bind,Sem.bind,Sem.run,hc]
   rw[this]
   simp[aSv]
theorem run_loadCells(P:Program) [bF P]{w:World}{b o:Nat}{cs:Array Value}{t:TypeId}{fr:Nat×Nat}(h:w.heap[b]?=some (.cells cs t fr))(n:Nat)(hle:o+n<=cs.size):
   (loadCells ⟨b,o,none⟩ n).run P w= .ok ((cs.toList.drop o).take n).toArray w:=by
 have:=run_loadCellsFrom P (o:=o) h n 0 #[] (by omega)
 simpa[loadCells]using this
theorem xm.part{L:Loc}{b:eO}{i j s:Nat}{e:Value}(h:xm P ρ L b w)(he:b.elems[i]?=some e)(hs:j+s<=e.cells.size)(hs0:0<s):
   ∃cs t fr,w.heap[L.blk]?=some (.cells cs t fr)/\L.off+i*L.sz+j+s<=cs.size/\bn ρ ((e.cells.toList.drop j).take s) ((cs.toList.drop (L.off+i*L.sz+j)).take s):=by
 obtain⟨cs,ct,fr,hh,hel,-⟩:=h.cells
 have hr:=(hel i e he).2
 have hlen:=hr.length
 simp only[aRi,aRT,aR3]at hlen
 refine⟨cs,_,fr,hh,by omega,?_⟩
 have:=(hr.drop j).take s
 rw[List.drop_take,aTm,aRR]at this
 rw[aR9 (by omega)]at this
 exact this
end
section
variable{P:Program} [bF P]{n:Nat}{f:Fr}{H:aB}{A:Array Oper}{r:List Oper}{K:Fr->aB->Prop}{d:Option Tmp}{x y z:Operand}{T T' T'':TypeId}{ps:String}{af:Array Edge}
theorem adl{k i j fi off:Nat}(hF:FD P T fi off)(hx:EV n f x (.pointer (some ⟨k,i,some j⟩))):
   fK P n ⟨d,.fieldAddr T x fi,T',ps,af,none⟩ f H ((.pointer (some ⟨k,i,some (j+off)⟩))):=
 fun ρ w a _ hf=>by
   obtain⟨fs,fd,i0,hu,J_,hi0,hsz,hoff⟩:=hF.inv
   generalize hc:a.eval x=c
   have hr:=hx.use hf
   rw[hc]at hr
   have hrun:∀ad:Addr,c= .pointer (some ad)->(execOp a.eval ⟨d,.fieldAddr T x fi,T',ps,af,none⟩).run P w= .ok (.value (.pointer (some (ad.add fd.offset)))) w:=by
     intro ad he
     simp[execOp,hc,he,Instr.fieldAt,Instr.sureAddr,underlying,hu,J_,fieldPlace,sizeOf,typeInfo,hi0,hsz]
   cases hr with
   |ptr _ _ _ L hl=>exact⟨_,hrun _ rfl,by rw[addr_add,hoff,aSv]; exact .ptr k i (j+off) L hl⟩
   |IZ _ _ _ p hl=>exact⟨_,hrun _ rfl,.IZ k i _ _ hl⟩
theorem Y2{E:TypeId}{s k i0 len m:Nat}{kk:IntKind}{i:Int}{b:eO}(hT:SL P T E)(hs:SZ P E s)(hx:EV n f x (.slice (some ⟨k,i0,none⟩) len m))(hy:EV n f y (.int kk i))
   (hk:H[k]?=some (some b)) (hb:b.ty=E) (h0:0<=i) (h1:i<len):
   fK P n ⟨d,.indexAddr T x y,T',ps,af,none⟩ f H ((.pointer (some ⟨k,i0+i.toNat,some 0⟩))):=
 fun ρ w a hr hf=>by
   obtain⟨L,p,cap,hl,hbr,hc,-,-,-,hp⟩:=(hx.use hf).slice_inv hr hk
   have hi:=(hy.use hf).int_inv
   have hp':=hp (by omega)
   have hsz:L.sz=s:=by rw[←hbr.sz,hb,hs.cells]
   refine⟨.pointer (some (p.add (i.toNat*s))),?_,?_⟩
   · have hu:P.underlying T=some (.slice E):=hT
     simp[execOp,hc,hi,Instr.indexAt,asIntOf,underlying,hu,SZ.run hs,h0,h1]
   · rw[hp',addr_add,←hsz]
     have:=bW.ptr (ρ:=ρ) k (i0+i.toNat) 0 L hl
     simpa[aRy,aSv]using this
theorem gy{k i j:Nat}{b:eO}{e v:Value}(hA:AG P T false)(hx:EV n f x (.pointer (some ⟨k,i,some j⟩)))(hk:H[k]?=some (some b))(he:b.elems[i]?=some e)
   (hv:e.cells.toList[j]?=some v):
   fK P n ⟨d,.load T x,T',ps,af,none⟩ f H (v):=
 fun ρ w a hr hf=>by
   obtain⟨L,hl,hbr,hc⟩:=(hx.use hf).ptr_inv hr hk
   have hj:j<e.cells.size:=by
     rcases aQ7 j e.cells.size with h|h
     · exact h
     · simp[h]at hv
   obtain⟨cs,t,fr,hh,hle,hrel⟩:=hbr.part he (s:=1) (j:=j) (by omega) (by omega)
   have h1:((e.cells.toList.drop j).take 1)[0]?=some v:=by simpa[aSa]using hv
   obtain⟨c,hc',hvc⟩:=hrel.get 0 v h1
   refine⟨c,?_,hvc⟩
   have hcell:w.cell? ⟨L.blk,L.off+i*L.sz+j,none⟩=some c:=by
     rw[Nv hh]
     simpa[aSa]using hc'
   simp[execOp,hc,Instr.loadAt,Instr.sureAddr,loadVar,AG.run hA,load,Sem.run,hcell]
theorem pO{k i j s:Nat}{b:eO}{e:Value}{l:List Value}(hA:AG P T true)(hs:SZ P T s)(hx:EV n f x (.pointer (some ⟨k,i,some j⟩)))(hk:H[k]?=some (some b))(he:b.elems[i]?=some e)
   (hs0:0<s) (hj:j+s<=e.cells.size) (hv:(e.cells.toList.drop j).take s=l):
   fK P n ⟨d,.load T x,T',ps,af,none⟩ f H ((.agg l.toArray)):=
 fun ρ w a hr hf=>by
   obtain⟨L,hl,hbr,hc⟩:=(hx.use hf).ptr_inv hr hk
   obtain⟨cs,t,fr,hh,hle,hrel⟩:=hbr.part he (s:=s) (j:=j) hj hs0
   refine⟨.agg ((cs.toList.drop (L.off+i*L.sz+j)).take s).toArray,?_,.agg _ _ (by rw[←hv]; exact hrel)⟩
   have:=run_loadCells P hh s hle
   simp[execOp,hc,Instr.loadAt,Instr.sureAddr,loadVar,AG.run hA,SZ.run hs,this]
end
end Go.Fw
namespace Go.Fw
open Go
def ny(ρ:dI)(k:Nat)(o:Option Loc):dI:=fun k'=>if k'=k then some o else ρ k'
theorem gX(ρ:dI)(k:Nat)(o:Option Loc):ny ρ k o k=some o:=by simp[ny]
theorem eH(ρ:dI){k k':Nat}(o:Option Loc)(h:k'≠k):ny ρ k o k'=ρ k':=by simp[ny,h]
section
variable{P:Program} [bF P]{ρ:dI}{H:aB}{w:World}
theorem aD.lt{k:Nat}{L:Loc}(h:aD P ρ H w)(hk:ρ k=some (some L)):L.blk<w.heap.size:=by
 obtain⟨b,-,hb⟩:=h.blk k L hk
 obtain⟨cs,ct,fr,hh,-⟩:=hb.cells
 rcases aQ7 L.blk w.heap.size with h|h
 · exact h
 · simp[h]at hh
theorem xm.of_same{ρ':dI}{L:Loc}{b:eO}{w':World}(hu:Up ρ ρ')(hw:w'.heap[L.blk]?=w.heap[L.blk]?)(h:xm P ρ L b w):xm P ρ' L b w':=by
 obtain⟨ho,hs,cs,ct,fr,hh,he,hr⟩:=h
 exact⟨ho,hs,cs,ct,fr,by rw[hw]; exact hh,fun i e hi=>⟨(he i e hi).1,(he i e hi).2.up hu⟩,hr⟩
theorem aD.push{w':World}{cs:Array Value}{ty:TypeId}{es:List Value}{sz cap:Nat}{g:Bool}(h:aD P ρ H w)(hh:w'.heap=w.heap.push (.cells cs ty (0,0)))
   (hs:P.cellsOf ty=sz) (he:∀(i:Nat) e,es[i]?=some e->e.cells.size=sz/\bn ρ e.cells.toList ((cs.toList.drop (i*sz)).take sz)) (hc:cap*sz<=cs.size) (hl:es.length<=cap):
   aD P (ny ρ H.length (some ⟨w.heap.size,0,sz,cap,true⟩)) (H++[some ⟨es,ty,true,g⟩]) w':=by
 have hu:Up ρ (ny ρ H.length (some ⟨w.heap.size,0,sz,cap,true⟩)):=by
   intro k
   by_cases e:k=H.length
   · subst e; exact .inl (h.dom _ (aQT _))
   · exact .inr (.inl (eH _ _ e))
 constructor
 · intro k L hk
   by_cases e:k=H.length
   · subst e
     rw[gX]at hk
     obtain rfl:_=L:=by simpa using hk
     refine⟨⟨es,ty,true,g⟩,by simp,rfl,hs,cs,ty,(0,0),by rw[hh]; simp,?_,?_⟩
     · intro i e hi
       have:=(he i e hi).2.up hu
       exact⟨(he i e hi).1,by simpa using this⟩
     · intro _
       exact⟨rfl,hc,hl,fun o _ hx=>by simp at hx,rfl⟩
   · rw[eH _ _ e]at hk
     obtain⟨b,hb,hr⟩:=h.blk k L hk
     have hlt:=h.lt hk
     have hkl:k<H.length:=by
       rcases aQ7 k H.length with h|h
       · exact h
       · simp[h]at hb
     refine⟨b,by rw[aQQ hkl]; exact hb,hr.of_same hu ?_⟩
     rw[hh,aSh,aqA (by omega)]
 · intro k b hb hk
   by_cases e:k=H.length
   · subst e; rw[gX]at hk; simp at hk
   · rw[eH _ _ e]at hk
     have hkl:k<H.length:=by
       rcases aQ7 k (H++[some (⟨es,ty,true,g⟩:eO)]).length with h|h
       · simp at h; omega
       · simp[aQR h]at hb
     rw[aQQ hkl]at hb
     exact h.alive k b hb hk
 · intro k hk
   simp at hk
   rw[eH _ _ (by omega)]
   exact h.dom k (by omega)
 · intro k k' L L' hk hk' ho hb
   by_cases e:k=H.length<;>by_cases e':k'=H.length
   · rw[e,e']
   · subst e
     rw[gX]at hk; rw[eH _ _ e']at hk'
     obtain rfl:_=L:=by simpa using hk
     have:=h.lt hk'
     simp at hb; omega
   · subst e'
     rw[gX]at hk'; rw[eH _ _ e]at hk
     obtain rfl:_=L':=by simpa using hk'
     have:=h.lt hk
     simp at hb; omega
   · rw[eH _ _ e]at hk; rw[eH _ _ e']at hk'
     exact h.inj k k' L L' hk hk' ho hb
 · refine h.xU.keep (by rw[hh]; simp) (fun b hb _=>by rw[hh,aSh,aqA (by omega)]) fun k L hk _=>?_
   by_cases e:k=H.length
   · subst e
     rw[gX]at hk
     obtain rfl:_=L:=by simpa using hk
     exact .inr (.inl (aQT _))
   · rw[eH _ _ e]at hk; exact .inl hk
theorem Step.push{w':World}{o:Obj}{b:eO}{sz cap:Nat}(h:aD P ρ H w)(hh:w'.heap=w.heap.push o)(h1:w'.os=w.os)(h2:w'.output=w.output)(h3:w'.tape=w.tape):
   Step ρ H w (ny ρ H.length (some ⟨w.heap.size,0,sz,cap,true⟩)) (H++[some b]) w' where
 up k:=by
   by_cases e:k=H.length
   · subst e; exact .inl (h.dom _ (aQT _))
   · exact .inr (.inl (eH _ _ e))
 os:=h1
 output:=h2
 tape:=h3
 size:=by rw[hh]; simp
 frame b hb _:=by rw[hh,aSh,aqA (by omega)]
 fresh k L hk:=by
   by_cases e:k=H.length
   · subst e
     rw[gX]at hk
     obtain rfl:_=L:=by simpa using hk
     exact .inr ⟨rfl,.inl (aQT _)⟩
   · rw[eH _ _ e]at hk; exact .inl hk
 len:=by simp
 hold k hk hn:=⟨by rw[eH _ _ (by omega)]; exact hn,by rw[aQQ hk]⟩
theorem aD.kill{k:Nat}(h:aD P ρ H w)(hk:ρ k≠none):aD P (ny ρ k none) (H.set k none) w:=by
 have hu:Up ρ (ny ρ k none):=by
   intro k'
   by_cases e:k'=k
   · subst e; exact .inr (.inr (gX _ _ _))
   · exact .inr (.inl (eH _ _ e))
 constructor
 · intro k' L hk'
   by_cases e:k'=k
   · subst e; rw[gX]at hk'; simp at hk'
   · rw[eH _ _ e]at hk'
     obtain⟨b,hb,hr⟩:=h.blk k' L hk'
     exact⟨b,by rw[aQ8 (aSO e)]; exact hb,hr.of_same hu rfl⟩
 · intro k' b hb hk'
   by_cases e:k'=k
   · subst e
     simp[aS8]at hb
   · rw[eH _ _ e]at hk'
     rw[aQ8 (aSO e)]at hb
     exact h.alive k' b hb hk'
 · intro k' hk'
   simp at hk'
   by_cases e:k'=k
   · subst e; exact absurd (h.dom _ hk') hk
   · rw[eH _ _ e]; exact h.dom k' hk'
 · intro k1 k2 L L' h1 h2 ho hb
   by_cases e1:k1=k
   · subst e1; rw[gX]at h1; simp at h1
   · by_cases e2:k2=k
     · subst e2; rw[gX]at h2; simp at h2
     · rw[eH _ _ e1]at h1; rw[eH _ _ e2]at h2
       exact h.inj k1 k2 L L' h1 h2 ho hb
 · refine h.xU.keep (aQT _) (fun _ _ _=>rfl) fun k' L hk' _=>?_
   by_cases e:k'=k
   · subst e; rw[gX]at hk'; simp at hk'
   · rw[eH _ _ e]at hk'; exact .inl hk'
theorem Step.kill{k:Nat}(hk:ρ k≠none):Step ρ H w (ny ρ k none) (H.set k none) w where
 up k':=by
   by_cases e:k'=k
   · subst e; exact .inr (.inr (gX _ _ _))
   · exact .inr (.inl (eH _ _ e))
 os:=rfl
 output:=rfl
 tape:=rfl
 size:=aQT _
 frame _ _ _:=rfl
 fresh k' L h:=by
   by_cases e:k'=k
   · subst e; rw[gX]at h; simp at h
   · rw[eH _ _ e]at h; exact .inl h
 len:=by simp
 hold k' _ hn:=by
   have e:k'≠k:=fun e=>hk (e ▸ hn)
   exact⟨by rw[eH _ _ e]; exact hn,by rw[aQ8 (aSO e)]⟩
theorem aD.of_heap{w':World}(h:aD P ρ H w)(hw:w'.heap=w.heap):aD P ρ H w':=
 ⟨fun k L hk=>by
   obtain⟨b,hb,hr⟩:=h.blk k L hk
   exact⟨b,hb,hr.of_same (Up.refl ρ) (by rw[hw])⟩,h.alive,h.dom,h.inj,h.xU.keep (by rw[hw]; exact aQT _) (fun b _ _=>by rw[hw]) fun _ _ hk _=>.inl hk⟩
theorem aD.write{w':World}{k:Nat}{L:Loc}{b b':eO}{cs':Array Value}{fr:Nat×Nat}(h:aD P ρ H w)(hk:ρ k=some (some L))(ho:L.own=true)
   (hw:w'.heap=w.heap.setIfInBounds L.blk (.cells cs' b.ty fr)) (hty:b'.ty=b.ty) (hown:b'.own=true) (hs:P.cellsOf b.ty=L.sz)
   (he:∀(i:Nat) e,b'.elems[i]?=some e->e.cells.size=L.sz/\bn ρ e.cells.toList ((cs'.toList.drop (L.off+i*L.sz)).take L.sz))
   (hc:L.off=0/\L.cap*L.sz<=cs'.size/\b'.elems.length<=L.cap/\ ∀o,o<=cs'.size-> ¬ (fr.1<=o/\o<fr.2)):
   aD P ρ (H.set k (some b')) w':=by
 have hlt:=h.lt hk
 have hkl:k<H.length:=by
   rcases aQ7 k H.length with h'|h'
   · exact h'
   · rw[h.dom k h']at hk; simp at hk
 constructor
 · intro k' L' hk'
   by_cases e:k'=k
   · subst e
     rw[hk]at hk'
     obtain rfl:L=L':=by simpa using hk'
     refine⟨b',by simp[hkl],by rw[hown,ho],by rw[hty,hs],cs',b.ty,fr,?_,he,fun _=>⟨hc.1,hc.2.1,hc.2.2.1,hc.2.2.2,hty.symm⟩⟩
     rw[hw]; simp[hlt]
   · obtain⟨b0,hb0,hr0⟩:=h.blk k' L' hk'
     refine⟨b0,by rw[aQ8 (aSO e)]; exact hb0,hr0.of_same (Up.refl ρ) ?_⟩
     have hne:L.blk≠L'.blk:=fun hb=>e (h.inj k k' L L' hk hk' ho hb).symm
     rw[hw,aRx hne]
 · intro k' b0 hb0 hk'
   by_cases e:k'=k
   · subst e; rw[hk]at hk'; simp at hk'
   · rw[aQ8 (aSO e)]at hb0; exact h.alive k' b0 hb0 hk'
 · intro k' hk'; exact h.dom k' (by simpa using hk')
 · exact h.inj
 · exact h.xU.keep (by rw[hw]; simp) (fun b _ hn=>by rw[hw,aRx (hn k L hk ho)]) fun _ _ hk _=>.inl hk
theorem Step.write{w':World}{k:Nat}{L:Loc}{o:Obj}{x:Option eO}(hk:ρ k=some (some L))(ho:L.own=true)
   (hw:w'.heap=w.heap.setIfInBounds L.blk o) (h1:w'.os=w.os) (h2:w'.output=w.output) (h3:w'.tape=w.tape):Step ρ H w ρ (H.set k x) w' where
 up:=Up.refl ρ
 os:=h1
 output:=h2
 tape:=h3
 size:=by rw[hw]; simp
 frame b _ hn:=by
   have hne:L.blk≠b:=hn k L hk ho
   rw[hw,aRx hne]
 fresh _ _ h:=.inl h
 len:=by simp
 hold k' _ hn:=by
   have e:k'≠k:=fun e=>by subst e; rw[hk]at hn; simp at hn
   exact⟨hn,by rw[aQ8 (aSO e)]⟩
theorem aD.add{L:Loc}{b:eO}{w':World}(h:aD P ρ H w)(hb:xm P ρ L b w')(hfree:∀k L',ρ k=some (some L')->L'.blk≠L.blk)
   (hsame:∀k L',ρ k=some (some L')->w'.heap[L'.blk]?=w.heap[L'.blk]?) (hv:GG P (ny ρ H.length (some L)) w'):aD P (ny ρ H.length (some L)) (H++[some b]) w':=by
 have hu:Up ρ (ny ρ H.length (some L)):=by
   intro k
   by_cases e:k=H.length
   · subst e; exact .inl (h.dom _ (aQT _))
   · exact .inr (.inl (eH _ _ e))
 have hlt:∀(k:Nat) b0,H[k]?=some (some b0)->k<H.length:=by
   intro k b0 hk
   rcases aQ7 k H.length with h|h
   · exact h
   · simp[aQR h]at hk
 constructor
 · intro k L' hk
   by_cases e:k=H.length
   · subst e
     rw[gX]at hk
     obtain rfl:L=L':=by simpa using hk
     exact⟨b,by simp,hb.of_same hu rfl⟩
   · rw[eH _ _ e]at hk
     obtain⟨b0,hb0,hr⟩:=h.blk k L' hk
     exact⟨b0,by rw[aQQ (hlt k b0 hb0)]; exact hb0,hr.of_same hu (hsame k L' hk)⟩
 · intro k b0 hb0 hk
   by_cases e:k=H.length
   · subst e; rw[gX]at hk; simp at hk
   · rw[eH _ _ e]at hk
     have hkl:k<H.length:=by
       rcases aQ7 k (H++[some b]).length with h|h
       · simp at h; omega
       · simp[aQR h]at hb0
     rw[aQQ hkl]at hb0
     exact h.alive k b0 hb0 hk
 · intro k hk
   simp at hk
   rw[eH _ _ (by omega)]
   exact h.dom k (by omega)
 · intro k k' L1 L2 hk hk' ho hbb
   by_cases e:k=H.length<;>by_cases e':k'=H.length
   · rw[e,e']
   · subst e
     rw[gX]at hk; rw[eH _ _ e']at hk'
     obtain rfl:L=L1:=by simpa using hk
     exact absurd hbb.symm (hfree k' L2 hk')
   · subst e'
     rw[gX]at hk'; rw[eH _ _ e]at hk
     obtain rfl:L=L2:=by simpa using hk'
     exact absurd hbb (hfree k L1 hk)
   · rw[eH _ _ e]at hk; rw[eH _ _ e']at hk'
     exact h.inj k k' L1 L2 hk hk' ho hbb
 · exact hv
theorem Step.move{k:Nat}{L L':Loc}{o:Obj}{b:eO}{w':World}(h:aD P ρ H w)(hk:ρ k=some (some L))(ho:L.own=true)(ho':L'.own=true)(hbl:L'.blk=L.blk)
   (hw:w'.heap=w.heap.setIfInBounds L.blk o) (h1:w'.os=w.os) (h2:w'.output=w.output) (h3:w'.tape=w.tape):
   Step ρ H w (ny (ny ρ k none) H.length (some L')) (H.set k none++[some b]) w':=by
 have hkl:k<H.length:=by
   rcases aQ7 k H.length with h'|h'
   · exact h'
   · rw[h.dom k h']at hk; simp at hk
 constructor
 · intro k'
   by_cases e:k'=H.length
   · subst e; exact .inl (h.dom _ (aQT _))
   · by_cases e2:k'=k
     · subst e2; exact .inr (.inr (by rw[eH _ _ e,gX]))
     · exact .inr (.inl (by rw[eH _ _ e,eH _ _ e2]))
 · exact h1
 · exact h2
 · exact h3
 · rw[hw]; simp
 · intro b _ hn
   have hne:L.blk≠b:=hn k L hk ho
   rw[hw,aRx hne]
 · intro k' L0 hk'
   by_cases e:k'=H.length
   · subst e
     rw[gX]at hk'
     obtain rfl:L'=L0:=by simpa using hk'
     exact .inr ⟨ho',.inr ⟨k,L,hk,ho,hbl.symm⟩⟩
   · rw[eH _ _ e]at hk'
     by_cases e2:k'=k
     · subst e2; rw[gX]at hk'; simp at hk'
     · rw[eH _ _ e2]at hk'; exact .inl hk'
 · simp
 · intro k' hk' hn
   have e2:k'≠k:=fun e=>by subst e; rw[hk]at hn; simp at hn
   exact⟨by rw[eH _ _ (by omega),eH _ _ e2]; exact hn,by rw[aQQ (by simpa using hk'),aQ8 (aSO e2)]⟩
end
end Go.Fw
namespace Go.Fw
open Go
def splice{α:Type}(l:List α)(p:Nat)(vs:List α):List α:=l.take p++vs++l.drop (p+vs.length)
theorem Hq{α:Type}(l:List α)(p:Nat)(vs:List α)(h:p+vs.length<=l.length):(splice l p vs).length=l.length:=by
 simp[splice]; omega
theorem akY{α:Type}(l:List α)(p:Nat):splice l p []=l:=by simp[splice]
theorem akv{α:Type}(l:List α)(p:Nat)(v:α)(vs:List α)(h:p<l.length):splice (l.set p v) (p+1) vs=splice l p (v::vs):=by
 simp only[splice,agr]
 rw[List.take_set,aSD (by omega)]
 have e1:(l.take (p+1)).set p v=l.take p++[v]:=by
   rw[aRC h,List.set_append_right _ _ (by simp; omega)]
   simp[aR9 (aSJ h)]
 rw[e1]
 have e2:p+1+vs.length=p+(vs.length+1):=by omega
 rw[e2]; simp
def scal:Value->Bool
 | .agg _=>false
 | .tuple _=>false
 |_=>true
theorem bW.scal{ρ:dI}{v c:Value}(h:bW ρ v c):scal c=scal v:=by cases h<;>rfl
theorem Ya(P:Program) [bF P]{b o:Nat}{t:TypeId}{fr:Nat×Nat}:∀(vs:List Value)(i:Nat)(cs:Array Value)(w:World),w.heap[b]?=some (.cells cs t fr)->
   (∀q,q<cs.size-> ¬ (fr.1<=q/\q<fr.2))->(∀v∈vs,scal v=true)->o+i+vs.length<=cs.size->
   ∃w',(storeCells ⟨b,o,none⟩ vs i).run P w= .ok () w'/\w'.heap=w.heap.setIfInBounds b (.cells (splice cs.toList (o+i) vs).toArray t fr)/\w'.os=w.os/\w'.output=w.output/\w'.tape=w.tape:=by
 intro vs
 induction vs with
 |nil=>
   intro i cs w hh _ _ _
   refine⟨w,by simp[storeCells],?_,rfl,rfl,rfl⟩
   rw[akY]
   have hlt:b<w.heap.size:=by
     rcases aQ7 b w.heap.size with h|h
     · exact h
     · simp[h]at hh
   apply aSK
   intro j
   by_cases e:b=j
   · subst e; simp[(Array.getElem?_eq_some_iff.1 hh).2,hlt]
   · rw[aRx e]
 |cons v vs ih=>
   intro i cs w hh hf hs hle
   simp only[agr]at hle
   have hlt:o+i<cs.size:=by omega
   have hcell:w.cell? ⟨b,o+i,none⟩=some cs[o+i]:=by rw[Nv hh]; simp[hlt]
   have hfz:w.frozen? ⟨b,o+i,none⟩=false:=by
     have:=hf (o+i) hlt
     simp only[World.frozen?,hh]
     simp; omega
   have hset:(w.setCell ⟨b,o+i,none⟩ v).heap=w.heap.setIfInBounds b (.cells (cs.setIfInBounds (o+i) v) t fr):=by
     apply aSK
     intro j
     simp only[World.setCell,Array.getElem?_modify]
     by_cases e:b=j
     · subst e
       have hb:b<w.heap.size:=by
         rcases aQ7 b w.heap.size with h|h
         · exact h
         · simp[h]at hh
       simp[(Array.getElem?_eq_some_iff.1 hh).2,hb]
     · rw[aqA e,aRx e]
   have hb:b<w.heap.size:=by
     rcases aQ7 b w.heap.size with h|h
     · exact h
     · simp[h]at hh
   obtain⟨w',hr,hw',h1,h2,h3⟩:=ih (i+1) (cs.setIfInBounds (o+i) v) (w.setCell ⟨b,o+i,none⟩ v) (by rw[hset]; simp[hb])
     (by simpa using hf) (fun u hu=>hs u (by simp[hu])) (by simp; omega)
   refine⟨w',?_,?_,h1,h2,h3⟩
   · have hsv:=hs v (by simp)
     have hrun:(Sem.store .plain (Addr.add ⟨b,o,none⟩ i) v (.pure ())).run P w= .ok () (w.setCell ⟨b,o+i,none⟩ v):=by
       rw[addr_add]
       cases v<;>simp[scal]at hsv<;>simp[Sem.run,hcell,hfz]
     simp only[storeCells,store]
     simp[hrun,hr]
   · rw[hw',hset]
     have:splice (cs.setIfInBounds (o+i) v).toList (o+(i+1)) vs=splice cs.toList (o+i) (v::vs):=by
       rw[aSm]
       exact akv _ _ _ _ (by simpa using hlt)
     rw[this]
     simp
def lW(e:Value)(j:Nat)(cs:List Value):Value:=
 match e with
 | .agg xs=>.agg (splice xs.toList j cs).toArray
 |_=>cs.headD e
def closedS:Value->Bool
 | .bool _| .int _ _| .string _| .pointer none| .nilFunc| .nilIface=>true
 | .slice none 0 0=>true
 |_=>false
def um:Value->Bool
 | .agg xs=>xs.toList.all closedS
 |v=>closedS v
theorem bW.closedS{ρ:dI}{v:Value}(h:closedS v=true):bW ρ v v:=by
 unfold Fw.closedS at h
 split at h<;>first|(constructor; done)|simp at h
theorem bW.closed{ρ:dI}{v:Value}(h:um v=true):bW ρ v v:=by
 unfold um at h
 split at h
 · rename_i xs
   have hr:bn ρ xs.toList xs.toList:=by
     refine bn.of_get rfl fun i v c e e'=>?_
     rw[e]at e'
     obtain rfl:v=c:=by simpa using e'
     have hv:v∈xs.toList:=aRh e
     exact bW.closedS ((List.all_eq_true.1 h) v hv)
   exact .agg _ _ hr
 · exact bW.closedS h
section
variable{P:Program} [bF P]{n:Nat}{f:Fr}{H:aB}{A:Array Oper}{r:List Oper}{K:Fr->aB->Prop}{d:Option Tmp}{x y z:Operand}{T T' T'':TypeId}{ps:String}{af:Array Edge}
def uJ(P:Program) [bF P](n:Nat)(o:Oper)(f:Fr)(vk:Nat->Value)(b:eO):Prop:=
 b.own=true/\ ∀ρ (H:aB) w a,aD P ρ H w->kY ρ n f a-> ∃c cs cap w',(execOp a.eval o).run P w= .ok (.value c) w'/\w'.heap=w.heap.push (.cells cs b.ty (0,0))/\w'.os=w.os/\w'.output=w.output/\w'.tape=w.tape/\
     (∀ρ' k,ρ' k=some (some ⟨w.heap.size,0,P.cellsOf b.ty,cap,true⟩)->bW ρ' (vk k) c)/\
     (∀(i:Nat) e,b.elems[i]?=some e->e.cells.size=P.cellsOf b.ty/\bn ρ e.cells.toList ((cs.toList.drop (i*P.cellsOf b.ty)).take (P.cellsOf b.ty)))/\cap*P.cellsOf b.ty<=cs.size/\b.elems.length<=cap
theorem bn.one_block{ρ:dI}{e c:Value}{s:Nat}(h:bW ρ e c)(hs:e.cells.size=s):
   ∀(i:Nat) e',[e][i]?=some e'->e'.cells.size=s/\bn ρ e'.cells.toList ((c.cells.toList.drop (i*s)).take s):=by
 intro i e' he
 cases i with
 |zero=>
   obtain rfl:e=e':=by simpa using he
   have hl:c.cells.toList.length=s:=by rw[←h.cells.length]; simpa using hs
   refine⟨hs,?_⟩
   rw[aR5,aRl,aRt (by omega)]; exact h.cells
 |succ i=>simp at he
theorem uJ.run{o:Oper}{vk:Nat->Value}{b:eO}(hg:o.guard=none)(hn:uJ P n o f vk b)(h:pg P n A r (put f o.dst (vk H.length)) (H++[some b]) K):pg P n A (o::r) f H K:=by
 refine ad3 (.none hg) ?_
 intro ρ w a K' Q' hr hf hk
 obtain⟨ho,hn⟩:=hn
 obtain⟨c,cs,cap,w',hrun,hh,h1,h2,h3,hval,he,hc,hl⟩:=hn ρ H w a hr hf
 show o.upon P a K' Q' _
 rw[hrun]
 obtain⟨es,ty,ow,g⟩:=b
 obtain rfl:ow=true:=ho
 have hrel:=hr.push (g:=g) hh rfl he hc hl
 have hst:=Step.push (b:=⟨es,ty,true,g⟩) (sz:=P.cellsOf ty) (cap:=cap) hr hh h1 h2 h3
 exact hk _ _ _ _ _ ((hf.up hst.up).put o.dst (hval _ _ (gX _ _ _))) hrel hst h
theorem anZ{g:Bool}{s:Nat}{v:Value}{gd:Option (Nat×Bool)}(hs:SZ P T s)(hx:EV n f x v)(hv:v.cells.size=s):
   uJ P n ⟨d,.box T x,T',ps,af,gd⟩ f (fun k=>.pointer (some ⟨k,0,some 0⟩)) ⟨[v],T,true,g⟩:=by
 refine⟨rfl,fun ρ H w a hr hf=>?_⟩
 have uK:=hx.use hf
 simp only[hs.cells]
 refine⟨.pointer (some ⟨w.heap.size,0,none⟩),(a.eval x).cells,1,{w with heap:=w.heap.push (.cells (a.eval x).cells T (0,0))},?_,rfl,rfl,rfl,rfl,?_,bn.one_block uK hv,?_,by simp⟩
 · simp[execOp,Instr.box,newVar,newRow,newObj,Sem.run]
 · intro ρ' k h'
   have:=bW.ptr (ρ:=ρ') k 0 0 _ h'
   simpa using this
 · have:=uK.cells.length
   simp at this; omega
theorem axU{g:Bool}{s:Nat}{v:Value}{i:TypeInfo}{gd:Option (Nat×Bool)}(hi:P.info? T=some i)(hz:i.zero=some v)(hs:SZ P T s)(hv:v.cells.size=s)(hc:um v=true):
   uJ P n ⟨d,.alloc T,T',ps,af,gd⟩ f (fun k=>.pointer (some ⟨k,0,some 0⟩)) ⟨[v],T,true,g⟩:=by
 refine⟨rfl,fun ρ H w a hr hf=>?_⟩
 have uK:bW ρ v v:=bW.closed hc
 simp only[hs.cells]
 refine⟨.pointer (some ⟨w.heap.size,0,none⟩),v.cells,1,{w with heap:=w.heap.push (.cells v.cells T (0,0))},?_,rfl,rfl,rfl,rfl,?_,bn.one_block uK hv,?_,by simp⟩
 · simp[execOp,Instr.alloc,zeroValue,typeInfo,hi,hz,newVar,newRow,newObj,Sem.run]
 · intro ρ' k h'
   have:=bW.ptr (ρ:=ρ') k 0 0 _ h'
   simpa using this
 · omega
end
end Go.Fw
namespace Go.Fw
open Go
theorem adz{α:Type}(l:List α)(p:Nat)(vs:List α)(h:p+vs.length<=l.length)(t:Nat):
   (splice l p vs)[t]?=if t<p then l[t]? else if t<p+vs.length then vs[t-p]? else l[t]?:=by
 unfold splice
 have hp:(l.take p).length=p:=by simp; omega
 by_cases h1:t<p
 · rw[atV h1,aQY,aQQ (by omega),aRm h1]
 · rw[aqA h1]
   by_cases h2:t<p+vs.length
   · rw[atV h2,aQQ (by simp; omega),aRq (by omega),hp]
   · rw[aqA h2,aRq (by simp; omega),aRE]
     congr 1
     simp; omega
theorem ajZ(e:Value)(j:Nat)(cs:List Value)(h1:cs.all scal=true)(h2:j+cs.length<=e.cells.size)(h0:0<cs.length):
   (lW e j cs).cells.toList=splice e.cells.toList j cs:=by
 cases e with
 |agg xs=>simp[lW,Value.cells]
 |_=>
   simp only[Value.cells,aRP,agr,aQ']at h2
   obtain⟨c,hc⟩:∃c,cs=[c]:=List.length_eq_one_iff.1 (by omega)
   subst hc
   have hj:j=0:=by simp at h2; exact h2
   subst hj
   simp only[lW,List.headD_cons]
   cases c<;>simp[scal]at h1<;>rfl
theorem bn.splice{ρ:dI}{a b vs cs:List Value}(p:Nat)(h:bn ρ a b)(h':bn ρ vs cs):bn ρ (splice a p vs) (splice b p cs):=by
 unfold Fw.splice
 rw[h'.length]
 exact ((h.take p).append h').append (h.drop _)
theorem alg{α:Type}(l:List α)(q m j:Nat)(vs:List α)(h1:j+vs.length<=m)(h2:q+m<=l.length):
   ((splice l (q+j) vs).drop q).take m=splice ((l.drop q).take m) j vs:=by
 apply aR0
 intro t
 have hlen:j+vs.length<=((l.drop q).take m).length:=by simp; omega
 rw[adz _ _ _ hlen]
 by_cases ht:t<m
 · rw[aRm ht,aRE,adz _ _ _ (by omega),aRm ht,aRE]
   by_cases a:t<j
   · rw[atV (by omega),atV a]
   · rw[aqA (by omega),aqA a]
     by_cases b:t<j+vs.length
     · rw[atV (by omega),atV b]; congr 1; omega
     · rw[aqA (by omega),aqA b]
 · rw[aqA (by omega),aqA (by omega)]
   simp[aSa,ht]
theorem Zm{α:Type}(l:List α)(q m p:Nat)(vs:List α)(h:q+m<=p\/p+vs.length<=q)(h2:p+vs.length<=l.length):
   ((splice l p vs).drop q).take m=(l.drop q).take m:=by
 apply aR0
 intro t
 by_cases ht:t<m
 · rw[aRm ht,aRE,adz _ _ _ (by omega),aRm ht,aRE]
   by_cases a:q+t<p
   · rw[atV a]
   · rw[aqA a,aqA (by omega)]
 · simp[aSa,ht]
section
variable{P:Program} [bF P]{n:Nat}{f:Fr}{H:aB}{A:Array Oper}{r:List Oper}{K:Fr->aB->Prop}{d:Option Tmp}{x y z:Operand}{T T' T'':TypeId}{ps:String}{af:Array Edge}
theorem aek{k i j s:Nat}{b:eO}{e v:Value}{gd:Option (Nat×Bool)}(hs:SZ P T s)(hx:EV n f x (.pointer (some ⟨k,i,some j⟩)))(hy:EV n f y v)(hk:H[k]?=some (some b))(ho:b.own=true)
   (he:b.elems[i]?=some e) (hv:v.cells.size=s) (hsc:v.cells.toList.all scal=true) (h0:0<s) (hj:j+s<=e.cells.size)
   (h:K (put f d undef) (H.set k (some ⟨b.elems.set i (lW e j v.cells.toList),b.ty,true,b.wr⟩))):
   AU P n ⟨d,.store T x y,T',ps,af,gd⟩ f H K:=by
 intro ρ w a K' Q' hr hf hkk
 obtain⟨L,hl,hbr,hc⟩:=(hx.use hf).ptr_inv hr hk
 have uK:=hy.use hf
 have hown:L.own=true:=by rw[←hbr.own]; exact ho
 obtain⟨cs,ct,fr,hh,hel,hr2⟩:=hbr.cells
 obtain⟨hoff,hcap,hlen,hfr,rfl⟩:=hr2 hown
 have hcl:=uK.cells
 have hcs:(a.eval y).cells.toList.length=s:=by rw[←hcl.length]; simpa using hv
 have hcs':(a.eval y).cells.size=s:=by simpa using hcs
 have hilt:i<b.elems.length:=by
   rcases aQ7 i b.elems.length with h|h
   · exact h
   · simp[h]at he
 have hre:=(hel i e he).2
 have hwin:i*L.sz+L.sz<=cs.size:=by
   have:(i+1)*L.sz<=L.cap*L.sz:=aQ4 _ (by omega)
   rw[aRy]at this; omega
 have aOw:e.cells.size=L.sz:=by
   have:=hre.length
   simp[hoff]at this; omega
 have Tw:∀u∈(a.eval y).cells.toList,scal u=true:=by
   intro u hu
   obtain⟨q,hq⟩:=List.mem_iff_getElem?.1 hu
   have Ka:q<(a.eval y).cells.toList.length:=by
     rcases aQ7 q (a.eval y).cells.toList.length with h|h
     · exact h
     · simp[aQR h]at hq
   have hq':q<v.cells.toList.length:=by rw[hcl.length]; exact Ka
   obtain⟨c',hc',hrel⟩:=hcl.get q _ (apA hq')
   rw[hc']at hq
   obtain rfl:c'=u:=by simpa using hq
   rw[hrel.scal]
   exact (List.all_eq_true.1 hsc) _ (aSy hq')
 obtain⟨w',hrun,hw',g1,g2,g3⟩:=Ya P (b:=L.blk) (o:=i*L.sz+j) (a.eval y).cells.toList 0 cs w hh (fun o h=>hfr o (aSJ h)) Tw (by omega)
 show Oper.upon P _ a K' Q' _
 have hex:(execOp a.eval ⟨d,.store T x y,T',ps,af,gd⟩).run P w= .ok .skip w':=by
   have hrun':(storeCells ⟨L.blk,L.off+i*L.sz+j,none⟩ (a.eval y).cells.toList 0).run P w= .ok () w':=by rw[hoff,aRf]; exact hrun
   simp[execOp,hc,Instr.storeAt,Instr.sureAddr,storeVar,SZ.run hs,hcs',hrun']
 rw[hex]
 have hwr:=hr.write (b':=⟨b.elems.set i (lW e j v.cells.toList),b.ty,true,b.wr⟩) hl hown hw' rfl rfl hbr.sz ?_ ?_
 · exact hkk _ _ _ _ _ (hf.put d (bW.undef ρ)) hwr (Step.write hl hown hw' g1 g2 g3) h
 · intro i' e' he'
   rw[hoff,aRf]
   simp only[aRV]
   by_cases hii:i'=i
   · subst hii
     have:e'=lW e j v.cells.toList:=by
       rw[aRo hilt]at he'
       simpa using he'.symm
     subst this
     have aFa:=ajZ e j v.cells.toList hsc (by simpa[hv]using hj) (by simp[hv,h0])
     refine⟨by
       have:(lW e j v.cells.toList).cells.toList.length=e.cells.toList.length:=by rw[aFa,Hq _ _ _ (by simp; omega)]
       simp only[aR3]at this
       omega,?_⟩
     rw[ajZ _ _ _ hsc (by simpa[hv]using hj) (by simp[hv,h0])]
     rw[alg _ _ _ _ _ (by omega) (by simpa using hwin)]
     rw[hoff,aRf]at hre
     exact hre.splice j hcl
   · have he0:b.elems[i']?=some e':=by rwa [aQ8 (fun e=>hii e.symm)]at he'
     have:=hel i' e' he0
     rw[hoff,aRf]at this
     refine⟨this.1,?_⟩
     rw[Zm _ _ _ _ _ ?_ (by simp; omega)]
     · exact this.2
     · rcases Nat.lt_or_gt_of_ne hii with hlt|hgt
       · left
         have:(i'+1)*L.sz<=i*L.sz:=aQ4 _ hlt
         rw[aRy]at this; omega
       · right
         have:(i+1)*L.sz<=i'*L.sz:=aQ4 _ hgt
         rw[aRy]at this; omega
 · refine⟨hoff,?_,by simpa using hlen,?_⟩
   · simp only[aRP]; rw[Hq _ _ _ (by simp; omega)]; simpa using hcap
   · simp only[aRP]; rw[Hq _ _ _ (by simp; omega)]; simpa using hfr
end
end Go.Fw
namespace Go.Fw
open Go
def fE(n:Nat)(f:Fr):List Operand->List Value->Prop
 |[],[]=>True
 |x::xs,v::vs=>EV n f x v/\fE n f xs vs
 |_,_=>False
theorem fE.nil{n:Nat}{f:Fr}:fE n f [] []:=aSq
theorem fE.cons{n:Nat}{f:Fr}{x:Operand}{xs:List Operand}{v:Value}{vs:List Value}(h:EV n f x v)(t:fE n f xs vs):fE n f (x::xs) (v::vs):=⟨h,t⟩
theorem fE.use{n:Nat}{f:Fr}:∀{xs:List Operand}{vs:List Value},fE n f xs vs-> ∀{ρ:dI}{a:Act},kY ρ n f a->bn ρ vs (xs.map a.eval)
 |[],[],_,_,_,_=>.nil
 |_::_,_::_,⟨h,t⟩,_,_,hf=>.cons _ _ _ _ (h.use hf) (t.use hf)
 |[],_::_,h,_,_,_=>h.elim
 |_::_,[],h,_,_,_=>h.elim
def CF(P:Program) [bF P](g:FuncId):Prop:=∀args w,(callFunc g args).run P w= .ok (.enter g args) w
def sv(l:List UInt8):Value:=.string ⟨l.toArray⟩
theorem EV.sv{n:Nat}{f:Fr}(l:List UInt8):EV n f (.const (.string ⟨l.toArray⟩)) (sv l):=.closed (by simp) fun _ _=>.string _
section
variable{P:Program} [bF P]{n:Nat}{f:Fr}{H:aB}{A:Array Oper}{r:List Oper}{K:Fr->aB->Prop}{d:Option Tmp}{x y z:Operand}{T T' T'' E:TypeId}{ps:String}{af:Array Edge}
theorem alh{o:Oper}{g:FuncId}{vs:List Value}{Qc:Value->aB->Prop}
   (hx:∀ρ w a,kY ρ n f a-> ∃lI:Array Value,(execOp a.eval o).run P w= .ok (.enter g lI) w/\bn ρ vs lI.toList)
   (hc:AC P g vs H Qc) (hk:∀v H',Qc v H'->K (put f o.dst v) H'):AU P n o f H K:=by
 intro ρ w a K' Q' hr hf hkk
 obtain⟨lI,hrun,hrel⟩:=hx ρ w a hf
 show o.upon P a K' Q' _
 rw[hrun]
 refine (hc ρ w lI hr hrel).mono ?_
 rintro e w' ⟨v,rv,ρ',H',rfl,h1,h2,h3,h4⟩
 exact hkk _ _ _ _ _ ((hf.up h3.up).put o.dst h1) h2 h3 (hk rv H' h4)
theorem ay9{gd:Option (Nat×Bool)}{g:FuncId}{xs:List Operand}{ts:Array TypeId}{vs:List Value}{Qc:Value->aB->Prop}(hg:CF P g)(hxs:fE n f xs vs)(hc:AC P g vs H Qc)
   (hk:∀v H',Qc v H'->K (put f d v) H'):AU P n ⟨d,.call ⟨.value (.func g),xs.toArray,ts⟩,T',ps,af,gd⟩ f H K:=
 alh (fun ρ w a hf=>⟨(xs.map a.eval).toArray,by
   have:=hg (xs.map a.eval).toArray w
   simp[execOp,resolve,Deferred.ofValue,Act.eval,invoke,this],hxs.use hf⟩) hc hk
theorem bW.func_inv{ρ:dI}{c:Value}{fn:Fn}{a b:List Value}(h:bW ρ (.func fn a.toArray b.toArray) c):∃a' b',c= .func fn a'.toArray b'.toArray/\bn ρ a a'/\bn ρ b b':=by
 generalize hx:Value.func fn a.toArray b.toArray=x at h
 cases h with
 |func fn' p q p' q' h1 h2=>cases hx; exact⟨p',q',rfl,h1,h2⟩
 |_=>simp at hx
theorem axV{gd:Option (Nat×Bool)}{g:FuncId}{xs:List Operand}{ts:Array TypeId}{vs first cap:List Value}{Qc:Value->aB->Prop}(hg:CF P g)(hx:EV n f x (.func (.func g) first.toArray cap.toArray))(hxs:fE n f xs vs)
   (hc:AC P g (first++vs++cap) H Qc) (hk:∀v H',Qc v H'->K (put f d v) H'):
   AU P n ⟨d,.call ⟨.value x,xs.toArray,ts⟩,T',ps,af,gd⟩ f H K:=
 alh (fun ρ w a hf=>by
   obtain⟨p,q,hp,h1,h2⟩:=(hx.use hf).func_inv
   refine⟨(p++xs.map a.eval++q).toArray,?_,?_⟩
   · have:=hg (p++xs.map a.eval++q).toArray w
     simp[execOp,resolve,Deferred.ofValue,hp,invoke]
     simpa using this
   · exact (h1.append (hxs.use hf)).append h2) hc hk
theorem Rc{fn:Fn}{xs ys:List Operand}{vs us:List Value}(hx:fE n f xs vs)(hy:fE n f ys us):
   fK P n ⟨d,.makeFunc fn xs.toArray ys.toArray,T',ps,af,none⟩ f H ((.func fn vs.toArray us.toArray)):=
 fun ρ w a _ hf=>⟨.func fn (xs.map a.eval).toArray (ys.map a.eval).toArray,by simp[execOp,Instr.makeFunc],.func _ _ _ _ _ (hx.use hf) (hy.use hf)⟩
theorem bW.slice_len{ρ:dI}{a:Option Addr}{l m:Nat}{c:Value}(h:bW ρ (.slice a l m) c):∃a' cap,c= .slice a' l cap:=by
 generalize hx:Value.slice a l m=x at h
 cases h<;>cases hx<;>exact⟨_,_,rfl⟩
theorem aBK{a:Option Addr}{len m:Nat}{ts:List TypeId}(hT:SL P T E)(hx:EV n f x (.slice a len m)):
   fK P n ⟨d,.call ⟨.builtin .len,[x].toArray,(T::ts).toArray⟩,T',ps,af,none⟩ f H (.int .i64 len):=fun ρ w a hr hf=>by
 obtain⟨a',cap,hc⟩:=(hx.use hf).slice_len
 have hu:P.underlying T=some (.slice E):=hT
 exact⟨.int .i64 len,by simp[execOp,resolve,invoke,builtin,Builtin.len_,hc,underlying,hu,goInt],.int _ _⟩
def ST(P:Program) [bF P](t:TypeId):Prop:=P.underlying t=some .string
theorem aBL{kk:IntKind}{i j:Int}{ts:Array TypeId}(hx:EV n f x (.int kk i))(hy:EV n f y (.int kk j)):
   fK P n ⟨d,.call ⟨.builtin .min,[x,y].toArray,ts⟩,T',ps,af,none⟩ f H ((.int kk (if j<i then j else i))):=
 fun ρ w a hr hf=>⟨.int kk (if j<i then j else i),by simp[execOp,resolve,invoke,builtin,Builtin.min_,Builtin.min2,(hx.use hf).int_inv,(hy.use hf).int_inv],.int _ _⟩
end
end Go.Fw
namespace Go.Fw
open Go
def Reads(H:aB)(E:TypeId)(v:Value)(xs:List Value):Prop:=
 (v= .slice none 0 0/\xs=[])\/
 ∃k i n m b,v= .slice (some ⟨k,i,none⟩) n m/\H[k]?=some (some b)/\b.ty=E/\i+n<=b.elems.length/\(b.elems.drop i).take n=xs
def an0(H:aB)(v:Value):Prop:=
 v= .slice none 0 0\/ ∃k i n m b,v= .slice (some ⟨k,i,none⟩) n m/\H[k]?=some (some b)/\((m=1)\/(m=2/\i=0/\b.own=true))
section
variable{P:Program} [bF P]{ρ:dI}{H:aB}{w:World}
theorem Reads.len{E:TypeId}{v:Value}{xs:List Value}(h:Reads H E v xs):∃a m,v= .slice a xs.length m:=by
 rcases h with⟨rfl,rfl⟩|⟨k,i,n,m,b,rfl,-,-,hle,rfl⟩
 · exact⟨_,_,rfl⟩
 · refine⟨some ⟨k,i,none⟩,m,?_⟩
   have:((b.elems.drop i).take n).length=n:=by rw[aRi,aRT]; omega
   rw[this]
def flat(xs:List Value):List Value:=xs.flatMap (·.cells.toList)
theorem bn.window{cs:List Value}{sz:Nat}:∀(xs:List Value)(q:Nat),(∀(i:Nat) e,xs[i]?=some e->bn ρ e.cells.toList ((cs.drop (q+i*sz)).take sz)/\e.cells.size=sz)->
   bn ρ (flat xs) ((cs.drop q).take (xs.length*sz))
 |[],q,_=>by simp[flat]; exact .nil
 |x::xs,q,h=>by
   obtain⟨h0,hs⟩:=h 0 x (by simp)
   have ih:=bn.window xs (q+sz) (fun i e he=>by
     have:=h (i+1) e (by simpa using he)
     rw[aRy,aSC]at this
     rw[aSv q sz,aSL sz]
     exact this)
   have:=h0.append ih
   rw[aR5,aRV]at this
   simp only[flat,av1]at this ⊢
   have e:(cs.drop q).take ((x::xs).length*sz)=(cs.drop q).take sz++(cs.drop (q+sz)).take (xs.length*sz):=by
     rw[agr,aRy,aSC,aSL (xs.length*sz),List.take_add,aRR]
   rw[e]; exact this
theorem bn.elems{sz:Nat}:∀(xs:List Value)(cs rest:List Value),bn ρ (flat xs) cs->(∀e∈xs,e.cells.size=sz)->
   ∀(i:Nat) e,xs[i]?=some e->bn ρ e.cells.toList (((cs++rest).drop (i*sz)).take sz)
 |[],cs,rest,_,_=>fun i e he=>by simp at he
 |x::xs,cs,rest,h,hs=>by
   intro i e he
   have hx:x.cells.toList.length=sz:=by simpa using hs x (by simp)
   have hl:=h.length
   simp only[flat,av1,aQW]at hl
   have h1:bn ρ x.cells.toList (cs.take sz):=by
     have:=h.take sz
     simp only[flat,av1]at this
     rwa [aRI (by omega),aRt (by omega)]at this
   have h2:bn ρ (flat xs) (cs.drop sz):=by
     have:=h.drop sz
     simp only[flat,av1]at this
     rwa [aRz (by omega),aRj (by omega),aRa]at this
   cases i with
   |zero=>
     obtain rfl:x=e:=by simpa using he
     rw[aR5,aRl,aRI (by omega)]
     exact h1
   |succ i=>
     have:=bn.elems xs (cs.drop sz) rest h2 (fun e he=>hs e (by simp[he])) i e (by simpa using he)
     rw[aRy,aSC,aSL,←aRR,aRz (by omega)]
     exact this
theorem Reads.rel{E:TypeId}{s:Nat}{v c:Value}{xs:List Value}(hs:SZ P E s)(h0:0<s)(hr:aD P ρ H w)(h:Reads H E v xs)(hv:bW ρ v c):
   ∃base cap,c= .slice base xs.length cap/\xs.length<=cap/\(∀e∈xs,e.cells.size=s)/\
     ∃cells:Array Value,(Builtin.firstCells s xs.length c).run P w= .ok cells w/\bn ρ (flat xs) cells.toList:=by
 rcases h with⟨rfl,rfl⟩|⟨k,i,n,m,b,rfl,hk,hty,hle,rfl⟩
 · cases hv
   exact⟨none,0,rfl,aQT _,by simp,#[],by simp[Builtin.firstCells],.nil⟩
 · obtain⟨L,p,cap,hl,hbr,rfl,hcap,-,-,hp⟩:=hv.slice_inv hr hk
   have hlen:((b.elems.drop i).take n).length=n:=by rw[aRi,aRT]; omega
   obtain⟨cs,ct,fr,hh,hel,-⟩:=hbr.cells
   have hsz:L.sz=s:=by rw[←hbr.sz,hty,hs.cells]
   have hget:∀(q:Nat) e,((b.elems.drop i).take n)[q]?=some e->e.cells.size=s/\bn ρ e.cells.toList ((cs.toList.drop (L.off+i*L.sz+q*L.sz)).take L.sz):=by
     intro q e he
     have hq:q<n:=by
       rcases aQ7 q n with h|h
       · exact h
       · rw[aQR (by omega)]at he; simp at he
     rw[aRm hq,aRE]at he
     have:=hel (i+q) e he
     rw[aRy,←aSv]at this
     exact⟨this.1.trans hsz,this.2⟩
   have hrel:bn ρ (flat ((b.elems.drop i).take n)) ((cs.toList.drop (L.off+i*L.sz)).take (n*L.sz)):=by
     have:=bn.window (ρ:=ρ) (cs:=cs.toList) (sz:=L.sz) ((b.elems.drop i).take n) (L.off+i*L.sz) (fun q e he=>⟨(hget q e he).2,(hget q e he).1.trans hsz.symm⟩)
     rwa [hlen]at this
   have hes:∀e∈(b.elems.drop i).take n,e.cells.size=s:=by
     intro e he
     obtain⟨q,hq⟩:=List.mem_iff_getElem?.1 he
     exact (hget q e hq).1
   rw[hlen]
   by_cases hn:n=0
   · subst hn
     refine⟨some p,cap,rfl,hcap,hes,#[],by simp[Builtin.firstCells,loadCells,loadCellsFrom],?_⟩
     simpa using hrel
   · rw[hp hn]
     have hb:L.off+i*L.sz+n*s<=cs.size:=by
       obtain⟨e,he⟩:∃e,((b.elems.drop i).take n)[n-1]?=some e:=⟨_,apA (by omega)⟩
       obtain⟨h1,h2⟩:=hget (n-1) e he
       have:=h2.length
       simp only[aR3,aRi,aRT]at this
       have h3:(n-1)*L.sz+L.sz=n*s:=by rw[hsz]; rw[←aRW]; congr 1; omega
       omega
     refine⟨some ⟨L.blk,L.off+i*L.sz,none⟩,cap,rfl,hcap,hes,((cs.toList.drop (L.off+i*L.sz)).take (n*s)).toArray,?_,?_⟩
     · simp only[Builtin.firstCells]
       exact run_loadCells P hh (n*s) hb
     · simpa[hsz]using hrel
end
theorem ali(n:Nat):∀(r c:Nat),Builtin.growBy n r c<=max c (n+(n+768) / 4)
 |0,c=>by simp[Builtin.growBy]; omega
 |r+1,c=>by
   simp only[Builtin.growBy]
   split
   · omega
   · have:=ali n r (c+(c+768) / 4)
     omega
theorem nextslicecap_le(need old:Nat)(h:old<need):Builtin.nextslicecap need old<=2*need+1024:=by
 unfold Builtin.nextslicecap
 split
 · omega
 · split
   · omega
   · have:=ali need 4 old
     omega
def xn(H:aB):Value->aB
 | .slice (some a) _ 2=>H.set a.block none
 |_=>H
theorem akw(a b:List Value):flat (a++b)=flat a++flat b:=by simp[flat]
theorem EQ{s:Nat}:∀(xs:List Value),(∀e∈xs,e.cells.size=s)->(flat xs).length=xs.length*s
 |[],_=>by simp[flat]
 |x::xs,h=>by
   have:=EQ xs (fun e he=>h e (by simp[he]))
   have hx:=h x (by simp)
   simp only[flat,av1,aQW,agr,aR3]at this ⊢
   rw[this,hx,aRy,aSC,aSL]
def oH(P:Program) [bF P](t:TypeId):Prop:=P.underlying t=some .string\/ ∃e,P.underlying t=some (.slice e)
theorem PI(z:Array Value)(n:Nat):(Builtin.zeroCells z n).size=n*z.size:=by simp[Builtin.zeroCells]
section
variable{P:Program} [bF P]{n:Nat}{f:Fr}{H:aB}{A:Array Oper}{r:List Oper}{K:Fr->aB->Prop}{d:Option Tmp}{x y z:Operand}{T T' T'' T2 E:TypeId}{ps:String}{af:Array Edge}
theorem aw3{gd:Option (Nat×Bool)}{s by':Nat}{v u zv:Value}{iE:TypeInfo}{old new:List Value}{ts:List TypeId}(hT:SL P T E)(qb:oH P T2)(hs:SZ P E s)(h0:0<s)(xX:P.info? E=some iE)(hzv:iE.zero=some zv)(hzs:zv.cells.size=s)(hby:iE.bytes=by')
   (hx:EV n f x v) (hy:EV n f y u) (hr:Reads H E v old) (hg:an0 H v) (hn:Reads H E u new) (hne:new≠[]) (hsc:(flat new).all scal=true)
   (hroom:(2*(old.length+new.length)+1024)*by'<=2 ^ 48) (aLI:old.length+new.length<2 ^ 62)
   (h:K (put f d (.slice (some ⟨H.length,0,none⟩) (old.length+new.length) 2)) (xn H v++[some ⟨old++new,E,true,true⟩])):
   AU P n ⟨d,.call ⟨.builtin .append,[x,y].toArray,(T::T2::ts).toArray⟩,T',ps,af,gd⟩ f H K:=by
 intro ρ w a K' Q' hrel hf hkk
 obtain⟨base,sCap,hcx,hcap,hoe,-,-,-⟩:=hr.rel hs h0 hrel (hx.use hf)
 obtain⟨an1,cap2,hcy,hcap2,hne2,-,-,-⟩:=hn.rel hs h0 hrel (hy.use hf)
 have hu:P.underlying T=some (.slice E):=hT
 have hnl:0<new.length:=List.length_pos_iff.2 hne
 show Oper.upon P _ a K' Q' _
 by_cases hfit:old.length+new.length<=sCap
 · -- it fits:our own block
   rcases hg with rfl|⟨k,i,m,q,b,rfl,hk,hmode⟩
   · have hv:=hx.use hf
     generalize a.eval x=c at hv hcx
     cases hv
     injection hcx with _ _ e
     omega
   have hv:=hx.use hf
   obtain⟨L,p,cap',hl,hbr,hc,hcl,h1,h2,hp⟩:=hv.slice_inv hrel hk
   rw[hcx]at hc
   injection hc with e1 e2 e3
   subst e2 e3
   rcases hmode with rfl|⟨rfl,rfl,hown⟩
   · have:=h1 rfl; omega
   obtain⟨-,hown',si,rfl,-⟩:=h2 (aQT _)
   subst e1
   obtain⟨aLJ,aMF,apK,-,-,cells,NB,hcells⟩:=hn.rel hs h0 hrel (hy.use hf)
   rw[hcy]at apK
   injection apK with g1 _ g3
   subst g1 g3
   rw[hcy]at NB
   obtain⟨cs,ct,fr,hh,hel,hr2⟩:=hbr.cells
   obtain⟨hoff,ay_,hlen,hfr,rfl⟩:=hr2 hown'
   have apL:b.ty=E:=by
     rcases hr with⟨e,-⟩|⟨k',i',n',m',b',e,hk',hty,-,-⟩
     · simp at e
     · injection e with e _ _; injection e with e; injection e with e _ _; subst e; rw[hk]at hk'; injection hk' with hk'; injection hk' with hk'; rw[hk']; exact hty
   have hsz:L.sz=s:=by rw[←hbr.sz,apL,hs.cells]
   have an2:cells.toList.length=new.length*s:=by rw[←hcells.length,EQ _ hne2]
   have hcsz:cells.size=new.length*s:=by simpa using an2
   have hbound:old.length*s+new.length*s<=cs.size:=by
     have:(old.length+new.length)*s<=L.cap*L.sz:=by rw[hsz]; exact aQ4 _ (aQ6 hfit si)
     rw[aRy]at this; omega
   have Tw:∀c∈cells.toList,scal c=true:=by
     intro c hc
     obtain⟨q,hq⟩:=List.mem_iff_getElem?.1 hc
     have Ka:q<cells.toList.length:=by
       rcases aQ7 q cells.toList.length with h|h
       · exact h
       · simp[aQR h]at hq
     have hq':q<(flat new).length:=by rw[hcells.length]; exact Ka
     obtain⟨c',hc',hrc⟩:=hcells.get q _ (apA hq')
     rw[hc']at hq
     obtain rfl:c'=c:=by simpa using hq
     rw[hrc.scal]
     exact (List.all_eq_true.1 hsc) _ (aSy hq')
   obtain⟨w',hrun,hw',w1,w2,w3⟩:=Ya P (b:=L.blk) (o:=old.length*s) cells.toList 0 cs w hh (fun o h=>hfr o (aSJ h)) Tw (by omega)
   have hex:(execOp a.eval ⟨d,.call ⟨.builtin .append,[x,y].toArray,(T::T2::ts).toArray⟩,T',ps,af,gd⟩).run P w=
       .ok (.value (.slice (some ⟨L.blk,L.off,none⟩) (old.length+new.length) sCap)) w':=by
     have ha:Addr.add ⟨L.blk,L.off,none⟩ (old.length*s)=⟨L.blk,old.length*s,none⟩:=by rw[addr_add,hoff,aRf]
     rcases qb with hu2|⟨e2,hu2⟩<;>
       simp[execOp,resolve,invoke,builtin,Builtin.append_,hcx,hcy,underlying,hu,hu2,SZ.run hs,Builtin.lenOf,hfit,NB,ha,hrun]
   rw[hex]
   have hkn:ρ k≠none:=by rw[hl]; simp
   have aBM:=hrel.kill hkn
   have hblt:=hrel.lt hl
   have an3:(splice cs.toList (old.length*s+0) cells.toList).length=cs.toList.length:=Hq _ _ _ (by simp; omega)
   have hold:(b.elems.take old.length)=old:=by
     rcases hr with⟨e,-⟩|⟨k',i',n',m',b',e,hk',-,-,hrd⟩
     · simp at e
     · injection e with e e2 _; injection e with e; injection e with e e3 _
       subst e e2 e3
       rw[hk]at hk'; injection hk' with hk'; injection hk' with hk'; subst hk'
       simpa using hrd
   have hadd:=aBM.add (L:=⟨L.blk,0,s,L.cap,true⟩) (b:=⟨old++new,E,true,true⟩) (w':=w') ⟨rfl,hs.cells,(splice cs.toList (old.length*s+0) cells.toList).toArray,E,fr,by rw[hw',apL]; simp[hblt],?_,?_⟩ ?_ ?_
   · have hst:=Step.move (b:=⟨old++new,E,true,true⟩) (L':=⟨L.blk,0,s,L.cap,true⟩) hrel hl hown' rfl rfl hw' w1 w2 w3
     refine hkk _ _ _ _ _ ((hf.up hst.up).put d ?_) (by simpa using hadd (by simpa using hrel.xU.step hst)) hst (by simpa[xn]using h)
     refine bW.slice H.length 0 _ 2 ⟨L.blk,0,s,L.cap,true⟩ _ sCap (by simp[ny]) hfit (by simp) (fun _=>⟨rfl,rfl,si,?_⟩) (fun _=>⟨?_,fun _=>aQ6 (aRe (aRf _)) (aQ6 hfit si)⟩)
     · simp[hoff]
     · simp[hoff]
   · intro q e he
     simp only[aRf]
     have hup:Up ρ (ny ρ k none):=(Step.kill (H:=H) (w:=w) hkn).up
     by_cases hq:q<old.length
     · have he':b.elems[q]?=some e:=by
         rw[aQQ hq,←hold]at he
         rwa [aRm hq]at he
       have:=hel q e he'
       rw[hoff,aRf,hsz]at this
       refine⟨this.1,?_⟩
       have hqs:q*s+s<=old.length*s:=by rw[←aRW]; exact aQ4 _ hq
       rw[Zm _ _ _ _ _ (.inl (by omega)) (by simp; omega)]
       exact this.2.up hup
     · have he':new[q-old.length]?=some e:=by rwa [aRq (by omega)]at he
       have hlt:q-old.length<new.length:=by
         rcases aQ7 (q-old.length) new.length with h|h
         · exact h
         · simp[aQR h]at he'
       refine⟨hne2 e (aRh he'),?_⟩
       have apM:=bn.elems new cells.toList [] hcells hne2 (q-old.length) e he'
       rw[aQ_]at apM
       have hqe:q*s=old.length*s+(q-old.length)*s:=by rw[←aRy]; congr 1; omega
       have hqs:(q-old.length)*s+s<=new.length*s:=by rw[←aRW]; exact aQ4 _ hlt
       have hw1:((splice cs.toList (old.length*s+0) cells.toList).drop (old.length*s)).take cells.toList.length=cells.toList:=by
         rw[alg _ _ _ 0 _ (by omega) (by simp; omega)]
         unfold splice
         simp
       have hw2:((splice cs.toList (old.length*s+0) cells.toList).drop (q*s)).take s=(cells.toList.drop ((q-old.length)*s)).take s:=by
         conv=>rhs; rw[←hw1]
         rw[List.drop_take,aTm,aRR,hqe,aR9 (by rw[an2]; omega)]
       show bn _ _ ((_:List Value).take s)
       rw[hw2]
       exact apM.up hup
   · intro _
     refine⟨rfl,?_,by simp; omega,?_⟩
     · simp only[aRP,an3]; simpa[hsz]using ay_
     · simp only[aRP,an3]; simpa using hfr
   · intro k' L' hk'
     by_cases e:k'=k
     · subst e; rw[gX]at hk'; simp at hk'
     · rw[eH _ _ e]at hk'
       exact fun hb=>e (hrel.inj k k' L L' hl hk' hown' hb.symm).symm
   · intro k' L' hk'
     by_cases e:k'=k
     · subst e; rw[gX]at hk'; simp at hk'
     · rw[eH _ _ e]at hk'
       have hne:L.blk≠L'.blk:=fun hb=>e (hrel.inj k k' L L' hl hk' hown' hb).symm
       rw[hw',aRx hne]
 · -- a new array
   have hw1:(({w with drawn:=w.drawn+1}:World)).heap=w.heap:=rfl
   have Jj:aD P ρ H {w with drawn:=w.drawn+1}:=hrel.of_heap rfl
   obtain⟨b1,c1,hc1,-,-,Cv,amx,amy⟩:=hr.rel hs h0 Jj (hx.use hf)
   obtain⟨b2,c2,hc2,-,-,Cw,amz,amA⟩:=hn.rel hs h0 Jj (hy.use hf)
   rw[hcx]at amx
   rw[hcy]at amz
   have hnx:=nextslicecap_le (old.length+new.length) sCap (by omega)
   have hnb:Builtin.nextslicecap (old.length+new.length) sCap*iE.bytes<=2 ^ 48:=by
     rw[hby]; exact aQ6 (aQ4 _ hnx) hroom
   obtain⟨newCap,hnew,hcut⟩:∃c,old.length+new.length<=c/\(Question.appendCap (old.length+new.length) sCap E).cut (w.tape w.drawn (.appendCap (old.length+new.length) sCap E))=c:=⟨_,Nat.le_add_right _ _,rfl⟩
   have hex:(execOp a.eval ⟨d,.call ⟨.builtin .append,[x,y].toArray,(T::T2::ts).toArray⟩,T',ps,af,gd⟩).run P w=
       .ok (.value (.slice (some ⟨w.heap.size,0,none⟩) (old.length+new.length) newCap))
         {w with drawn:=w.drawn+1,heap:=w.heap.push (.cells (Cv++Cw++Builtin.zeroCells zv.cells (newCap-(old.length+new.length))) E (0,0))}:=by
     have aBN:¬ (old.length+new.length<=sCap):=hfit
     have hnb':¬ (2 ^ 48<Builtin.nextslicecap (old.length+new.length) sCap*iE.bytes):=by omega
     have aBO:¬ (9223372036854775807<(old.length:Int)+(new.length:Int)/\iE.bytes=0):=by omega
     have hz2:(zeroValue E).run P {w with drawn:=w.drawn+1}= .ok zv {w with drawn:=w.drawn+1}:=by simp[zeroValue,typeInfo,xX,hzv]
     rcases qb with hu2|⟨e2,hu2⟩<;>
       simp[execOp,resolve,invoke,builtin,Builtin.append_,hcx,hcy,underlying,hu,hu2,SZ.run hs,Builtin.lenOf,aBN,typeInfo,xX,hnb']
     all_goals
       rw[aqA aBO,aqA (by simp[Question.forced]),hcut]
       have hf1:(Builtin.firstCells s old.length (Value.slice base old.length sCap)).run P w.drew= .ok Cv w.drew:=amx
       have hf2:(Builtin.firstCells s new.length (Value.slice an1 new.length cap2)).run P w.drew= .ok Cw w.drew:=amz
       have hz3:(zeroValue E).run P w.drew= .ok zv w.drew:=hz2
       simp[hf1,hf2,hz3,newRow,newObj,Sem.run]
       rfl
   rw[hex]
   have hzz:zv.cells.size=s:=hzs
   have hl1:Cv.toList.length=old.length*s:=by rw[←amy.length,EQ _ hoe]
   have hl2:Cw.toList.length=new.length*s:=by rw[←amA.length,EQ _ hne2]
   have push:∀(ρ0:dI)(H0:aB),aD P ρ0 H0 {w with drawn:=w.drawn+1}->Up ρ ρ0->H0.length=H.length->Step ρ H w ρ0 H0 {w with drawn:=w.drawn+1}->H0=xn H v->
       K' (a.put d (.slice (some ⟨w.heap.size,0,none⟩) (old.length+new.length) newCap)) {w with drawn:=w.drawn+1,heap:=w.heap.push (.cells (Cv++Cw++Builtin.zeroCells zv.cells (newCap-(old.length+new.length))) E (0,0))}:=by
     intro ρ0 H0 hr0 agD aBP aFb hH0
     have aBQ:bn ρ0 (flat (old++new)) (Cv.toList++Cw.toList):=by
       rw[akw]; exact (amy.up agD).append (amA.up agD)
     have hel:=bn.elems (old++new) (Cv.toList++Cw.toList) (Builtin.zeroCells zv.cells (newCap-(old.length+new.length))).toList aBQ
       (fun e he=>by rcases List.mem_append.1 he with h|h; exact hoe e h; exact hne2 e h)
     have hpu:=hr0.push (g:=true) (w':={w with drawn:=w.drawn+1,heap:=w.heap.push (.cells (Cv++Cw++Builtin.zeroCells zv.cells (newCap-(old.length+new.length))) E (0,0))})
       (cs:=Cv++Cw++Builtin.zeroCells zv.cells (newCap-(old.length+new.length))) (ty:=E) (es:=old++new) (sz:=s) (cap:=newCap) rfl hs.cells
       (fun i e he=>⟨by rcases List.mem_append.1 (aRh he)with h|h; exact hoe e h; exact hne2 e h,by have:=hel i e he; simpa using this⟩)
       (by
         simp only[aR3]at hl1 hl2
         rw[aSo,aSo,PI,hl1,hl2,hzz,←aRy,←aRy]
         exact aQ4 _ (by omega)) (by simpa using hnew)
     have hsp:=Step.push (b:=⟨old++new,E,true,true⟩) (sz:=s) (cap:=newCap) hr0 (w':={w with drawn:=w.drawn+1,heap:=w.heap.push (.cells (Cv++Cw++Builtin.zeroCells zv.cells (newCap-(old.length+new.length))) E (0,0))}) rfl rfl rfl rfl
     refine hkk _ _ _ _ _ (((hf.up agD).up hsp.up).put d ?_) hpu (aFb.trans hsp) (by rw[hH0]; exact h)
     rw[←aBP]
     exact bW.slice H0.length 0 _ 2 ⟨w.heap.size,0,s,newCap,true⟩ _ newCap (gX _ _ _) hnew (by simp) (fun _=>⟨rfl,rfl,aQT _,rfl,by omega⟩) (fun _=>⟨by simp,fun _=>aQ6 (aRe (aRf _)) hnew⟩)
   have xB:Step ρ H w ρ H {w with drawn:=w.drawn+1}:=⟨Up.refl ρ,rfl,rfl,rfl,aQT _,fun _ _ _=>rfl,fun _ _ h=>.inl h,aQT _,fun _ _ h=>⟨h,rfl⟩⟩
   rcases hg with rfl|⟨k,i,m,q,b,rfl,hk,hmode⟩
   · exact push ρ H Jj (Up.refl ρ) rfl xB rfl
   · rcases hmode with rfl|⟨rfl,rfl,hown⟩
     · exact push ρ H Jj (Up.refl ρ) rfl xB rfl
     · have hv:=hx.use hf
       obtain⟨L,p,cap',hl,-⟩:=hv.slice_inv hrel hk
       have hkn:ρ k≠none:=by rw[hl]; simp
       have hsk:=Step.kill (H:=H) (w:={w with drawn:=w.drawn+1}) hkn
       exact push _ _ (Jj.kill hkn) hsk.up (by simp) (xB.trans hsk) rfl
end
end Go.Fw
namespace Go.Fw
open Go
def Z_(args:List Value):Fr:=fun t=>args.getD t undef
section
variable{P:Program} [bF P]
theorem bn.getD{ρ:dI}{a b:List Value}(h:bn ρ a b)(t:Nat):bW ρ (a.getD t undef) (b.getD t undef):=by
 rcases aQ7 t a.length with hl|hl
 · obtain⟨c,hc,hr⟩:=h.get t _ (apA hl)
   simp only[aSn,hc,apA hl,aSs]
   exact hr
 · have hl':b.length<=t:=by rw[←h.length]; exact hl
   simp only[aSn,aQR hl,aQR hl',Option.getD_none]
   exact .undef ρ
end
section
variable{P:Program} [bF P]{n:Nat}{f:Fr}{H:aB}{A:Array Oper}{r:List Oper}{K:Fr->aB->Prop}{d:Option Tmp}{x y z:Operand}{T T' T'' T2 E:TypeId}{ps:String}{af:Array Edge}
theorem alX{s:Nat}:∀(vs done:List Value)(Z:Array Value),(∀v∈vs,v.cells.size=s)->Z.size=(done.length+vs.length)*s->(∀v∈done,v.cells.size=s)->Z.toList.take (done.length*s)=flat done->
   ∃C:Array Value,Instr.fill (fun i=>some (i*s,s)) Z ((vs.zipIdx done.length).map fun p=>(p.2,p.1))=some C/\C.toList=flat (done++vs)
 |[],done,Z,_,hz,hd,ht=>⟨Z,by simp[Instr.fill],by
     rw[aQ_,←ht]
     rw[aRt]
     simp at hz; simp[hz]⟩
 |v::vs,done,Z,hv,hz,hd,ht=>by
   have hvs:=hv v (by simp)
   have hbound:done.length*s+s<=Z.size:=by
     rw[hz,←aRW]; exact aQ4 _ (by simp)
   have key:∀(cs:List Value)(Z:Array Value)(p j0:Nat),p+j0+cs.length<=Z.size->
       ((cs.zipIdx j0).foldl (fun(a:Array Value)(q:Value×Nat)=>a.setIfInBounds (p+q.2) q.1) Z).toList=splice Z.toList (p+j0) cs:=by
     intro cs
     induction cs with
     |nil=>intro Z p j0 _; simp[akY]
     |cons c cs ih=>
       intro Z p j0 hle
       simp only[agr]at hle
       simp only[aSR,aRv]
       rw[ih _ _ _ (by simp; omega),aSm]
       exact akv _ _ _ _ (by simp; omega)
   have hk:=key v.cells.toList Z (done.length*s) 0 (by simp[hvs]; omega)
   have aBR:(v.cells.zipIdx.foldl (fun(cs:Array Value)(q:Value×Nat)=>cs.setIfInBounds (done.length*s+q.2) q.1) Z)=(splice Z.toList (done.length*s) v.cells.toList).toArray:=by
     apply Array.toList_inj.1
     rw[aRV]at hk
     show _=splice Z.toList (done.length*s) v.cells.toList
     rw[←hk,←aS3,aSZ]
   have hsl:(splice Z.toList (done.length*s) v.cells.toList).length=Z.toList.length:=Hq _ _ _ (by simp[hvs]; omega)
   obtain⟨C,hC,hC2⟩:=alX vs (done++[v]) (splice Z.toList (done.length*s) v.cells.toList).toArray (fun u hu=>hv u (by simp[hu])) (by
       simp only[aRP,hsl,aR3,aQW,agr,aQ']; rw[hz]; congr 1; simp; omega)
     (fun u hu=>by rcases List.mem_append.1 hu with h|h; exact hd u h; simp at h; rw[h]; exact hvs) (by
       have hdl:=EQ done hd
       rw[akw,←ht]
       simp only[aQW,agr,aQ',aRf,aRW,flat,av1,aRL,aQ_]
       unfold splice
       have hlt:(Z.toList.take (done.length*s)).length=done.length*s:=by simp; omega
       rw[aRI (by simp[hvs]; omega),aRt (by simp[hvs]; omega)])
   refine⟨C,?_,by simpa using hC2⟩
   simp only[aSR,aRG,Instr.fill]
   have hif:(v.cells.size !=s||decide (done.length*s+v.cells.size>Z.size))=false:=by simp[hvs]; omega
   rw[aqA (by simpa using hif),aBR]
   simpa using hC
theorem alj:∀(parts:List (Nat×Operand))(k:Nat),parts.map (·.1)=List.range' k parts.length->parts=((parts.map (·.2)).zipIdx k).map fun p=>(p.2,p.1)
 |[],_,_=>rfl
 |(i,x)::l,k,h=>by
   simp only[aRG,agr,List.range'_succ,aTi]at h
   have:=alj l (k+1) h.2
   simp only[aRG,aSR]
   rw[←this,h.1]
theorem aut{gd:Option (Nat×Bool)}{g:Bool}{s:Nat}{iE:TypeInfo}{zv:Value}{len:Nat}{parts:List (Nat×Operand)}{vs:List Value}(hT:SL P T E)(hs:SZ P E s)(xX:P.info? E=some iE)(hzv:iE.zero=some zv)
   (hxs:fE n f (parts.map (·.2)) vs) (hidx:parts.map (·.1)=List.range' 0 parts.length) (hlen:len=parts.length) (hbig:Nat.ble (len*s) (2 ^ 24)=true) (hv:∀v∈vs,v.cells.size=s):
   uJ P n ⟨d,.buildSlice T len parts.toArray,T',ps,af,gd⟩ f (fun k=>.slice (some ⟨k,0,none⟩) len 1) ⟨vs,E,true,g⟩:=
 ⟨rfl,fun ρ H w a hr hf=>by
   simp only[hs.cells]
   have uK:=hxs.use hf
   have hvl:vs.length=parts.length:=by rw[uK.length]; simp
   generalize hcv:(parts.map (·.2)).map a.eval=Ol at uK
   have hcs:∀c∈Ol,c.cells.size=s:=by
     intro c hc
     obtain⟨i,hi⟩:=List.mem_iff_getElem?.1 hc
     have hil:i<Ol.length:=by
       rcases aQ7 i Ol.length with h|h
       · exact h
       · simp[aQR h]at hi
     have apN:i<vs.length:=by rw[uK.length]; exact hil
     obtain⟨c',hc',hrc⟩:=uK.get i _ (apA apN)
     rw[hc']at hi
     obtain rfl:c'=c:=by simpa using hi
     have:=hrc.cells.length
     simp only[aR3]at this
     rw[←this]; exact hv _ (aSy apN)
   have hcl:Ol.length=len:=by rw[←uK.length,hvl,hlen]
   have hu:P.underlying T=some (.slice E):=hT
   have hparts:(parts.toArray.map fun p=>(p.1,a.eval p.2)).toList=(Ol.zipIdx 0).map fun p=>(p.2,p.1):=by
     conv=>lhs; rw[alj parts 0 hidx]
     rw[←hcv]
     simp[List.zipIdx_map,Function.comp_def]
   have ay':∀(l m:List Value),bn ρ l m->bn ρ (flat l) (flat m):=by
     intro l
     induction l with
     |nil=>intro m h; cases h; exact .nil
     |cons x l ih=>intro m h; cases h with|cons _ c _ m' hx ht=>exact hx.cells.append (ih m' ht)
   have Tx:(Array.range (len*s)).size=len*s:=by simp
   obtain⟨C,hC,hC2⟩:=alX Ol [] ((Array.range (len*s)).map fun q=>(if len*s=0 then #[]else zv.cells)[q % (if len*s=0 then #[]else zv.cells).size]!) hcs (by simp[hcl]) (by simp) (by simp[flat])
   rw[aRa]at hC2
   have hrun:(execOp a.eval ⟨d,.buildSlice T len parts.toArray,T',ps,af,gd⟩).run P w= .ok (.value (.slice (some ⟨w.heap.size,0,none⟩) len len)) {w with heap:=w.heap.push (.cells C E (0,0))}:=by
     have hb:¬ (2 ^ 24<len*s):=by have:=aQS hbig; omega
     have hz:(zeroValue E).run P w= .ok zv w:=by simp[zeroValue,typeInfo,xX,hzv]
     have hC':=hC
     rw[aQ',←hparts]at hC'
     rw[show (parts.toArray.map fun p=>(p.1,a.eval p.2)).toList=parts.map fun p=>(p.1,a.eval p.2)from by simp]at hC'
     by_cases hz0:len*s=0
     · rw[atV hz0]at hC'
       simp only[execOp,Instr.buildSlice,underlying]
       simp only[hz0]at hC'
       have hC3:Instr.fill (fun i=>some (i*s,s)) (Array.map (fun _=>default) (Array.range 0)) (parts.map fun p=>(p.1,a.eval p.2))=some C:=by simpa using hC'
       simp[hu,SZ.run hs,hz0]
       rw[hC3]
       simp[newRow,newObj,Sem.run]
     · rw[aqA hz0]at hC'
       simp only[execOp,Instr.buildSlice,underlying]
       simp[hu,SZ.run hs,hb,hz0,hz]
       rw[hC']
       simp[newRow,newObj,Sem.run]
   refine⟨_,C,len,_,hrun,rfl,rfl,rfl,rfl,?_,?_,?_,by omega⟩
   · intro ρ' k h'
     exact bW.slice k 0 len 1 _ _ len h' (aQT _) (fun _=>⟨rfl,aQT _⟩) (fun h=>by simp at h) (fun _=>by simp)
   · intro i e he
     refine⟨hv e (aRh he),?_⟩
     have:=bn.elems vs C.toList [] (by rw[hC2]; exact ay' _ _ uK) hv i e he
     simpa using this
   · have:C.toList.length=len*s:=by rw[hC2,EQ _ hcs,hcl]
     simp at this; omega⟩
end
end Go.Fw
namespace Go.Fw
open Go
section
variable{P:Program} [bF P]{n:Nat}{f:Fr}{H:aB}{A:Array Oper}{r:List Oper}{K:Fr->aB->Prop}{Q:Exit->Fr->aB->Prop}{d:Option Tmp}{x y z:Operand}{T T' T'' T2 E:TypeId}{ps:String}{af:Array Edge}{op:Op}{c1 c2 c3:Code}
theorem aBS{j:Nat}{t:Tmp}{b:Bool}(hd:(A[j]?).bind (·.dst)=some t)(hv:f t= .bool b)(ht:Nat.blt t n=true)(h:pg P n A (⟨d,op,T,ps,af,none⟩::r) f H K):
   pg P n A (⟨d,op,T,ps,af,some (j,b)⟩::r) f H K:=by
 intro ρ w a Q' hr hf hk
 have hw:=Wanted.guard (n:=n) (o:=⟨d,op,T,ps,af,some (j,b)⟩) rfl hd hv ht ρ a hf
 have h':=h ρ w a Q' hr hf hk
 have e:(b==b)=true:=by simp
 rw[e]at hw
 unfold wpList at h' ⊢
 rw[atV hw]
 rw[atV (by simp[Region.wanted])]at h'
 exact h'
theorem aza{j:Nat}{t:Tmp}{b:Bool}(hd:(A[j]?).bind (·.dst)=some t)(hv:f t= .bool (!b))(ht:Nat.blt t n=true)(h:pg P n A r (put f d undef) H K):
   pg P n A (⟨d,op,T,ps,af,some (j,b)⟩::r) f H K:=by
 refine alf ?_ h
 have:=Wanted.guard (n:=n) (A:=A) (f:=f) (o:=⟨d,op,T,ps,af,some (j,b)⟩) rfl hd hv ht
 simpa using this
end
end Go.Fw
namespace Go.Fw
open Go
structure qc(H H':aB):Prop where
 len:H.length<=H'.length
 get:∀k,k<H.length->H'[k]?=H[k]?
theorem qc.refl(H:aB):qc H H:=⟨aQT _,fun _ _=>rfl⟩
theorem qc.trans{a b c:aB}(h:qc a b)(g:qc b c):qc a c:=
 ⟨aQ6 h.len g.len,fun k hk=>(g.get k (aQ2 hk h.len)).trans (h.get k hk)⟩
theorem qc.app(H:aB)(x:aB):qc H (H++x):=⟨by simp,fun k hk=>by rw[aQQ hk]⟩
theorem qc.at{H H':aB}(h:qc H H'){k:Nat}{b:eO}(hk:H[k]?=some (some b)):H'[k]?=some (some b):=by
 rw[h.get k ?_,hk]
 rcases aQ7 k H.length with h|h
 · exact h
 · simp[aQR h]at hk
def mZ(o:Oper):List Nat:=(o.after.toList.filter (Region.binds .any ·)).map (·.on)
def dE(l:List Oper)(o:Oper):List Tmp:=
 o.op.operands.toList.filterMap (fun| .tmp t=>some t|_=>none)++(match o.guard with|some (j,_)=>((l[j]?).bind (·.dst)).toList|none=>[])
def okD(l:List Oper):Bool:=
 l.zipIdx.all fun(o,i)=>(mZ o).all (Nat.blt · i)&&l.zipIdx.all fun(p,j)=>
   match p.dst with
   |none=>true
   |some t=>(Nat.beq j i||(match o.dst with|some u=>!Nat.beq u t|none=>true))&&
     ((dE l o).all fun u=>!Nat.beq u t||Nat.beq j i||(if Nat.blt j i then (mZ o).any (Nat.beq j)else (mZ p).any (Nat.beq i)))
def JJ:Fr->List Oper->List Value->List Bool->Fr
 |f,o::l,v::vs,b::bs=>JJ (if b then put f o.dst v else f) l vs bs
 |f,_,_,_=>f
def QOp(P:Program) [bF P](n:Nat)(A:List Oper)(o:Oper)(f:Fr)(H:aB)(v:Value):Prop:=
 ∀f' H',(∀t,t∈dE A o->f' t=f t)->qc H H'-> ∀ρ w a (K':Act->World->Prop)(Q':Exit->Act->World->Prop),aD P ρ H' w->kY ρ n f' a->
   (∀c xV xW w',bW xV v c->aD P xV xW w'->Step ρ H' w xV xW w'->qc H' xW->K' (a.put o.dst c) w')->
   if Region.wanted o (yielded A.toArray a.tmps)then o.wp P a w K' Q' else K' (a.put o.dst undef) w
def abe(P:Program) [bF P](n:Nat)(A:List Oper):List Oper->Fr->aB->(Fr->Prop)->Prop
 |[],f,_,K=>K f
 |o::r,f,H,K=>∃v,QOp P n A o f H v/\abe P n A r (put f o.dst v) H K
theorem abe.vals{P:Program} [bF P]{n:Nat}{A:List Oper}{H:aB}{K:Fr->Prop}:∀(l:List Oper)(f:Fr),abe P n A l f H K->
   ∃vs:List Value,vs.length=l.length/\(∀(i:Nat) o v,l[i]?=some o->vs[i]?=some v->QOp P n A o (JJ f l vs (List.replicate i true)) H v)/\K (JJ f l vs (List.replicate l.length true))
 |[],f,h=>⟨[],rfl,fun i o v h=>by simp at h,by simp only[JJ]; exact h⟩
 |o::l,f,⟨v,hv,hr⟩=>by
   obtain⟨vs,h1,h2,h3⟩:=abe.vals l _ hr
   refine⟨v::vs,by simp[h1],?_,by simpa[JJ,aSE]using h3⟩
   intro i o' v' ho hv'
   cases i with
   |zero=>
     obtain rfl:o=o':=by simpa using ho
     obtain rfl:v=v':=by simpa using hv'
     simpa[JJ]using hv
   |succ i=>
     have:=h2 i o' v' (by simpa using ho) (by simpa using hv')
     simpa[JJ,aSE]using this
theorem mem_ready{l:List Oper}{listed:Array Bool}{i:Nat}:i∈Region.ready .any l.toArray listed↔
   ∃o,l[i]?=some o/\listed.getD i true=false/\ ∀j∈mZ o,listed.getD j false=true:=by
 unfold Region.ready
 simp only[aSw,List.mem_range,aRP,age,aR1,List.getElem?_toArray]
 constructor
 · rintro⟨hlt,h1,h2⟩
   refine⟨l[i],apA hlt,h1,?_⟩
   rw[apA hlt]at h2
   simp only[aSG,aSs,aSS]at h2
   intro j hj
   simp only[mZ,List.mem_map,aSw]at hj
   obtain⟨e,⟨he,hb⟩,rfl⟩:=hj
   have:=h2 e (by simpa using he)
   simpa[hb]using this
 · rintro⟨o,ho,h1,h2⟩
   have hlt:i<l.length:=by
     rcases aQ7 i l.length with h|h
     · exact h
     · simp[aQR h]at ho
   refine⟨hlt,h1,?_⟩
   rw[ho]
   simp only[aSG,aSs,aSS]
   intro e he
   by_cases hb:Region.binds .any e=true
   · have:=h2 e.on (by simp only[mZ,List.mem_map,aSw]; exact⟨e,⟨by simpa using he,hb⟩,rfl⟩)
     simp[this]
   · simp[hb]
theorem ad4{l:List Oper}(h:okD l=true){i j:Nat}{o p:Oper}(hi:l[i]?=some o)(hj:l[j]?=some p){t:Tmp}(ht:p.dst=some t):
   (j=i\/o.dst≠some t)/\(t∈dE l o->j=i\/(j<i/\j∈mZ o)\/(i<j/\i∈mZ p)):=by
 unfold okD at h
 have h1:=(List.all_eq_true.1 h) (o,i) (by rw[aSi]; exact hi)
 simp only[age]at h1
 have h2:=(List.all_eq_true.1 h1.2) (p,j) (by rw[aSi]; exact hj)
 simp only[ht,age,aR4]at h2
 obtain⟨h3,h4⟩:=h2
 refine⟨?_,fun hn=>?_⟩
 · rcases h3 with h3|h3
   · exact .inl (aRU h3)
   · cases hd:o.dst with
     |none=>exact .inr (by simp)
     |some u=>
       rw[hd]at h3
       refine .inr fun e=>?_
       have:u=t:=by simpa using e
       subst this
       simp at h3
 · have h5:=(List.all_eq_true.1 h4) t hn
   simp only[aR4]at h5
   rcases h5 with (h5|h5)|h5
   · simp at h5
   · exact .inl (aRU h5)
   · by_cases hlt:Nat.blt j i=true
     · rw[atV hlt]at h5
       obtain⟨x,hx,hxe⟩:=List.any_eq_true.1 h5
       have:=aRU hxe
       subst this
       exact .inr (.inl ⟨by simpa[aRg]using hlt,hx⟩)
     · rw[aqA hlt]at h5
       obtain⟨x,hx,hxe⟩:=List.any_eq_true.1 h5
       have:=aRU hxe
       subst this
       by_cases e:j=i
       · exact .inl e
       · refine .inr (.inr ⟨?_,hx⟩)
         have:¬ j<i:=fun hh=>hlt (by simpa[aRg]using hh)
         omega
theorem anp{l:List Oper}(h:okD l=true){i j:Nat}{o:Oper}(hi:l[i]?=some o)(hj:j∈mZ o):j<i:=by
 unfold okD at h
 have h1:=(List.all_eq_true.1 h) (o,i) (by rw[aSi]; exact hi)
 simp only[age]at h1
 have:=(List.all_eq_true.1 h1.1) j hj
 simpa[aRg]using this
theorem awo{listed:Array Bool}{j:Nat}(h:listed.getD j false=true):listed.toList[j]?=some true:=by
 rw[aRp]at h
 cases hj:listed[j]? with
 |none=>rw[hj]at h; simp at h
 |some b=>rw[hj]at h; simp at h; subst h; simpa using hj
theorem auu{listed:Array Bool}{j:Nat}(h:listed.toList[j]?=some true):listed.getD j false=true:=by
 rw[aRp]
 have:listed[j]?=some true:=by simpa using h
 rw[this]; rfl
section
variable{P:Program} [bF P]{n:Nat}{f:Fr}{H:aB}{Q:Exit->Fr->aB->Prop}
end
end Go.Fw
namespace Go.Fw
open Go
theorem di{n:Int}(h1:-9223372036854775808<=n)(h2:n<=9223372036854775807):IntKind.i64.wrap n=n:=by
 have e:IntKind.i64.wrap n=if 9223372036854775808<=n % 18446744073709551616 then n % 18446744073709551616-18446744073709551616 else n % 18446744073709551616:=by
   simp[IntKind.wrap,IntKind.bits,IntKind.signed]
 rw[e]
 split<;>omega
theorem bind_some{α β:Type}{x:Option α}{g:α->Option β}{b:β}(h:x.bind g=some b):∃a,x=some a/\g a=some b:=by
 cases x with
 |none=>simp at h
 |some a=>exact⟨a,rfl,h⟩
end Go.Fw
namespace Go.Fw
open Go Go.RowKit Go.WideShapes Go.ChangeShapes Go.ChangeAt
theorem Step.below{ρ:dI}{H H':aB}{w w':World}{ρ':dI}(h:Step ρ H w ρ' H' w')(hn:∀k L,ρ k=some (some L)->L.own=false):Below w.heap.size w w':=
 ⟨h.os,h.tape,h.output,h.size,fun k hk=>h.frame k hk (fun j L hj ho=>by rw[hn j L hj]at ho; simp at ho)⟩
section
variable{T:Type}{enc:TypeId×Value->T}{P:Program} [bF P]
theorem aj0{Pg:Program}(hl:laidOutB Pg=true){W W':World}(hb:Below W.heap.size W W'){sp:Nat->Bool}:∀{ts:List TypeId}{vs:List Value}{ds:List (DataW T)}{ps:List MemPlace},
   (ts.all fun t=>Pg.readableRec t&&decide (t<Pg.types.size))=true->DataW.TrodAll enc Pg W 0 (fun _=>true) true ts vs ds ps->(∀p∈ps,p.block<W.heap.size)->(∀p∈ps,sp p.block=true)->
   DataW.TrodAll enc Pg W' 0 sp true ts vs ds ps
 |[],[],[],_,_,h,_,_=>h
 |t::ts,v::vs,d::ds,ps,ht,h,hlt,hsp=>by
   obtain⟨p,q,h1,h2,rfl⟩:=h
   simp only[aRS,age,ag3]at ht
   exact⟨p,q,WideElems.Trod_stays hl ht.1.1 ht.1.2 h1 (fun x hx=>hb.same (hlt x (by simp[hx]))) (fun x hx=>hsp x (by simp[hx])),
     aj0 hl hb ht.2 h2 (fun x hx=>hlt x (by simp[hx])) (fun x hx=>hsp x (by simp[hx])),rfl⟩
 |[],_::_,_,_,_,h,_,_=>h.elim
 |[],[],_::_,_,_,h,_,_=>h.elim
 |_::_,[],_,_,_,h,_,_=>h.elim
 |_::_,_::_,[],_,_,h,_,_=>h.elim
theorem aw4{Pg:Program}{f:Func}{s:ChangeSpec}{apart fresh handsOn again:Bool}{W W':World}{args:Array Value}{ds gs:List (DataW T)}{before:List MemPlace}{tb:TypeId}
   (hW:DataW.Whole enc Pg f.params.toList s.vars apart W args.toList ds gs before) (hvars:s.vars=[]) (hl:laidOutB Pg=true)
   (ht:(f.params.toList.all fun t=>Pg.readableRec t&&decide (t<Pg.types.size))=true) (hres:f.resultTypes= #[tb]) (hub:Pg.underlying tb=some .bool)
   (hfn:∀d,(s.fn T d).results=[.lit (.bool true)]/\(s.fn T d).args=d/\(s.fn T d).vars=[]\/d≠ds++gs)
   (hb:Below W.heap.size W W'):s.post enc Pg f apart fresh handsOn again W args (.bool true) W':=by
 have hlt:∀p∈before,p.block<W.heap.size:=fun p hp=>hW.lt p hp
 obtain⟨p,q,hA,hV,hbe,hz,hn⟩:=id hW
 have hV':gs=[]/\q=[]:=by
   rw[hvars]at hV
   cases gs with
   |nil=>exact⟨rfl,hV⟩
   |cons _ _=>exact hV.elim
 obtain⟨rfl,rfl⟩:=hV'
 rw[aQ_]at hbe
 subst hbe
 have hf:=(hfn (ds++[])).resolve_right (by simp)
 have hargs:∀sp:Nat->Bool,(∀x∈before,sp x.block=true)->DataW.TrodAll enc Pg W' 0 sp true f.params.toList args.toList (s.fn T (ds++[])).args before:=by
   intro sp hsp
   rw[hf.2.1,aQ_]
   exact aj0 hl hb ht hA hlt hsp
 have hvs:∀sp:Nat->Bool,DataW.TrodVars enc Pg W' sp s.vars (s.fn T (ds++[])).vars []:=by
   intro sp
   rw[hf.2.2,hvars]
   rfl
 have an4:∀(b:Nat)(sp:Nat->Bool)(hd:Bool),DataW.TrodAll enc Pg W' b sp hd f.resultTypes.toList ((Value.bool true).resultList f.resultTypes.size) (s.fn T (ds++[])).results []:=by
   intro b sp hd
   rw[hres,hf.1]
   exact trodAll_cons_mk (shut_bool hub _) trodAll_mk0
 have hold:∀p∈before,(fun b=>decide (b<W.heap.size)) p.block=true:=fun p hp=>by simpa using hlt p hp
 refine⟨ds,[],before,[],before,[],hW,an4 _ _ _,hargs _ hold,hvs _,World.keptBut_mono (fun p hp=>⟨hp,?_⟩) (hb.frame (· ∈before)),fun _=>?_⟩
 · exact Or.inr (Or.inl hp)
 · refine⟨?_,_,_,([]++before)++[],⟨[]++before,[],trodAll_append (hargs _ (fun _ _=>rfl)) (an4 _ _ _),hvs _,rfl,?_,?_⟩,?_⟩
   · intro j t r hj hr
     rw[hres]at hj hr
     have hj0:j=0:=by
       rcases aSM j with h|h
       · exact h
       · rw[Array.getElem?_eq_none (by simp; omega)]at hj; simp at hj
     subst hj0
     obtain rfl:tb=t:=by simpa using hj
     have hr':r= .bool true:=by simpa[Value.resultList]using hr.symm
     subst hr'
     exact okWide_bool_mk hub _
   · intro b off hp
     have hin:MemPlace.cell b off∈before:=by simpa using hp
     rw[hb.frozen (hlt _ hin)]
     exact hz b off hin
   · intro ha
     simpa using hn ha
   · intro p hp _
     simpa using hp
end
end Go.Fw
