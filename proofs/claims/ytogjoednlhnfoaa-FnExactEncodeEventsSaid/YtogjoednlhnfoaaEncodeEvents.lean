/-
  FnExactEncodeEvents: the plain law and the row: for all arguments.
-/
import Derived.Test.YtogjoednlhnfoaaEncodeEventsG0
import Derived.Test.YtogjoednlhnfoaaFc
import Derived.Test.YtogjoednlhnfoaaRows
import Derived.WalkKit
import Derived.KernelRfl
/-
 Plain laws of the helpers. Written by a program.
-/
set_option maxRecDepth 100000
set_option maxHeartbeats 4000000
set_option linter.unusedVariables false
namespace Go.Proofs.Ytogjoednlhnfoaa
open Go Go.Fw
def eQ(a:Event):Nat:=a.Text.length
theorem sI:Sz iB eQ jN:=by
 intro a ⟨w1,w2⟩ left hl hm
 have hw:a.Text.length<=140737488351232:=w2
 unfold iB
 rw[jk (by omega) (by omega)]
 by_cases h:left-(a.Text.length:Int)<0
 · rw[if_pos (by simpa using h)]; exact⟨-1,rfl,.inr (by omega)⟩
 · rw[if_neg (by simpa using h)]; exact⟨_,rfl,.inl ⟨rfl,by omega⟩⟩
theorem rP:Sz je (vX eQ) (gQ jN):=sw sI (fun _ _=>rfl) (fun _ _ _ _=>rfl) (fun _ _=>rfl)
def kC(_:Event):Prop:=True
theorem sJ(a:Event)(h:kC a):iC a=some a:=by
 simp only[iC]
theorem rQ:∀(a:List Event),(lU kC) a->gy a=some a:=
 sD (fun _=>rfl) (fun _ _=>rfl) (fun x r k c hx hk=>by
   rw[gp]
   rw[sJ _ hx]
   simp[jS,hk])
theorem sK(a:Event):iD a a=some true:=by simp[iD]
theorem rR:∀(a:List Event),jf a a=some true:=
 sF (fun _ _=>rfl) (fun _ _=>rfl) (fun b x r k h=>by
   rw[gq,um,h]
   simp[sK])
end Go.Proofs.Ytogjoednlhnfoaa
/-
 Plain laws.
-/
set_option maxRecDepth 100000
set_option linter.unusedVariables false
namespace Go.Proofs.Ytogjoednlhnfoaa
open Go Go.Fw
theorem qD(k:Int):∃w,il k=some w/\ik k=some w/\w.length<=6:=by
 by_cases h:1<=k/\k<=6
 · have:k=1\/k=2\/k=3\/k=4\/k=5\/k=6:=by omega
   rcases this with rfl|rfl|rfl|rfl|rfl|rfl
   · exact⟨_,rfl,rfl,by decide⟩
   · exact⟨_,rfl,rfl,by decide⟩
   · exact⟨_,rfl,rfl,by decide⟩
   · exact⟨_,rfl,rfl,by decide⟩
   · exact⟨_,rfl,rfl,by decide⟩
   · exact⟨_,rfl,rfl,by decide⟩
 · have h':((decide ((1:Int)<=k))&&(decide ((k:Int)<=6)))=false:=by
     rcases Decidable.not_and_iff_or_not.1 h with h|h
     · rw[decide_eq_false h]; rfl
     · rw[decide_eq_false h,Bool.and_false]
   refine⟨[],?_,?_,by simp⟩
   · unfold il ji
     rw[h',Option.bind_some,if_pos (by simp)]
   · unfold ik jy
     rw[h',Option.bind_some,if_pos (by simp)]
theorem qp(e:Event)(hl:e.Text.length<=1048576):∃t,ig e=some t/\ic e=some t/\t.length<=e.Text.length+7:=by
 obtain⟨w,h1,h2,h3⟩:=qD e.Kind
 unfold ig ic
 simp only[h1,h2,Option.bind_some]
 by_cases h:((w==[])||(e.Text==[]))=true
 · simp only[if_pos h]; exact⟨[],rfl,rfl,by simp⟩
 · simp only[if_neg h]
   have c1:bG w [32]=some (w++[32]):=by unfold bG; rw[if_pos (by simp; omega)]
   have c2:bG (w++[32]) e.Text=some (w++[32]++e.Text):=by unfold bG; rw[if_pos (by simp; omega)]
   simp only[c1,c2,Option.bind_some]
   exact⟨_,rfl,rfl,by simp; omega⟩
def gW:List Event->Nat
 |[]=>0
 |e::r=>e.Text.length+9+gW r
theorem nV:∀l:List Event,gW l<=9*(l.length+(l.map eQ).sum)
 |[]=>by simp[gW]
 |e::r=>by
   have:=nV r
   simp only[gW,List.length_cons,List.map_cons,List.sum_cons,eQ]
   omega
theorem mg:∀(l:List Event)(k j:Nat)(c:List UInt8),(∀e∈l,e.Text.length<=1048576)->c.length+gW l<4294967296-> ∃r,fH l k c=some r/\fG l j c=some r
 |[],k,j,c,_,_=>⟨c,rfl,rfl⟩
 |e::l,k,j,c,hw,hb=>by
   simp only[gW]at hb
   obtain⟨t,h1,h2,h3⟩:=qp e (hw e (by simp))
   unfold fH fG
   simp only[h1,h2,Option.bind_some]
   by_cases h:(t==[])=true
   · simp only[if_pos h]; exact⟨[],rfl,rfl⟩
   · simp only[if_neg h]
     have c1:bG t [10]=some (t++[10]):=by unfold bG; rw[if_pos (by simp; omega)]
     have c2:app c (t++[10])=some (c++(t++[10])):=uq (by simp; omega)
     have c3:bG c t=some (c++t):=by unfold bG; rw[if_pos (by omega)]
     have c4:bG (c++t) [10]=some (c++(t++[10])):=by unfold bG; rw[if_pos (by simp; omega),List.append_assoc]
     simp only[c1,c2,c3,c4,Option.bind_some]
     exact mg l (k+1) (j+1) _ (fun e he=>hw e (by simp[he])) (by simp; omega)
theorem nW:∀(l:List Event)(e:Event),e∈l->e.Text.length<=(l.map eQ).sum
 |x::l,e,he=>by
   simp only[List.map_cons,List.sum_cons]
   rcases List.mem_cons.1 he with rfl|he
   · simp only[eQ]; omega
   · have:=nW l e he; omega
theorem qg{l:List Event}(wl:gQ jN l):ja l=some true:=by
 unfold ja
 obtain⟨n,e1,e2⟩:=rP l wl 1048576 (by omega) (by omega)
 rw[e1,Option.bind_some]
 rcases e2 with⟨e2,e3⟩|e3
 · have ht:l.length+(l.map eQ).sum<=1048576:=by
     have:n=1048576-((l.length+(l.map eQ).sum:Nat):Int):=e2
     omega
   rw[if_neg (by simp; omega)]
   have hb:lU kC l:=⟨by omega,fun _ _=>trivial⟩
   have h9:=nV l
   obtain⟨r,e4,e5⟩:=mg l 0 0 [] (fun e he=>by have:=nW l e he; omega) (by simp; omega)
   have e4':jc l=some r:=e4
   have e5':jb l=some r:=e5
   simp only[rQ l hb,e4',e5',rR,Option.bind_some,beq_self_eq_true,Bool.not_true,Bool.false_eq_true,if_false]
 · rw[if_pos (by simpa using e3)]
end Go.Proofs.Ytogjoednlhnfoaa
/-
 The row FnExactEncodeEvents.
-/
set_option maxRecDepth 100000
namespace Go.Proofs.Ytogjoednlhnfoaa.fnExactEncodeEvents
open Go Go.Fw Go.ChangeShapes Go.WideShapes Go.ChangeAt Go.RowKit
theorem own:ownKnob Try.prog.godebug=none:=by kernel_rfl
theorem laidOut:laidOutB Try.prog=true:=by kernel_rfl
set_option maxRecDepth 100000 in
theorem lifted(os:Os)(started:os.Started)(H:Type)(enc:TypeId×Value->H):
   ReturnsInHanded {} Try.checked os 3 .any (Rows.fnExactEncodeEventsSpec.pre6 enc Try.prog Try.f3 Rows.fnExactEncodeEventsRow.domain false) (Rows.fnExactEncodeEventsSpec.post enc Try.prog Try.f3 false true false false):=by
 refine returnsInHanded_of_change_sized (C:=Try.checked) own started (by kernel_rfl) Try.func3
   (ChangeSpec.witness6 (enc:=enc) (C:=Try.checked) false ⟨#[],#[.slice none 0 0],[]⟩ 16 (by kernel_rfl) (by kernel_rfl) (by kernel_rfl) (by kernel_rfl)) ?_
 intro W base args ds gs before hval hW _ hwt _
 have hW':=hW
 obtain⟨p,q,ma,hV,rfl,hfz,hnd⟩:=hW
 obtain⟨rfl,rfl⟩:=trodVars_none hV
 have hA:DataW.TrodAll enc Try.prog W 0 (fun _=>true) true [22] args.toList ds p:=ma
 have hw:∀n∈DataW.weightsEach Try.prog [22] ds,n<=reachBytes:=fun n hn=>by
   have:=List.all_eq_true.1 hwt n (by rw[List.append_nil]; exact hn)
   simpa using this
 obtain⟨v0,ze,d0,ds0,p0,ρ0,H0,pW,a0,e0,rfl,ma,hw0,r0,f0,u0,i0,yh,q0,w0⟩:=tC hA hw (bP.slice (s:=2) (by kernel_rfl) (by kernel_rfl) (by decide) (Nat.lt_of_lt_of_le (by decide) (Nat.le_of_eq (show 24=_ from by kernel_rfl))) wH) (fun H v a h=>by obtain⟨_,_,rfl⟩:=aO.len h; kernel_rfl) (r:=.any) (base:=base) (fun v h=>hval 0 22 v rfl (ui h)) (ay.nil _ W trivial) bO.nil
 obtain⟨en,rfl⟩:=sj ma
 subst en
 obtain⟨qc,qd,rfl⟩:=aO.len q0
 have hargs:ah ρ0 [(.slice qc a0.length qd)] args.toList:=by
   rw[e0]
   exact (.cons _ _ _ _ yh .nil)
 have xA:=qg w0
 refine ((qf a0 ⟨qc,_,qd⟩ true xA) H0 [] (Ctx.dup (Ctx.start _) q0 rfl) ρ0 W args r0 hargs).mono ?_
 rintro e w' ⟨v,r,ρ',H',rfl,h1,h2,h3,x,h5,-⟩
 have h6:r= .bool true:=h5
 subst h6
 refine⟨_,rfl,?_⟩
 rw[h1.bool_inv]
 refine rW hW' rfl laidOut (by kernel_rfl) rfl (by kernel_rfl) (fun d=>?_) (h3.below f0)
 by_cases hd:d=[d0]
 · subst hd; exact .inl ⟨rfl,rfl,rfl⟩
 · exact .inr (by simpa using hd)
theorem named:Try.pinned.checked.prog.funcNamed Rows.fnExactEncodeEventsRow.func=some 3:=by kernel_rfl
set_option maxHeartbeats 10000000 in
theorem closed:joinedFacts Try.pinned.checked.prog 3 Try.f3 Rows.fnExactEncodeEventsSpec Rows.fnExactEncodeEventsRow=true:=by
 simp only[joinedFacts,Bool.and_eq_true]
 repeat' refine And.intro ?_ ?_
 all_goals (as_aux_lemma=>kernel_rfl)
theorem over:Rows.fnExactEncodeEventsRow.holds Try.pinned (OpenSpec.ofChange Rows.fnExactEncodeEventsSpec):=
 OpenClaim.holds_of_wide 3 Try.f3 rfl rfl rfl rfl rfl rfl rfl ⟨rfl,rfl,rfl,rfl,rfl⟩ rfl rfl rfl rfl rfl named Try.func3 closed
   (of_decide_eq_true (by kernel_rfl)) (by unfold Func.isWrapper; first|(rw[if_pos (by decide+kernel)]; kernel_rfl)|(rw[if_neg (by decide+kernel)]; exact⟨rfl,rfl⟩))
   (fun os started H enc _=>lifted os started H enc)
theorem proved:Rows.FnExactEncodeEventsSaid:=over
end Go.Proofs.Ytogjoednlhnfoaa.fnExactEncodeEvents
