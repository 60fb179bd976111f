/-
  A framework: scripts that find the proofs of plain steps. No conditions.
-/
import Derived.Test.YtlnefhbbbikmgabGreatFc
import Derived.KernelRfl
import Derived.Shelf.Abstract
/-
 A driver: it walks by itself aO far aO the next step is plain.  No conditions.
-/
set_option linter.unusedVariables false
namespace Go.Fw
open Go
def cfB(P:Program)(g:Nat):Bool:=match P.funcs[g]? with
 |some fn=>!(fn.name== "runtime.NumGoroutine")&&fn.body.isSome
 |none=>false
theorem aB'{P:Program} [bF P]{g:Nat}(h:cfB P g=true):CF P g:=by
 intro args w
 unfold cfB at h
 split at h
 · rename_i fn hf
   simp only[age,aR1,Option.isSome_iff_exists]at h
   obtain⟨h1,c,hb⟩:=h
   have h2:fn.name≠ "runtime.NumGoroutine":=by simpa using h1
   simp[callFunc,hf,h2,hb,mark]
 · cases h
theorem uN{P:Program} [bF P]{g:Nat}(h:CF P g:=by first|exact aB' (by kernel_rfl)|fail):CF P g:=h
class dz(P:Program) [bF P](g:Nat)(T:outParam Prop):Prop where h:T
inductive Ap {τ:Type}:List τ->List τ->List τ->Prop
 |nil {l:List τ}:Ap [] l l
 |cons {c:τ} {l r o:List τ} (h:Ap l r o):Ap (c::l) r (c::o)
theorem Ap.eq{τ:Type}{l r o:List τ}(h:Ap l r o):o=l++r:=by
 induction h with
 |nil=>rfl
 |cons _ ih=>simp[ih]
inductive Kp (f:Fr):List Nat->List (Nat×Value)->Prop
 |nil:Kp f [] []
 |cons {s:Nat} {v:Value} {r:List Nat} {l:List (Nat×Value)} (h:f s=v) (t:Kp f r l):Kp f (s::r) ((s,v)::l)
theorem Kp.eql{f:Fr}{r:List Nat}{l:List (Nat×Value)}(h:Kp f r l):fB f l:=by
 induction h with
 |nil=>exact .nil
 |cons h _ ih=>exact .cons h ih
theorem fB.app{f:Fr}{l l2:List (Nat×Value)}(h:fB f l)(h2:fB f l2):fB f (l++l2):=by
 induction h with
 |nil=>exact h2
 |cons h _ ih=>exact .cons h ih
inductive ky:List ay->List ay->List ay->Prop
 |nil {l:List ay}:ky l [] l
 |cons {l l1 r cs:List ay} {c:ay} (h:dU l c l1) (t:ky l1 cs r):ky l (c::cs) r
 |rd {l r cs:List ay} {c:ay} (h:Mem c l) (hf:c.F=[]) (t:ky l cs r):ky l (c::cs) r
 |mk {l r cs:List ay} {c:ay} (h:Conv [] [c]) (t:ky l cs r):ky l (c::cs) r
section
variable{P:Program} [bF P]{n:Nat}{f:Fr}{H0:aB}{F0:List Nat}{cs pre rest kept:List ay}{x y z:Operand}{v:Value}
theorem Ctx.selN(hs:ky cs pre rest):∀{A:List ay}{H:aB},Ctx H0 F0 H (A++cs)->Ctx H0 F0 H (A++(pre++rest)):=by
 induction hs with
 |nil=>intro A H h; exact h
 |cons hs _ ih=>
   intro A H h
   have h2:=ih (A:=A++[_]) (by simpa using h.perm (hs.perm.append_left A))
   simpa using h2
 | @rd l r cs c hm hf _ ih=>
   intro A H h
   have hc:c.P H:=h.hold c (List.mem_append.2 (.inr hm.mem))
   have h2:=ih (A:=c::A) (by simpa using h.dup hc hf)
   refine h2.perm ?_
   simpa using (aR6 (a:=c) (l₁:=A) (l₂:=cs++r)).symm
 | @mk l r cs c hv _ ih=>
   intro A H h
   have hc:c.P H:=hv.hold H (fun d hd=>by simp at hd) c (by simp)
   have hf:c.F=[]:=by
     have:=hv.foot
     simpa[foot]using this
   have h2:=ih (A:=c::A) (by simpa using h.dup hc hf)
   refine h2.perm ?_
   simpa using (aR6 (a:=c) (l₁:=A) (l₂:=cs++r)).symm
theorem ky.ent(hs:ky cs pre rest):bL cs (pre++rest):=fun _ _ H hc=>⟨H,rfl,fun _=>rfl,Ctx.selN hs (A:=[]) hc⟩
theorem ky.entP(hs:ky cs pre rest):bL cs pre:=fun _ _ H hc=>⟨H,rfl,fun _=>rfl,(Ctx.selN hs (A:=[]) hc).sublist (aSe _ _)⟩
inductive mK:List ay->List ay->List ay->List ay->List ay->Prop
 |nil {l:List ay}:mK l [] [] [] l
 |cons {l l1 b cl p r:List ay} {c:ay} (h:dU l c l1) (t:mK l1 b cl p r):mK l (c::b) cl (c::p) r
 |rd {l b cl p r:List ay} {c:ay} (h:Mem c l) (hf:c.F=[]) (t:mK l b cl p r):mK l (c::b) cl (c::p) r
 |mk {l b cl p r:List ay} {c:ay} (h:Conv [] [c]) (t:mK l b cl p r):mK l (c::b) cl (c::p) r
 |abn {l l1 b cl p r:List ay} {c c':ay} {_:JK c} (h:dU l c l1) (hz:xC c c') (t:mK l1 b cl p r):mK l (c'::b) (c::cl) p r
theorem xD.push{cl p b:List ay}(c:ay)(h:xD cl p b):∃b',xD cl (c::p) b'/\b'.Perm (c::b):=by
 suffices hh:∀{cl p b:List ay},xD cl p b-> ∀p',p'.Perm (c::p)-> ∃b',xD cl p' b'/\b'.Perm (c::b)from hh h _ (.refl _)
 intro cl p b h
 induction h with
 |nil=>intro p' hp; exact⟨_,.nil,hp⟩
 | @cons d d' cs pre base _ hd _ ih=>
   intro p' hp
   obtain⟨b',h1,h2⟩:=ih (d'::p') ((hp.cons d').trans (.swap _ _ _))
   exact⟨b',.cons hd h1,h2⟩
theorem mK.cO{b cl p r:List ay}(h:mK cs b cl p r):∃b',xD cl p b'/\b'.Perm b:=by
 induction h with
 |nil=>exact⟨_,.nil,.refl _⟩
 |cons _ _ ih=>
   obtain⟨b',h1,h2⟩:=ih
   obtain⟨b2,h3,h4⟩:=h1.push _
   exact⟨b2,h3,h4.trans (h2.cons _)⟩
 |rd _ _ _ ih=>
   obtain⟨b',h1,h2⟩:=ih
   obtain⟨b2,h3,h4⟩:=h1.push _
   exact⟨b2,h3,h4.trans (h2.cons _)⟩
 |mk _ _ ih=>
   obtain⟨b',h1,h2⟩:=ih
   obtain⟨b2,h3,h4⟩:=h1.push _
   exact⟨b2,h3,h4.trans (h2.cons _)⟩
 | @abn l l1 b cl p r c c' i _ hz _ ih=>
   obtain⟨b',h1,h2⟩:=ih
   obtain⟨b2,h3,h4⟩:=h1.push c'
   exact⟨b2,.cons hz h3,h4.trans (h2.cons _)⟩
theorem Ctx.selZ{b cl p r:List ay}(hs:mK cs b cl p r):∀{A:List ay}{H:aB},Ctx H0 F0 H (A++cs)->Ctx H0 F0 H (A++((cl++p)++r)):=by
 induction hs with
 |nil=>intro A H h; simpa using h
 | @cons l l1 b cl p r c hs _ ih=>
   intro A H h
   have h2:=ih (A:=A++[c]) (by simpa using h.perm (hs.perm.append_left A))
   refine h2.perm ?_
   simp only[aQY,List.singleton_append]
   exact (List.perm_middle.symm).append_left A
 | @rd l b cl p r c hm hf _ ih=>
   intro A H h
   have hc:c.P H:=h.hold c (List.mem_append.2 (.inr hm.mem))
   have h2:=ih (A:=c::A) (by simpa using h.dup hc hf)
   refine h2.perm ?_
   have:=(aR6 (a:=c) (l₁:=A++cl) (l₂:=p++r)).symm
   simpa using this
 | @mk l b cl p r c hv _ ih=>
   intro A H h
   have hc:c.P H:=hv.hold H (fun d hd=>by simp at hd) c (by simp)
   have hf:c.F=[]:=by
     have:=hv.foot
     simpa[foot]using this
   have h2:=ih (A:=c::A) (by simpa using h.dup hc hf)
   refine h2.perm ?_
   have:=(aR6 (a:=c) (l₁:=A++cl) (l₂:=p++r)).symm
   simpa using this
 | @abn l l1 b cl p r c c' i hs hz _ ih=>
   intro A H h
   have h2:=ih (A:=A++[c]) (by simpa using h.perm (hs.perm.append_left A))
   simpa using h2
variable{A:Array Oper}{l r:List Oper}{K:Fr->List ay->Prop}{d:Option Tmp}{T E:TypeId}{ps:String}{af:Array Edge}{tb aO todo:List Nat}{fl:List (Nat×List Nat)}{i g:Nat}{gd:Option (Nat×Bool)}
variable{ι:Type}{val:ι->Value}{post cs':ι->List ay}{xs:List Operand}{ts:Array TypeId}{vs:List Value}{Tg:Prop}
theorem Ap.toApp{l r o:List ay}(h:Ap l r o):rF l r o:=by
 induction h with
 |nil=>exact .nil
 |cons _ ih=>exact .cons ih
theorem Gc{hg:CF P g} [hsp:dz P g Tg](hs:Tg->Spec P g vs pre val post)(he:fE n f xs vs)(hl:ky cs pre rest)(ha:∀x,Ap (post x) rest (cs' x))(h:∀x,aR P n H0 F0 A r (put f d (val x)) (cs' x) K):
   aR P n H0 F0 A (⟨d,.call ⟨.value (.func g),xs.toArray,ts⟩,T,ps,af,none⟩::r) f cs K:=
 fun H hc=>uL (pre:=pre) (rest:=rest) (cs:=pre++rest) (selApp pre rest) (cK hg he (hs hsp.h)) (fun x=>(ha x).toApp) h H (Ctx.selN hl (A:=[]) hc)
where
 selApp:∀(pre rest:List ay),fq (pre++rest) pre rest
   |[],_=>.nil
   |_::p,rest=>.cons .h (selApp p rest)
theorem selApp(pre rest:List ay):fq (pre++rest) pre rest:=Gc.selApp pre rest
theorem Gz{base cl rest':List ay}{hg:CF P g} [hsp:dz P g Tg](hs:Tg->Spec P g vs base val post)(he:fE n f xs vs)(hl:mK cs base cl pre rest)(hal:∀x,qm (post x))(hb:Ap cl rest rest')(ha:∀x,Ap (post x) rest' (cs' x))
   (h:∀x,aR P n H0 F0 A r (put f d (val x)) (cs' x) K):aR P n H0 F0 A (⟨d,.call ⟨.value (.func g),xs.toArray,ts⟩,T,ps,af,none⟩::r) f cs K:=by
 intro H hc
 obtain⟨b',h1,h2⟩:=hl.cO
 refine uL (pre:=cl++pre) (rest:=rest) (cs:=(cl++pre)++rest) (post:=fun x=>cl++post x) (cs':=fun x=>(cl++post x)++rest) (selApp _ _) (qQ h1 hal (SX h2 (cK hg he (hs hsp.h)))) (fun x=>dS) (fun x=>?_) H (Ctx.selZ hl (A:=[]) hc)
 intro H hc
 refine h x H (hc.perm ?_)
 rw[(ha x).eq,hb.eq,←aQY]
 exact List.perm_append_comm.append_right rest
theorem Gd{hg:CF P g} [hsp:dz P g Tg](hs:Tg->Spec P g vs pre val post)(ho:l[i]?=some ⟨d,.call ⟨.value (.func g),xs.toArray,ts⟩,T,ps,af,gd⟩)(hA:aO.any (Nat.beq i)=true)(hw:Wt n l f gd)(he:fE n f xs vs)
   (hn:xs.all (fun x=>dP x (dE l ⟨d,.call ⟨.value (.func g),xs.toArray,ts⟩,T,ps,af,gd⟩))=true) (hl:ky cs pre rest) (hfl:iF tb i rest fl) (ha:∀x,Ap (post x) rest (cs' x))
   (h:∀x,DC P n l tb aO H0 F0 K todo fl (put f d (val x)) (cs' x)):DC P n l tb aO H0 F0 K (i::todo) fl f cs:=
 fun H hc=>yE (pre:=pre) (rest:=rest) (cs:=pre++rest) hA ho hw (selApp _ _) (fun ha=>cK hg (Ki ha he hn) (hs hsp.h)) hfl (fun x=>(ha x).toApp) h H (Ctx.selN hl (A:=[]) hc)
theorem Gdz{base cl rest':List ay}{hg:CF P g} [hsp:dz P g Tg](hs:Tg->Spec P g vs base val post)(ho:l[i]?=some ⟨d,.call ⟨.value (.func g),xs.toArray,ts⟩,T,ps,af,gd⟩)(hA:aO.any (Nat.beq i)=true)(hw:Wt n l f gd)(he:fE n f xs vs)
   (hn:xs.all (fun x=>dP x (dE l ⟨d,.call ⟨.value (.func g),xs.toArray,ts⟩,T,ps,af,gd⟩))=true) (hl:mK cs base cl pre rest) (hal:∀x,qm (post x)) (hfl:iF tb i rest fl) (hb:Ap cl rest rest') (ha:∀x,Ap (post x) rest' (cs' x))
   (h:∀x,DC P n l tb aO H0 F0 K todo fl (put f d (val x)) (cs' x)):DC P n l tb aO H0 F0 K (i::todo) fl f cs:=by
 intro H hc
 obtain⟨b',h1,h2⟩:=hl.cO
 refine yE (pre:=cl++pre) (rest:=rest) (cs:=(cl++pre)++rest) (post:=fun x=>cl++post x) (cs':=fun x=>(cl++post x)++rest) hA ho hw (selApp _ _) (fun ha=>qQ h1 hal (SX h2 (cK hg (Ki ha he hn) (hs hsp.h)))) hfl (fun x=>dS) (fun x=>?_) H (Ctx.selZ hl (A:=[]) hc)
 intro H hc
 refine h x H (hc.perm ?_)
 rw[(ha x).eq,hb.eq,←aQY]
 exact List.perm_append_comm.append_right rest
theorem bsp{β:Type}{b:Bool}{p q:Option β}{R0:β}{G:Prop}(hF:(bif b then p else q)=some R0)(h1:b=true->p=some R0->G)(h2:b=false->q=some R0->G):G:=by
 cases b with
 |true=>exact h1 rfl hF
 |false=>exact h2 rfl hF
theorem aCa:EV n f (.const (.slice none 0 0)) (Sv.v ⟨none,0,0⟩):=EV.oF
inductive GI:List Value->List Value->Prop
 |nil:GI [] []
 |cons {v w:Value} {us ws:List Value} (h:v=w) (t:GI us ws):GI (v::us) (w::ws)
theorem GI.eq{us ws:List Value}(h:GI us ws):us=ws:=by
 induction h with
 |nil=>rfl
 |cons h _ ih=>rw[h,ih]
theorem svE{a:Option Addr}{n m:Nat}:Value.slice a n m=Sv.v ⟨a,n,m⟩:=rfl
theorem aFt{us ws:List Value}(h:EV n f x (.agg us.toArray))(hl:GI us ws):EV n f x (.agg ws.toArray):=hl.eq ▸ h
theorem evB(h:EV n f x v:=by
   first|exact EV.tmp rfl rfl|exact EV.int _ _|exact EV.bool _|exact EV.str _|exact EV.oF|exact EV.nilPtr|exact EV.nilFunc|exact EV.nilIface|exact EV.fn _|exact EV.tmp (v:=Sv.v ⟨_,_,_⟩) rfl rfl|exact aCa|((refine' aFt ?su ?sw); (case su=>exact EV.tmp (v:=.agg _) rfl rfl); (case sw=>((repeat (first|exact GI.nil|((apply GI.cons); (first|exact rfl|exact svE)))); done)))|fail):EV n f x v:=h
theorem JP{xs:List Operand}{vs:List Value}(h:fE n f xs vs:=by first|exact fE.nil|exact fE.cons evB JP|fail):fE n f xs vs:=h
theorem yQ{xs:List Operand}{vs:List Value}(h:fE n f xs vs:=by first|exact fE.nil|exact fE.cons aU yQ|fail):fE n f xs vs:=h
theorem jk{τ:Type}{l r o:List τ}(h:Ap l r o:=by first|((repeat (first|exact Ap.nil|apply Ap.cons)); done)|fail):Ap l r o:=h
theorem cvA{c:ay}(h:Conv [] [c]:=by first|with_reducible exact jJ|with_reducible exact zW|exact jJ|exact zW|fail):Conv [] [c]:=h
theorem selN(h:ky cs pre rest:=by
   first
   |((repeat' (first
       |exact ky.nil
       |((with_reducible refine' ky.rd ?bP ?TG ?_); (case bP=>exact bQ); (case TG=>exact rfl))
       |((with_reducible refine' ky.cons ?bP ?_); (case bP=>exact l6))
       |((with_reducible refine' ky.mk ?bP ?_); (case bP=>exact cvA))
       |fail)); done)
   |fail):ky cs pre rest:=h
inductive nR:List ay->List ay->List ay->Prop
 |nil {l:List ay}:nR l [] l
 |cons {l l1 r cs:List ay} {c:ay} (h:dU l c l1) (t:nR l1 cs r):nR l (c::cs) r
 |rd {l r cs:List ay} {c:ay} (h:Mem c l) (hf:c.F=[]) (t:nR l cs r):nR l (c::cs) r
 |mk {l r cs:List ay} {c:ay} (h:Conv [] [c]) (t:nR l cs r):nR l (c::cs) r
 |cO {l l1 r cs:List ay} {c c':ay} (h:dU l c l1) (hz:xC c c') (t:nR (c'::l1) cs r):nR l (c'::cs) r
theorem dU.app{l r:List ay}{c:ay}(A:List ay)(h:dU l c r):dU (A++l) c (A++r):=by
 induction A with
 |nil=>exact h
 |cons a A ih=>exact .t ih
theorem bL.refl{cs:List ay}:bL cs cs:=fun _ _ H hc=>⟨H,rfl,fun _=>rfl,hc⟩
theorem bL.trans{a b c:List ay}(h:bL a b)(g:bL b c):bL a c:=fun H0 F0 H hc=>by
 obtain⟨H1,e1,e2,h1⟩:=h H0 F0 H hc
 obtain⟨H2,e3,e4,h2⟩:=g H0 F0 H1 h1
 exact⟨H2,e3.trans e1,fun k=>(e4 k).trans (e2 k),h2⟩
theorem bL.perm{a b:List ay}(h:a.Perm b):bL a b:=fun _ _ H hc=>⟨H,rfl,fun _=>rfl,hc.perm h⟩
theorem nR.ent{cs pre rest:List ay}(hs:nR cs pre rest):∀{A:List ay},bL (A++cs) (A++(pre++rest)):=by
 induction hs with
 |nil=>intro A; exact .refl
 | @cons l l1 r cs c hs _ ih=>
   intro A
   have h2:=ih (A:=A++[c])
   simp only[aQY,List.singleton_append]at h2
   exact (bL.perm (hs.perm.append_left A)).trans h2
 | @rd l r cs c hm hf _ ih=>
   intro A
   have h2:=ih (A:=c::A)
   refine bL.trans ?_ (h2.trans (.perm ?_))
   · exact fun H0 F0 H hc=>⟨H,rfl,fun _=>rfl,hc.dup (hc.hold c (List.mem_append.2 (.inr hm.mem))) hf⟩
   · simpa using (aR6 (a:=c) (l₁:=A) (l₂:=cs++r)).symm
 | @mk l r cs c hv _ ih=>
   intro A
   have h2:=ih (A:=c::A)
   have hf:c.F=[]:=by
     have:=hv.foot
     simpa[foot]using this
   refine bL.trans ?_ (h2.trans (.perm ?_))
   · exact fun H0 F0 H hc=>⟨H,rfl,fun _=>rfl,hc.dup (hv.hold H (fun d hd=>by simp at hd) c (by simp)) hf⟩
   · simpa using (aR6 (a:=c) (l₁:=A) (l₂:=cs++r)).symm
 | @cO l l1 r cs c c' hs hz _ ih=>
   intro A
   have h1:bL (A++l) (c'::(A++l1)):=bL.cO (hs.app A) hz .refl
   have h3:bL (c'::(A++l1)) (c'::c'::(A++l1)):=fun H0 F0 H hc=>⟨H,rfl,fun _=>rfl,hc.dup (hc.hold c' (by simp)) hz.F⟩
   have h2:=ih (A:=c'::A)
   refine h1.trans (h3.trans (bL.trans (.perm ?_) (h2.trans (.perm ?_))))
   · simpa using (aR6 (a:=c') (l₁:=A) (l₂:=l1)).symm.cons c'
   · simpa using (aR6 (a:=c') (l₁:=A) (l₂:=cs++r)).symm
theorem nR.entP{cs pre rest:List ay}(hs:nR cs pre rest):bL cs pre:=fun H0 F0 H hc=>by
 obtain⟨H2,e1,e2,h⟩:=hs.ent (A:=[]) H0 F0 H hc
 exact⟨H2,e1,e2,h.sublist (aSe _ _)⟩
theorem aFu{α:Type}{Ro:b_ α}{R':aB->Value->α->Prop}{_:bS Ro}{_:j4 Ro}{_:bz R'}{_:jS Ro R'}{F:List Nat}{v:Value}{a:α}{l l1 cs r:List ay}(h:dU l (ah Ro F v a) l1)(t:nR (aI R' v a::l1) cs r):nR l (aI R' v a::cs) r:=.cO h aX t
theorem aFv{k:Nat}{es:List Value}{T:TypeId}{o:Bool}{l l1 cs r:List ay}(h:dU l (fT k ⟨es,T,o,true⟩) l1)(t:nR (pR k ⟨es,T,o,false⟩::l1) cs r):nR l (pR k ⟨es,T,o,false⟩::cs) r:=.cO h amC t
theorem aFw{cs pre rest:List ay}(h:nR cs pre rest:=by
   first
   |((repeat' (first
       |exact nR.nil
       |((with_reducible refine' nR.rd ?bP ?TG ?_); (case bP=>exact bQ); (case TG=>exact rfl))
       |((with_reducible refine' nR.cons ?bP ?_); (case bP=>exact l6))
       |((with_reducible refine' aFu ?bP ?_); (case bP=>exact l6); (all_goals (try infer_instance)))
       |((with_reducible refine' aFv ?bP ?_); (case bP=>exact l6))
       |((with_reducible refine' nR.mk ?bP ?_); (case bP=>exact cvA))
       |fail)); done)
   |fail):nR cs pre rest:=h
end
end Go.Fw
/-
 Loops and joins for the driver: states described by their slots and facts.  No conditions.
-/
set_option linter.unusedVariables false
namespace Go.Fw
open Go
def Bd(cs:List ay)(N:Nat):Prop:=∃c,Mem c cs/\ ∀H,c.P H->N<4611686018427387904
theorem bdR{α:Type}{R:aB->Value->α->Prop}{_:bz R}{E:TypeId}{v:Value}{xs:List α}{cs:List ay}(h:Mem (aI (ak E R) v xs) cs):Bd cs xs.length:=⟨_,h,aln⟩
theorem bdO{α:Type}{Ro:b_ α}{_:bS Ro}{E:TypeId}{F:List Nat}{v:Value}{xs:List α}{cs:List ay}(h:Mem (ah (aa E Ro) F v xs) cs):Bd cs xs.length:=⟨_,h,akZ⟩
theorem bdA{cs:List ay}{N:Nat}(h:Bd cs N:=by first|((with_reducible refine' bdR ?bP); (case bP=>exact bQ); (all_goals infer_instance))|((with_reducible refine' bdO ?bP); (case bP=>exact bQ); (all_goals infer_instance))|fail):Bd cs N:=h
theorem jB.mono{K K':Fr->List ay->Prop}{Q:Exit->Fr->List ay->Prop}(h:∀f cs,K f cs->K' f cs)(e:Exit)(f:Fr)(cs:List ay)(hq:jB K Q e f cs):jB K' Q e f cs:=by
 cases e with
 |normal=>exact h _ _ hq
 |_=>exact hq
structure Dt(α ι:Type) where
 v:α->ι->Value
 c:α->ι->List ay
structure Dq(β ι:Type) where
 s:β->ι->List (Nat×Value)
 c:β->ι->List ay
 t:List Nat:=[]
 b:List Value:=[]
abbrev tI:Dt Int Unit:=⟨fun a _=>.int .i64 a,fun _ _=>[]⟩
abbrev tB:Dt Bool Unit:=⟨fun a _=>.bool a,fun _ _=>[]⟩
abbrev tO{α:Type}(E:TypeId)(Ro:b_ α) [bS Ro]:Dt (List α) (Sv×List Nat):=⟨fun _ i=>i.1.v,fun a i=>[ah (aa E Ro) i.2 i.1.v a]⟩
section
variable{α β ι κ ρ:Type}
abbrev q0:Dq Unit Unit:=⟨fun _ _=>[],fun _ _=>[],[],[]⟩
abbrev q1(t:Nat)(D:Dt α κ):Dq α κ:=⟨fun a i=>[(t,D.v a i)],D.c,[t],[]⟩
abbrev qq(t:Nat)(D:Dt α κ)(X:Dq β ι):Dq (α×β) (κ×ι):=⟨fun|(a,b),i=>(t,D.v a i.1)::X.s b i.2,fun|(a,b),i=>D.c a i.1++X.c b i.2,t::X.t,X.b⟩
abbrev Dq.dr(X:Dq β ι)(l:List Value):Dq β ι:=⟨X.s,X.c,X.t,l++X.b⟩
theorem rH{p:α×β->Prop}(h:∃a b,p (a,b)):∃x,p x:=let ⟨a,b,h⟩:=h; ⟨(a,b),h⟩
theorem ru{p:Unit×β->Prop}(h:∃b,p ((),b)):∃x,p x:=let ⟨b,h⟩:=h; ⟨((),b),h⟩
theorem rJ{γ:Type}{p:(α×β)×γ->Prop}(h:∃x:α×(β×γ),p ((x.1,x.2.1),x.2.2)):∃x,p x:=let ⟨x,h⟩:=h; ⟨_,h⟩
theorem rM{p:Unit->Prop}(h:p ()):∃x,p x:=⟨(),h⟩
theorem GJ{p:Sv->Prop}(h:∃a n m,p ⟨a,n,m⟩):∃x,p x:=let ⟨a,n,m,h⟩:=h; ⟨⟨a,n,m⟩,h⟩
end
section
variable{P:Program} [bF P]{n:Nat}{f:Fr}{H0:aB}{F0:List Nat}{cs cs' kept kk:List ay}{L S:List (Nat×Value)}{c1 c2:Code}{Q:Exit->Fr->List ay->Prop}{A:Array Oper}{ops:List Oper}{ρ α β ι:Type}{xs:List α}{R:ρ}
theorem slA{f:Fr}{s:Nat}{v:Value}(h:f s=v:=by
   first
   |exact (rfl:_=Value.int _ _)|exact (rfl:_=Sv.v _)|exact (rfl:_=Value.bool _)|exact (rfl:_=Value.pointer _)|exact (rfl:_=Value.slice _ _ _)|exact (rfl:_=Value.agg _)
   |exact (rfl:_=sv _)|exact (rfl:_=Value.string _)|exact (rfl:_=Value.func _ _ _)|exact (rfl:_=Value.tuple _)|exact (rfl:_=undef)|exact rfl|fail):f s=v:=h
theorem oq{f:Fr}{r:List Nat}{l:List (Nat×Value)}(h:Kp f r l:=by first|((repeat (first|exact Kp.nil|(apply Kp.cons; exact slA))); done)|fail):Kp f r l:=h
theorem aFx{f:Fr}{l:List (Nat×Value)}{t:Nat}{a:Option Addr}{n m:Nat}(h:f t= .slice a n m)(r:fB f l):fB f ((t,Sv.v ⟨a,n,m⟩)::l):=.cons h r
theorem yR{l:List (Nat×Value)}(h:fB f l:=by first|((repeat (first|exact fB.nil|refine' fB.cons rfl ?_|refine' aFx rfl ?_)); done)|fail):fB f l:=h
theorem sK{pre:List ay}(h:bL cs pre:=by first|exact ky.entP selN|exact nR.entP aFw|fail):bL cs pre:=h
theorem azC{σ:Type}(I:Nat->Fr->List ay->Prop)(h0:I xs.length f cs)(hb:Bd cs xs.length)
   (round:xs.length<4611686018427387904-> ∀m f cs,I m f cs->CW P n H0 F0 c1 (jB (fun f' cs'=>∃m',m'<m/\I m' f' cs') Q) f cs):CW P n H0 F0 (.loop c1) Q f cs:=by
 obtain⟨c,hm,hp⟩:=hb
 exact zV hm hp fun hb=>kI I _ h0 (round hb)
inductive Aq:List (Nat×Value)->List (Nat×Value)->List (Nat×Value)->Prop
 |nil {l:List (Nat×Value)}:Aq [] l l
 |cons {t:Nat} {v w:Value} {l r o:List (Nat×Value)} (h:v=w) (k:Aq l r o):Aq ((t,v)::l) r ((t,w)::o)
theorem Aq.eq{l r o:List (Nat×Value)}(h:Aq l r o):o=l++r:=by
 induction h with
 |nil=>rfl
 |cons e _ ih=>rw[ih,e]; rfl
theorem lyA{v w:Value}(h:v=w:=by
   first
   |exact (rfl:_=Value.int _ _)|exact (rfl:_=Sv.v _)|exact (rfl:_=Value.bool _)|exact (rfl:_=Value.pointer _)|exact (rfl:_=Value.slice _ _ _)|exact (rfl:_=Value.agg _)
   |exact (rfl:_=sv _)|exact (rfl:_=Value.string _)|exact (rfl:_=Value.func _ _ _)|exact (rfl:_=Value.tuple _)|exact (rfl:_=undef)|fail):v=w:=h
theorem nH{l r o:List (Nat×Value)}(h:Aq l r o:=by first|((repeat (first|exact Aq.nil|((apply Aq.cons); (exact lyA)))); done)|fail):Aq l r o:=h
inductive VL (v:Value):List Value->Prop
 |h {l:List Value}:VL v (v::l)
 |a {us l:List Value} (h:VL v us):VL v (.agg us.toArray::l)
 |t {u:Value} {l:List Value} (h:VL v l):VL v (u::l)
inductive VM (v:Value):List (Nat×Value)->Prop
 |h {t:Nat} {l:List (Nat×Value)}:VM v ((t,v)::l)
 |a {t:Nat} {l:List (Nat×Value)} {us:List Value} (h:VL v us):VM v ((t,.agg us.toArray)::l)
 |t {x:Nat×Value} {l:List (Nat×Value)} (h:VM v l):VM v (x::l)
theorem vlA{v:Value}{l:List Value}(h:VL v l:=by first|((repeat (first|with_reducible exact VL.h|((with_reducible refine' VL.a ?Dw); (case Dw=>exact vlA))|refine' VL.t ?_)); done)|fail):VL v l:=h
theorem vlB{v:Value}{l:List Value}(h:VL v l:=by first|((repeat (first|exact VL.h|apply VL.t)); done)|fail):VL v l:=h
theorem vmA{v:Value}{l:List (Nat×Value)}(h:VM v l:=by first|((repeat (first|with_reducible exact VM.h|((with_reducible refine' VM.a ?Dw); (case Dw=>exact vlA))|refine' VM.t ?_)); done)|fail):VM v l:=h
inductive Kc (L:List (Nat×Value)) (B:List Value):List ay->List ay->Prop
 |nil:Kc L B [] []
 |r {c:ay} {l r:List ay} (e:c.F=[]) (h:Kc L B l r):Kc L B (c::l) (c::r)
 |x {k:Nat} {b:eO} {l r:List ay} (m:VL (.pointer (some ⟨k,0,some 0⟩)) B) (h:Kc L B l r):Kc L B (fT k b::l) r
 |y {α:Type} {Ro:b_ α} {_:bS Ro} {F:List Nat} {v:Value} {a:α} {l r:List ay} (m:VL v B) (h:Kc L B l r):Kc L B (ah Ro F v a::l) r
 |o {α:Type} {Ro:b_ α} {_:bS Ro} {F:List Nat} {v:Value} {a:α} {l r:List ay} (m:VM v L) (h:Kc L B l r):Kc L B (ah Ro F v a::l) r
 |k {c:ay} {l r:List ay} (h:Kc L B l r):Kc L B (c::l) (c::r)
theorem zy{B:List Value}(h:Kc L B cs kept:=by
   first
   |((repeat (first
       |exact Kc.nil
       |((with_reducible apply Kc.r); (exact rfl))
       |((with_reducible apply Kc.y); (exact vlB))
       |((with_reducible apply Kc.o); (exact vmA))
       |((with_reducible apply Kc.x); (exact vlB))
       |(with_reducible apply Kc.k))); done)
   |fail):Kc L B cs kept:=h
theorem Kk{S0:List (Nat×Value)}{C0 C:List ay}{g:Fr}(hS:Aq S0 L S)(hC:Ap C0 kept C)(h:CW P n H0 F0 c1 Q (dm g S) C):CW P n H0 F0 c1 Q (dm g (S0++L)) (C0++kept):=by
 rw[←hS.eq,←hC.eq]; exact h
def Jn(X:Dq β ι)(L:List (Nat×Value))(kept:List ay)(o:β)(f:Fr)(cs:List ay):Prop:=∃i,fB f (X.s o i++L)/\bL cs (X.c o i++kept)
theorem jnI{X:Dq β ι}{o b:β}(hF:some b=some o)(h:∃i,∃S C,Aq (X.s b i) L S/\Ap (X.c b i) kept C/\fB f S/\bL cs C):Jn X L kept o f cs:=by
 obtain rfl:=aQ0 hF
 obtain⟨i,S,C,h1,h2,h3,h4⟩:=h
 exact⟨i,h1.eq ▸ h3,h2.eq ▸ h4⟩
theorem aFy{E:Option β}{k:β->Option ρ}{X:Dq β ι}(hF:E.bind k=some R)(h1:∀o,E=some o->CW P n H0 F0 c1 (jB (Jn X L kept o) Q) f cs)
   (h2:∀a i g,k a=some R->CW P n H0 F0 c2 Q (dm g (X.s a i++L)) (X.c a i++kept)):CW P n H0 F0 (.seq c1 c2) Q f cs:=by
 obtain⟨o,e1,e2⟩:=bind_some hF
 refine pU (Jn X L kept o) (h1 o e1) fun f' cs' h=>?_
 obtain⟨i,g2,g3⟩:=h
 refine gV g3 ?_
 rw[g2.eq]
 exact h2 o i f' e2
theorem aFz{E:Option β}{k:β->Option ρ}{X:Dq β ι}(hF:E.bind k=some R)(h1:∀o,E=some o->aR P n H0 F0 A ops f cs (Jn X L kept o))
   (h2:∀a i g,k a=some R->CW P n H0 F0 c2 Q (dm g (X.s a i++L)) (X.c a i++kept)):aR P n H0 F0 A ops f cs (fun f' cs'=>CW P n H0 F0 c2 Q f' cs'):=by
 obtain⟨o,e1,e2⟩:=bind_some hF
 refine qo (Jn X L kept o) (h1 o e1) fun f' cs' h=>?_
 obtain⟨i,g2,g3⟩:=h
 refine gV g3 ?_
 rw[g2.eq]
 exact h2 o i f' e2
theorem aFA{ol:List Oper}{tb aO todo:List Nat}{fl:List (Nat×List Nat)}{E:Option β}{k:β->Option ρ}{X:Dq β ι}(hF:E.bind k=some R)(h1:∀o,E=some o->DC P n ol tb aO H0 F0 (Jn X L kept o) todo fl f cs)
   (h2:∀a i g,k a=some R->CW P n H0 F0 c2 Q (dm g (X.s a i++L)) (X.c a i++kept)):DC P n ol tb aO H0 F0 (fun f' cs'=>CW P n H0 F0 c2 Q f' cs') todo fl f cs:=by
 obtain⟨o,e1,e2⟩:=bind_some hF
 refine afj (Jn X L kept o) (h1 o e1) fun f' cs' h=>?_
 obtain⟨i,g2,g3⟩:=h
 refine gV g3 ?_
 rw[g2.eq]
 exact h2 o i f' e2
def JnS{ρ1:Type}(X:Dq β ι)(L:List (Nat×Value))(kept:List ay)(o:Sum ρ1 β)(f:Fr)(cs:List ay):Prop:=∃b,.inr b=o/\Jn X L kept b f cs
theorem aFB{ρ1:Type}{X:Dq β ι}{o:Sum ρ1 β}{b:β}(hF:some (.inr b)=some o)(h:∃i,∃S C,Aq (X.s b i) L S/\Ap (X.c b i) kept C/\fB f S/\bL cs C):JnS X L kept o f cs:=
 ⟨b,aQ0 hF,jnI rfl h⟩
theorem aFC{ρ1:Type}{E:Option (Sum ρ1 β)}{k:Sum ρ1 β->Option ρ}{X:Dq β ι}(hF:E.bind k=some R)(h1:∀o,E=some o->k o=some R->CW P n H0 F0 c1 (jB (JnS X L kept o) Q) f cs)
   (h2:∀a i g,k (.inr a)=some R->CW P n H0 F0 c2 Q (dm g (X.s a i++L)) (X.c a i++kept)):CW P n H0 F0 (.seq c1 c2) Q f cs:=by
 obtain⟨o,e1,e2⟩:=bind_some hF
 refine pU (JnS X L kept o) (h1 o e1 e2) fun f' cs' h=>?_
 obtain⟨b,rfl,i,g2,g3⟩:=h
 refine gV g3 ?_
 rw[g2.eq]
 exact h2 b i f' e2
def Bk(X:Dq β ι)(kt:Nat)(L:List (Nat×Value))(kept:List ay)(φ:List α->Nat->β->Option ρ)(R:ρ)(l:List α)(k:Nat)(f:Fr)(cs:List ay):Prop:=
 ∃b i,φ l k b=some R/\fB f ((kt,.int .i64 (k:Int))::(X.s b i++L))/\bL cs (X.c b i++kept)
theorem bkI{X:Dq β ι}{kt k:Nat}{φ:List α->Nat->β->Option ρ}{l:List α}(h:∃b,φ l k b=some R/\ ∃i,∃S C,Aq (X.s b i) L S/\Ap (X.c b i) kept C/\fB f ((kt,.int .i64 (k:Int))::S)/\bL cs C):Bk X kt L kept φ R l k f cs:=by
 obtain⟨b,h0,i,S,C,h1,h2,h3,h4⟩:=h
 exact⟨b,i,h0,h1.eq ▸ h3,h2.eq ▸ h4⟩
theorem abo{φ:List α->Nat->β->Option ρ}{b0:β}{X:Dq β ι}{kt:Nat}(hF:φ xs 0 b0=some R)(hb:Bd cs xs.length)(hk:fB f L)
   (h0:∃i,∃S C,Aq (X.s b0 i) [] S/\Ap (X.c b0 i) kept C/\fB f ((kt,.int .i64 ((0:Nat):Int))::S)/\bL cs C)
   (hn:∀k b i g,φ [] k b=some R->xs.length<=k->xs.length<4611686018427387904->CW P n H0 F0 c1 (jB (fun _ _=>False) Q) (dm g ((kt,.int .i64 (k:Int))::(X.s b i++L))) (X.c b i++kept))
   (hc:∀x l k b i g,φ (x::l) k b=some R->k<xs.length->xs[(k:Int).toNat]?=some x->xs.length<4611686018427387904->
     CW P n H0 F0 c1 (jB (Bk X kt L kept φ R l (k+1)) Q) (dm g ((kt,.int .i64 (k:Int))::(X.s b i++L))) (X.c b i++kept)):CW P n H0 F0 (.loop c1) Q f cs:=by
 refine azC (σ:=Unit) (fun m f cs=>∃(l:List α)(k:Nat)(b:β)(i:ι)(g:Fr),m=l.length/\List.drop k xs=l/\φ l k b=some R/\f=dm g ((kt,.int .i64 (k:Int))::(X.s b i++L))/\bL cs (X.c b i++kept)) ?_ hb ?_
 · obtain⟨i,S,C,h1,h2,h3,h4⟩:=h0
   refine⟨xs,0,b0,i,f,rfl,rfl,hF,?_,h2.eq ▸ h4⟩
   have e:=h1.eq
   rw[aQ_]at e
   rw[e]at h3
   exact fB.eq (fB.app h3 hk)
 rintro hb m _ cs ⟨l,k,b,i,g,rfl,hd,hF,rfl,hE⟩
 refine gV hE ?_
 rcases l with _|⟨x,l⟩
 · exact (hn k b i g hF (List.drop_eq_nil_iff.1 hd) hb).mono (jB.mono fun _ _ h=>h.elim)
 obtain⟨h1,h2,h3⟩:=kH hd
 refine (hc x l k b i g hF h1 h2 hb).mono (jB.mono fun f cs h=>?_)
 obtain⟨b,i,g1,g2,g3⟩:=h
 exact⟨_,aST _,l,k+1,b,i,f,rfl,h3,g1,g2.eq,g3⟩
def Bf(X:Dq β ι)(L:List (Nat×Value))(kept:List ay)(φ:Nat->β->Option ρ)(R:ρ)(m:Nat)(f:Fr)(cs:List ay):Prop:=∃b i,φ m b=some R/\fB f (X.s b i++L)/\bL cs (X.c b i++kept)
theorem bfI{X:Dq β ι}{m:Nat}{φ:Nat->β->Option ρ}(h:∃b,φ m b=some R/\ ∃i,∃S C,Aq (X.s b i) L S/\Ap (X.c b i) kept C/\fB f S/\bL cs C):Bf X L kept φ R m f cs:=by
 obtain⟨b,h0,i,S,C,h1,h2,h3,h4⟩:=h
 exact⟨b,i,h0,h1.eq ▸ h3,h2.eq ▸ h4⟩
theorem agP{φ:Nat->β->Option ρ}{b0:β}{X:Dq β ι}{m:Nat}(hF:φ m b0=some R)(hz:∀b,φ 0 b=none)(hk:fB f L)
   (h0:∃i,∃S C,Aq (X.s b0 i) [] S/\Ap (X.c b0 i) kept C/\fB f S/\bL cs C)
   (hc:∀m b i g,φ (m+1) b=some R->CW P n H0 F0 c1 (jB (Bf X L kept φ R m) Q) (dm g (X.s b i++L)) (X.c b i++kept)):CW P n H0 F0 (.loop c1) Q f cs:=by
 refine kI (fun m f cs=>∃(b:β)(i:ι)(g:Fr),φ m b=some R/\f=dm g (X.s b i++L)/\bL cs (X.c b i++kept)) m ?_ ?_
 · obtain⟨i,S,C,h1,h2,h3,h4⟩:=h0
   refine⟨b0,i,f,hF,?_,h2.eq ▸ h4⟩
   have e:=h1.eq
   rw[aQ_]at e
   rw[e]at h3
   exact fB.eq (fB.app h3 hk)
 rintro m _ cs ⟨b,i,g,hF,rfl,hE⟩
 refine gV hE ?_
 rcases m with _|m
 · rw[hz]at hF; exact absurd hF (by simp)
 refine (hc m b i g hF).mono (jB.mono fun f cs h=>?_)
 obtain⟨b,i,g1,g2,g3⟩:=h
 exact⟨m,aST _,b,i,f,g1,g2.eq,g3⟩
end
end Go.Fw
/-
 The driver.  No conditions.
-/
set_option linter.unusedVariables false
namespace Go.Fw
open Go
class sP{α:Type}(R:aB->Value->α->Prop)(off:Nat)(w:outParam (α->Value)):Prop where h:∀a H e,R H e a->e.cells.toList[off]?=some (w a)
class zz{α:Type}(R:aB->Value->α->Prop)(off:Nat)(β:outParam Type)(R':outParam (aB->Value->β->Prop))(m:outParam (bz R'))(q:outParam (α->β)):Prop where
 h:∀a H e,R H e a-> ∃w:Sv,e.cells.toList[off]?=some w.v/\R' H w.v (q a)
class rO{α:Type}(R:aB->Value->α->Prop)(off s:Nat)(ι:outParam Type)(ul:outParam (α->ι->List Value))(cc:outParam (α->ι->List ay)):Prop where
 h:∀a H e,R H e a-> ∃i,off+s<=e.cells.size/\(e.cells.toList.drop off).take s=ul a i/\ ∀c∈cc a i,c.P H/\c.F=[]
section
variable{P:Program} [bF P]{n:Nat}{f:Fr}{H0:aB}{F0:List Nat}{cs pre rest:List ay}{x y z:Operand}{v u:Value}{A:Array Oper}{r:List Oper}{K:Fr->List ay->Prop}{d:Option Tmp}{T T' T2 E:TypeId}{ps:String}{af:Array Edge}
variable{l:List Oper}{tb aO todo:List Nat}{fl:List (Nat×List Nat)}{i g:Nat}{gd:Option (Nat×Bool)}{ι α:Type}{val:ι->Value}{R:aB->Value->α->Prop}{a:α}{k j s b off:Nat}{zv e:Value}{kk:IntKind}{q:Int}{TB:TypeId}{c1 c2:Code}{Q:Exit->Fr->List ay->Prop}{op:Op}
theorem ap2{fi:Nat} [hF:dJ P T fi off](hx:EV n f x (.pointer (some ⟨k,i,some 0⟩)))(h:aR P n H0 F0 A r (put f d (.pointer (some ⟨k,i,some off⟩))) cs K):
   aR P n H0 F0 A (⟨d,.fieldAddr T x fi,T',ps,af,none⟩::r) f cs K:=abj hx (by simpa using h)
theorem Gi{_:bz R}{xs:List α} [hT:iN P T E] [hs:dK P E s b zv](hx:EV n f x v)(hy:EV n f y (.int kk q))(hm:Mem (aI (ak E R) v xs) cs)(hi:xs[q.toNat]?=some a)(h0:0<=q)
   (h:∀k j,aR P n H0 F0 A r (put f d (.pointer (some ⟨k,j,some 0⟩))) (jM E R k j a::cs) K):aR P n H0 F0 A (⟨d,.indexAddr T x y,T',ps,af,none⟩::r) f cs K:=Jk hT.h hs.h.sz hx hy hm h0 hi h
theorem Gl{_:bz R} [hA:d_ P T false](hx:EV n f x (.pointer (some ⟨k,j,some off⟩)))(hm:Mem (jM E R k j a) cs)(hop:∀H e,R H e a->e.cells.toList[off]?=some v)(h:aR P n H0 F0 A r (put f d v) cs K):
   aR P n H0 F0 A (⟨d,.load T x,T',ps,af,none⟩::r) f cs K:=an5 hA.h hx hm hop h
theorem Gv{_:bz R}{β:Type}{R':aB->Value->β->Prop}{m:bz R'}{qa:β} [hA:d_ P T false](hx:EV n f x (.pointer (some ⟨k,j,some off⟩)))(hm:Mem (jM E R k j a) cs)(hop:∀H e,R H e a-> ∃w:Sv,e.cells.toList[off]?=some w.v/\R' H w.v qa)
   (h:∀w:Sv,aR P n H0 F0 A r (put f d w.v) (aI R' w.v qa::cs) K):aR P n H0 F0 A (⟨d,.load T x,T',ps,af,none⟩::r) f cs K:=Tz hA.h hx hm hop h
theorem Ga{_:bz R}{ul:ι->List Value}{cc cs':ι->List ay} [hA:d_ P T true] [ht:dK P T s b zv](h0:Nat.blt 0 s=true)(hx:EV n f x (.pointer (some ⟨k,j,some off⟩)))(hm:Mem (jM E R k j a) cs)
   (hop:∀H e,R H e a-> ∃i,off+s<=e.cells.size/\(e.cells.toList.drop off).take s=ul i/\ ∀c∈cc i,c.P H/\c.F=[]) (ha:∀i,Ap (cc i) cs (cs' i)) (h:∀i,aR P n H0 F0 A r (put f d (.agg (ul i).toArray)) (cs' i) K):
   aR P n H0 F0 A (⟨d,.load T x,T',ps,af,none⟩::r) f cs K:=aam ul hA.h ht.h.sz h0 hx hm hop (fun i=>(ha i).toApp) h
theorem GbR [ht:dK P T s b zv](hx:EV n f x v)(hv:v.cells.size=s)(h:∀k,aR P n H0 F0 A r (put f d (.pointer (some ⟨k,0,some 0⟩))) (pR k ⟨[v],T,true,false⟩::cs) K):
   aR P n H0 F0 A (⟨d,.box T x,T',ps,af,none⟩::r) f cs K:=j6 h hx hv
theorem GnW [ht:dK P T s b zv](hv:zv.cells.size=s)(hc:um zv=true)(h:∀k,aR P n H0 F0 A r (put f d (.pointer (some ⟨k,0,some 0⟩))) (fT k ⟨[zv],T,true,true⟩::cs) K):
   aR P n H0 F0 A (⟨d,.alloc T,T',ps,af,none⟩::r) f cs K:=gI h hv hc
inductive St:List Value->Nat->List Value->List Value->Prop
 |all {l l':List Value} (h:l.length=l'.length):St l 0 l' l'
 |nil {l:List Value}:St l 0 [] l
 |put {a w:Value} {l ws l':List Value} (h:St l 0 ws l'):St (a::l) 0 (w::ws) (w::l')
 |skip {a:Value} {l ws l':List Value} {j:Nat} (h:St l j ws l'):St (a::l) (j+1) ws (a::l')
theorem St.eq{l ws l':List Value}{j:Nat}(h:St l j ws l'):splice l j ws=l':=by
 induction h with
 |all h=>simp[splice,h]
 |nil=>simp[splice]
 |put _ ih=>simpa[splice]using ih
 | @skip a l ws l' j _ ih=>
   have:(j+1+ws.length)=(j+ws.length)+1:=by omega
   simpa[splice,this]using ih
theorem cA{l:List Value}:(Value.agg l.toArray).cells.toList=l:=rfl
theorem cI{k:IntKind}{i:Int}:(Value.int k i).cells.toList=[.int k i]:=rfl
theorem cS{u:Sv}:u.v.cells.toList=[u.v]:=rfl
theorem cB{b:Bool}:(Value.bool b).cells.toList=[.bool b]:=rfl
theorem cV{s:List UInt8}:(sv s).cells.toList=[sv s]:=rfl
theorem cL{p:Option Addr}{n m:Nat}:(Value.slice p n m).cells.toList=[.slice p n m]:=rfl
theorem cP{p:Option Addr}:(Value.pointer p).cells.toList=[.pointer p]:=rfl
theorem cF{f:Fn}{a b:Array Value}:(Value.func f a b).cells.toList=[.func f a b]:=rfl
theorem Gs{lc Ot ws:List Value} [ht:dK P T s b zv](hx:EV n f x (.pointer (some ⟨k,0,some j⟩)))(hy:EV n f y v)(hm:dU cs (aW k TB (.agg lc.toArray)) rest)(hw:v.cells.toList=ws)(hst:St lc j ws Ot)
   (hv:v.cells.size=s) (hsc:v.cells.toList.all scal=true) (h0:Nat.blt 0 s=true) (hj:Nat.ble (j+s) lc.length=true) (h:aR P n H0 F0 A r (put f d undef) (aW k TB (.agg Ot.toArray)::rest) K):
   aR P n H0 F0 A (⟨d,.store T x y,T',ps,af,none⟩::r) f cs K:=
 As _ h hx hy hm hv hsc h0 (by simpa[Value.cells]using hj) (by rw[hw]; simp[lW,hst.eq])
theorem Gs1{o w:Value} [ht:dK P T s b zv](hx:EV n f x (.pointer (some ⟨k,0,some 0⟩)))(hy:EV n f y w)(hm:dU cs (aW k TB o) rest)(he:lW o 0 w.cells.toList=w)
   (hv:w.cells.size=s) (hsc:w.cells.toList.all scal=true) (h0:Nat.blt 0 s=true) (hj:Nat.ble (0+s) o.cells.size=true) (h:aR P n H0 F0 A r (put f d undef) (aW k TB w::rest) K):
   aR P n H0 F0 A (⟨d,.store T x y,T',ps,af,none⟩::r) f cs K:=As _ h hx hy hm hv hsc h0 hj he
theorem Gap{Ro:b_ α}{hkp:bS Ro} [hT:iN P T E] [ht:dK P E s b zv]{hoc:kL Ro s}{F:List Nat}{c:ay}{cs1:List ay}{xs ys zs:List α}{ts:List TypeId}(hz:app xs ys=some zs)(hx:EV n f x v)(hy:EV n f y u)(hm:dU cs (ah (aa E Ro) F v xs) cs1)(hc:Src E Ro u ys c)(hs:ky cs1 [c] rest)
   (qb:oH P T2) (h0:Nat.blt 0 s=true) (hzs:zv.cells.size=s) (hby:Nat.ble b 16384=true)
   (h:∀p:Sv×List Nat,aR P n H0 F0 A r (put f d p.1.v) (ah (aa E Ro) p.2 p.1.v zs::rest) K):aR P n H0 F0 A (⟨d,.call ⟨.builtin .append,[x,y].toArray,(T::T2::ts).toArray⟩,T',ps,af,none⟩::r) f cs K:=
 fun H hc'=>iZ (pre:=[ah (aa E Ro) F v xs,c]) (rest:=rest) (cs:=[ah (aa E Ro) F v xs,c]++rest) (selApp _ _) (iU hT.h qb ht.h h0 hzs hby hx hy hz hc) h H (by
   have h1:=hc'.perm hm.perm
   exact Ctx.selN hs (A:=[ah (aa E Ro) F v xs]) h1)
theorem aFD{Ro:b_ α}{hkp:bS Ro} [hT:iN P T E] [ht:dK P E s b zv]{hoc:kL Ro s}{F F2:List Nat}{cs1:List ay}{xs ys zs:List α}{ts:List TypeId}(hz:app xs ys=some zs)(hx:EV n f x v)(hy:EV n f y u)(hm:dU cs (ah (aa E Ro) F v xs) cs1)(hs:dU cs1 (ah (aa E Ro) F2 u ys) rest)
   (qb:oH P T2) (h0:Nat.blt 0 s=true) (hzs:zv.cells.size=s) (hby:Nat.ble b 16384=true)
   (h:∀p:Sv×List Nat,aR P n H0 F0 A r (put f d p.1.v) (ah (aa E Ro) p.2 p.1.v zs::rest) K):aR P n H0 F0 A (⟨d,.call ⟨.builtin .append,[x,y].toArray,(T::T2::ts).toArray⟩,T',ps,af,none⟩::r) f cs K:=
 Gap (hkp:=hkp) (hoc:=hoc) hz hx hy hm kJ (.cons hs .nil) qb h0 hzs hby h
theorem aFE{hmo:bz R} [hT:iN P T E] [ht:dK P E s b zv]{hce:Cells R s}{F:List Nat}{cs1:List ay}{xs ys zs:List α}{ts:List TypeId}(hz:app xs ys=some zs)(hx:EV n f x v)(hy:EV n f y u)(hm:dU cs (ah (aa E (az R)) F v xs) cs1)(hs:Mem (aI (ak E R) u ys) cs1)
   (qb:oH P T2) (h0:Nat.blt 0 s=true) (hzs:zv.cells.size=s) (hby:Nat.ble b 16384=true)
   (h:∀p:Sv×List Nat,aR P n H0 F0 A r (put f d p.1.v) (ah (aa E (az R)) p.2 p.1.v zs::cs1) K):aR P n H0 F0 A (⟨d,.call ⟨.builtin .append,[x,y].toArray,(T::T2::ts).toArray⟩,T',ps,af,none⟩::r) f cs K:=
 Gap (hkp:=inferInstance) (hoc:=inferInstance) hz hx hy hm zX (.rd hs rfl .nil) qb h0 hzs hby h
theorem Hap{Ro:b_ α} [bS Ro] [kL Ro s]{F:List Nat}{c:ay}{cs1:List ay}{xs ys zs:List α}{ts:List TypeId}(ho:l[i]?=some ⟨d,.call ⟨.builtin .append,[x,y].toArray,(T::T2::ts).toArray⟩,T',ps,af,gd⟩){hT:iN P T E}{ht:dK P E s b zv}(hz:app xs ys=some zs)(hA:aO.any (Nat.beq i)=true)(hw:Wt n l f gd)(hx:EV n f x v)(hy:EV n f y u)
   (hn:dP x (dE l ⟨d,.call ⟨.builtin .append,[x,y].toArray,(T::T2::ts).toArray⟩,T',ps,af,gd⟩)=true) (hmm:dP y (dE l ⟨d,.call ⟨.builtin .append,[x,y].toArray,(T::T2::ts).toArray⟩,T',ps,af,gd⟩)=true) (hm:dU cs (ah (aa E Ro) F v xs) cs1) (hc:Src E Ro u ys c) (hs:ky cs1 [c] rest)
   (qb:oH P T2) (h0:Nat.blt 0 s=true) (hzs:zv.cells.size=s) (hby:Nat.ble b 16384=true) (hfl:iF tb i rest fl)
   (h:∀p:Sv×List Nat,DC P n l tb aO H0 F0 K todo fl (put f d p.1.v) (ah (aa E Ro) p.2 p.1.v zs::rest)):DC P n l tb aO H0 F0 K (i::todo) fl f cs:=
 fun H hc'=>dx (rest:=rest) hA ho hw (selApp [ah (aa E Ro) F v xs,c] rest) hfl (fun ha=>iU hT.h qb ht.h h0 hzs hby (EN ha hx hn) (EN ha hy hmm) hz hc) h H (by
   have h1:=hc'.perm hm.perm
   exact Ctx.selN hs (A:=[ah (aa E Ro) F v xs]) h1)
theorem aFF{Ro:b_ α}{_:bS Ro}{_:kL Ro s}{F F2:List Nat}{cs1:List ay}{xs ys zs:List α}{ts:List TypeId}(ho:l[i]?=some ⟨d,.call ⟨.builtin .append,[x,y].toArray,(T::T2::ts).toArray⟩,T',ps,af,gd⟩){hT:iN P T E}{ht:dK P E s b zv}(hz:app xs ys=some zs)(hA:aO.any (Nat.beq i)=true)(hw:Wt n l f gd)(hx:EV n f x v)(hy:EV n f y u)
   (hn:dP x (dE l ⟨d,.call ⟨.builtin .append,[x,y].toArray,(T::T2::ts).toArray⟩,T',ps,af,gd⟩)=true) (hmm:dP y (dE l ⟨d,.call ⟨.builtin .append,[x,y].toArray,(T::T2::ts).toArray⟩,T',ps,af,gd⟩)=true) (hm:dU cs (ah (aa E Ro) F v xs) cs1) (hs:dU cs1 (ah (aa E Ro) F2 u ys) rest)
   (qb:oH P T2) (h0:Nat.blt 0 s=true) (hzs:zv.cells.size=s) (hby:Nat.ble b 16384=true) (hfl:iF tb i rest fl)
   (h:∀p:Sv×List Nat,DC P n l tb aO H0 F0 K todo fl (put f d p.1.v) (ah (aa E Ro) p.2 p.1.v zs::rest)):DC P n l tb aO H0 F0 K (i::todo) fl f cs:=
 Hap (hT:=hT) (ht:=ht) ho hz hA hw hx hy hn hmm hm kJ (.cons hs .nil) qb h0 hzs hby hfl h
theorem aFG{_:bz R}{_:Cells R s}{F:List Nat}{cs1:List ay}{xs ys zs:List α}{ts:List TypeId}(ho:l[i]?=some ⟨d,.call ⟨.builtin .append,[x,y].toArray,(T::T2::ts).toArray⟩,T',ps,af,gd⟩){hT:iN P T E}{ht:dK P E s b zv}(hz:app xs ys=some zs)(hA:aO.any (Nat.beq i)=true)(hw:Wt n l f gd)(hx:EV n f x v)(hy:EV n f y u)
   (hn:dP x (dE l ⟨d,.call ⟨.builtin .append,[x,y].toArray,(T::T2::ts).toArray⟩,T',ps,af,gd⟩)=true) (hmm:dP y (dE l ⟨d,.call ⟨.builtin .append,[x,y].toArray,(T::T2::ts).toArray⟩,T',ps,af,gd⟩)=true) (hm:dU cs (ah (aa E (az R)) F v xs) cs1) (hs:Mem (aI (ak E R) u ys) cs1)
   (qb:oH P T2) (h0:Nat.blt 0 s=true) (hzs:zv.cells.size=s) (hby:Nat.ble b 16384=true) (hfl:iF tb i cs1 fl)
   (h:∀p:Sv×List Nat,DC P n l tb aO H0 F0 K todo fl (put f d p.1.v) (ah (aa E (az R)) p.2 p.1.v zs::cs1)):DC P n l tb aO H0 F0 K (i::todo) fl f cs:=
 Hap (hT:=hT) (ht:=ht) ho hz hA hw hx hy hn hmm hm zX (.rd hs rfl .nil) qb h0 hzs hby hfl h
theorem Gbd{parts:List (Nat×Operand)}{vs:List Value} [ht:dK P T s b zv](hz:um zv=true)(hxs:fE n f (parts.map (·.2)) vs)(hb:P.built T ((parts.map (·.1)).zip vs)=some vs.toArray)(h:aR P n H0 F0 A r (put f d (.agg vs.toArray)) cs K):
   aR P n H0 F0 A (⟨d,.build T parts.toArray,T',ps,af,none⟩::r) f cs K:=aP (iy ht.h hz hxs hb) h
theorem Hbd{parts:List (Nat×Operand)}{vs:List Value}(ho:l[i]?=some ⟨d,.build T parts.toArray,T',ps,af,gd⟩){ht:dK P T s b zv}(hw:Wt n l f gd)(hz:um zv=true)(hxs:fE n f (parts.map (·.2)) vs)(hn:(parts.map (·.2)).all (fun x=>dP x (dE l ⟨d,.build T parts.toArray,T',ps,af,gd⟩))=true)
   (hb:P.built T ((parts.map (·.1)).zip vs)=some vs.toArray) (h:DC P n l tb aO H0 F0 K todo fl (put f d (.agg vs.toArray)) cs):DC P n l tb aO H0 F0 K (i::todo) fl f cs:=dw ho hw (fun ha=>iy ht.h hz (Ki ha hxs hn) hb) h
theorem Gmf{fn:Fn}{xs ys:List Operand}{vs us:List Value}(hx:fE n f xs vs)(hy:fE n f ys us)(h:aR P n H0 F0 A r (put f d (.func fn vs.toArray us.toArray)) cs K):
   aR P n H0 F0 A (⟨d,.makeFunc fn xs.toArray ys.toArray,T',ps,af,none⟩::r) f cs K:=aP (Rc hx hy) h
theorem Gex{l:List Value}(hx:EV n f x (.tuple l.toArray))(hi:l[i]?=some v)(h:aR P n H0 F0 A r (put f d v) cs K):aR P n H0 F0 A (⟨d,.extract x i,T',ps,af,none⟩::r) f cs K:=aP (tC hx hi) h
class V8(P:Program) [bF P](T:TypeId):Prop where h:P.underlying T=some .bool
class V9(P:Program) [bF P](T:TypeId)(k:outParam IntKind):Prop where h:IK P T k
theorem aFH{p q:Bool} [hT:V8 P T](hx:EV n f x (.bool p))(hy:EV n f y (.bool q))(h:aR P n H0 F0 A r (put f d (.bool (p==q))) cs K):aR P n H0 F0 A (⟨d,.binOp .eql T x y T',T2,ps,af,none⟩::r) f cs K:=aP (an9 hT.h hx hy) h
theorem aFI{p q:Bool} [hT:V8 P T](hx:EV n f x (.bool p))(hy:EV n f y (.bool q))(h:aR P n H0 F0 A r (put f d (.bool (!(p==q)))) cs K):aR P n H0 F0 A (⟨d,.binOp .neq T x y T',T2,ps,af,none⟩::r) f cs K:=aP (TF hT.h hx hy) h
theorem Gnc{q:Addr}(hx:EV n f x (.pointer (some q)))(h:aR P n H0 F0 A r (put f d (.pointer (some q))) cs K):aR P n H0 F0 A (⟨d,.nilCheck x,T',ps,af,none⟩::r) f cs K:=aP (ni rfl hx) h
theorem Gc8{u:UInt8} [hS:V9 P T .u8] [hD:V9 P T2 .i64](hx:EV n f x (.int .u8 (u.toNat:Int)))(h:aR P n H0 F0 A r (put f d (.int .i64 (u.toNat:Int))) cs K):aR P n H0 F0 A (⟨d,.convert T T2 x,T',ps,af,none⟩::r) f cs K:=aP (akb hS.h hD.h hx) h
structure anw(g:Nat):Prop where
theorem stC{xs:Array Operand}{ts:Array TypeId}(_:anw g)(k:aR P n H0 F0 A (⟨d,.call ⟨.value (.func g),xs,ts⟩,T,ps,af,gd⟩::r) f cs K):aR P n H0 F0 A (⟨d,.call ⟨.value (.func g),xs,ts⟩,T,ps,af,gd⟩::r) f cs K:=k
theorem stD{G:Prop}{xs:Array Operand}{ts:Array TypeId}(_:anw g)(_:l[i]?=some ⟨d,.call ⟨.value (.func g),xs,ts⟩,T,ps,af,gd⟩)(k:G):G:=k
theorem dop{o:Oper}(ho:l[i]?=some o)(k:l[i]?=some o->DC P n l tb aO H0 F0 K (i::todo) fl f cs):DC P n l tb aO H0 F0 K (i::todo) fl f cs:=k ho
theorem aFJ{p q:Bool}(ho:l[i]?=some ⟨d,.binOp .eql T x y T',T2,ps,af,gd⟩){hT:V8 P T}(hw:Wt n l f gd)(hx:EV n f x (.bool p))(hn:dP x (dE l ⟨d,.binOp .eql T x y T',T2,ps,af,gd⟩)=true)(hy:EV n f y (.bool q))(hm:dP y (dE l ⟨d,.binOp .eql T x y T',T2,ps,af,gd⟩)=true)
   (h:DC P n l tb aO H0 F0 K todo fl (put f d (.bool (p==q))) cs):DC P n l tb aO H0 F0 K (i::todo) fl f cs:=dw ho hw (fun ha=>an9 hT.h (EN ha hx hn) (EN ha hy hm)) h
theorem aFK{p q:Bool}(ho:l[i]?=some ⟨d,.binOp .neq T x y T',T2,ps,af,gd⟩){hT:V8 P T}(hw:Wt n l f gd)(hx:EV n f x (.bool p))(hn:dP x (dE l ⟨d,.binOp .neq T x y T',T2,ps,af,gd⟩)=true)(hy:EV n f y (.bool q))(hm:dP y (dE l ⟨d,.binOp .neq T x y T',T2,ps,af,gd⟩)=true)
   (h:DC P n l tb aO H0 F0 K todo fl (put f d (.bool (!(p==q)))) cs):DC P n l tb aO H0 F0 K (i::todo) fl f cs:=dw ho hw (fun ha=>TF hT.h (EN ha hx hn) (EN ha hy hm)) h
theorem Hnc{q:Addr}(ho:l[i]?=some ⟨d,.nilCheck x,T',ps,af,gd⟩)(hw:Wt n l f gd)(hx:EV n f x (.pointer (some q)))(hn:dP x (dE l ⟨d,.nilCheck x,T',ps,af,gd⟩)=true)
   (h:DC P n l tb aO H0 F0 K todo fl (put f d (.pointer (some q))) cs):DC P n l tb aO H0 F0 K (i::todo) fl f cs:=dw ho hw (fun ha=>ni rfl (EN ha hx hn)) h
theorem Hc8{u:UInt8}(ho:l[i]?=some ⟨d,.convert T T2 x,T',ps,af,gd⟩){hS:V9 P T .u8}{hD:V9 P T2 .i64}(hw:Wt n l f gd)(hx:EV n f x (.int .u8 (u.toNat:Int)))(hn:dP x (dE l ⟨d,.convert T T2 x,T',ps,af,gd⟩)=true)
   (h:DC P n l tb aO H0 F0 K todo fl (put f d (.int .i64 (u.toNat:Int))) cs):DC P n l tb aO H0 F0 K (i::todo) fl f cs:=dw ho hw (fun ha=>akb hS.h hD.h (EN ha hx hn)) h
theorem Hfa{fi:Nat}(ho:l[i]?=some ⟨d,.fieldAddr T x fi,T',ps,af,gd⟩){hF:dJ P T fi off}{i0:Nat}(hw:Wt n l f gd)(hx:EV n f x (.pointer (some ⟨k,i0,some 0⟩)))(hn:dP x (dE l ⟨d,.fieldAddr T x fi,T',ps,af,gd⟩)=true)
   (h:DC P n l tb aO H0 F0 K todo fl (put f d (.pointer (some ⟨k,i0,some off⟩))) cs):DC P n l tb aO H0 F0 K (i::todo) fl f cs:=agN (hF:=hF) ho hw hx hn (by simpa using h)
theorem Hi{_:bz R}{xs:List α}(ho:l[i]?=some ⟨d,.indexAddr T x y,T',ps,af,gd⟩){hT:iN P T E}{hs:dK P E s b zv}(hw:Wt n l f gd)(hx:EV n f x v)(hy:EV n f y (.int kk q))(lg:dP x (dE l ⟨d,.indexAddr T x y,T',ps,af,gd⟩)=true)
   (hyn:dP y (dE l ⟨d,.indexAddr T x y,T',ps,af,gd⟩)=true) (hm:Mem (aI (ak E R) v xs) cs) (hi:xs[q.toNat]?=some a) (h0:0<=q)
   (h:∀k j,DC P n l tb aO H0 F0 K todo fl (put f d (.pointer (some ⟨k,j,some 0⟩))) (jM E R k j a::cs)):DC P n l tb aO H0 F0 K (i::todo) fl f cs:=an7 hT.h hs.h.sz ho hw hx hy lg hyn hm h0 hi h
theorem Hl{_:bz R}(ho:l[i]?=some ⟨d,.load T x,T',ps,af,gd⟩){hA:d_ P T false}(hw:Wt n l f gd)(hx:EV n f x (.pointer (some ⟨k,j,some off⟩)))(lg:dP x (dE l ⟨d,.load T x,T',ps,af,gd⟩)=true)(hm:Mem (jM E R k j a) cs)
   (hop:∀H e,R H e a->e.cells.toList[off]?=some v) (h:DC P n l tb aO H0 F0 K todo fl (put f d v) cs):DC P n l tb aO H0 F0 K (i::todo) fl f cs:=an8 hA.h ho hw hx lg hm hop h
theorem Hv{_:bz R}{β:Type}{R':aB->Value->β->Prop}{m:bz R'}{qa:β}(ho:l[i]?=some ⟨d,.load T x,T',ps,af,gd⟩){hA:d_ P T false}(hw:Wt n l f gd)(hx:EV n f x (.pointer (some ⟨k,j,some off⟩)))(lg:dP x (dE l ⟨d,.load T x,T',ps,af,gd⟩)=true)
   (hm:Mem (jM E R k j a) cs) (hop:∀H e,R H e a-> ∃w:Sv,e.cells.toList[off]?=some w.v/\R' H w.v qa) (h:∀w:Sv,DC P n l tb aO H0 F0 K todo fl (put f d w.v) (aI R' w.v qa::cs)):DC P n l tb aO H0 F0 K (i::todo) fl f cs:=afh hA.h ho hw hx lg hm hop h
theorem Ha{_:bz R}{ul:ι->List Value}{cc cs':ι->List ay}(ho:l[i]?=some ⟨d,.load T x,T',ps,af,gd⟩){hA:d_ P T true}{ht:dK P T s b zv}(h0:Nat.blt 0 s=true)(hw:Wt n l f gd)(hx:EV n f x (.pointer (some ⟨k,j,some off⟩)))
   (lg:dP x (dE l ⟨d,.load T x,T',ps,af,gd⟩)=true) (hm:Mem (jM E R k j a) cs) (hop:∀H e,R H e a-> ∃i,off+s<=e.cells.size/\(e.cells.toList.drop off).take s=ul i/\ ∀c∈cc i,c.P H/\c.F=[]) (ha:∀i,Ap (cc i) cs (cs' i))
   (h:∀i,DC P n l tb aO H0 F0 K todo fl (put f d (.agg (ul i).toArray)) (cs' i)):DC P n l tb aO H0 F0 K (i::todo) fl f cs:=afi ul hA.h ht.h.sz h0 ho hw hx lg hm hop (fun i=>(ha i).toApp) h
theorem aFL{TB:TypeId}(ho:l[i]?=some ⟨d,.load T x,T',ps,af,gd⟩){hA:d_ P T false}(hw:Wt n l f gd)(hx:EV n f x (.pointer (some ⟨k,0,some j⟩)))(hn:dP x (dE l ⟨d,.load T x,T',ps,af,gd⟩)=true)(hm:Mem (fT k ⟨[e],TB,true,true⟩) cs)(hv:e.cells.toList[j]?=some v)
   (h:DC P n l tb aO H0 F0 K todo ((i,[k])::fl) (put f d v) cs):DC P n l tb aO H0 F0 K (i::todo) fl f cs:=dF ho hw hm (fun ha hp=>gy hA.h (EN ha hx hn) hp.2 rfl hv) h
theorem aFM{TB:TypeId}{le:List Value}(ho:l[i]?=some ⟨d,.load T x,T',ps,af,gd⟩){hA:d_ P T true}{ht:dK P T s b zv}(hw:Wt n l f gd)(hx:EV n f x (.pointer (some ⟨k,0,some 0⟩)))(hn:dP x (dE l ⟨d,.load T x,T',ps,af,gd⟩)=true)(hm:Mem (fT k ⟨[.agg le.toArray],TB,true,true⟩) cs)(h0:Nat.blt 0 s=true)(hl:le.length=s)
   (h:DC P n l tb aO H0 F0 K todo ((i,[k])::fl) (put f d (.agg le.toArray)) cs):DC P n l tb aO H0 F0 K (i::todo) fl f cs:=dF ho hw hm (fun ha hp=>lm hA.h ht.h.sz h0 (EN ha hx hn) hp.2 hl) h
theorem HnW(ho:l[i]?=some ⟨d,.alloc T,T',ps,af,gd⟩){ht:dK P T s b zv}(hw:Wt n l f gd)(hv:zv.cells.size=s)(hc:um zv=true)(h:∀k,DC P n l tb aO H0 F0 K todo ((i,[k])::fl) (put f d (.pointer (some ⟨k,0,some 0⟩))) (fT k ⟨[zv],T,true,true⟩::cs)):
   DC P n l tb aO H0 F0 K (i::todo) fl f cs:=jw ho hw rfl (fun ha=>vW (g:=true) ht.h hv hc) h
theorem Hs{lc Ot ws:List Value}(ho:l[i]?=some ⟨d,.store T x y,T',ps,af,gd⟩){ht:dK P T s b zv}(hA:aO.any (Nat.beq i)=true)(hw:Wt n l f gd)(hx:EV n f x (.pointer (some ⟨k,0,some j⟩)))(hy:EV n f y v)(hn:dP x (dE l ⟨d,.store T x y,T',ps,af,gd⟩)=true)(hmm:dP y (dE l ⟨d,.store T x y,T',ps,af,gd⟩)=true)
   (hm:dU cs (aW k TB (.agg lc.toArray)) rest) (hw1:v.cells.toList=ws) (hst:St lc j ws Ot) (hv:v.cells.size=s) (hsc:v.cells.toList.all scal=true) (h0:Nat.blt 0 s=true) (hj:Nat.ble (j+s) lc.length=true) (hfl:iF tb i rest fl)
   (h:DC P n l tb aO H0 F0 K todo fl (put f d undef) (aW k TB (.agg Ot.toArray)::rest)):DC P n l tb aO H0 F0 K (i::todo) fl f cs:=
 dx (c1:=fun _:Unit=>aW k TB (.agg Ot.toArray)) hA ho hw (.cons hm .nil) hfl (fun ha=>iO ht.h.sz (EN ha hx hn) (EN ha hy hmm) hv hsc h0 (by simpa[Value.cells]using hj) (by rw[hw1]; simp[lW,hst.eq])) (fun _=>h)
inductive Sb:List Value->Nat->Nat->List Value->Prop
 |nil {l:List Value}:Sb l 0 0 []
 |take {a:Value} {l o:List Value} {n:Nat} (h:Sb l 0 n o):Sb (a::l) 0 (n+1) (a::o)
 |skip {a:Value} {l o:List Value} {j n:Nat} (h:Sb l j n o):Sb (a::l) (j+1) n o
theorem Sb.eq{l o:List Value}{j n:Nat}(h:Sb l j n o):j+n<=l.length/\(l.drop j).take n=o:=by
 induction h with
 |nil=>simp
 | @take a l o n _ ih=>obtain⟨h1,h2⟩:=ih; refine⟨by simp only[agr]; omega,by simpa using h2⟩
 | @skip a l o j n _ ih=>obtain⟨h1,h2⟩:=ih; refine⟨by simp only[agr]; omega,by simpa using h2⟩
theorem aFN{TB:TypeId}{lc out:List Value} [hA:d_ P T true] [ht:dK P T s b zv](h0:Nat.blt 0 s=true)(hx:EV n f x (.pointer (some ⟨k,0,some j⟩)))(hm:Mem (pR k ⟨[.agg lc.toArray],TB,true,false⟩) cs)(hs:Sb lc j s out)
   (h:aR P n H0 F0 A r (put f d (.agg out.toArray)) cs K):aR P n H0 F0 A (⟨d,.load T x,T',ps,af,none⟩::r) f cs K:=
 gM hm (fun hp=>pO hA.h ht.h.sz hx hp.2 rfl (by simpa[aRg]using h0) (by simpa[Value.cells]using hs.eq.1) (by simpa[Value.cells]using hs.eq.2)) h
theorem aFO{TB:TypeId}{lc out:List Value} [hA:d_ P T true] [ht:dK P T s b zv](h0:Nat.blt 0 s=true)(hx:EV n f x (.pointer (some ⟨k,0,some j⟩)))(hm:Mem (fT k ⟨[.agg lc.toArray],TB,true,true⟩) cs)(hs:Sb lc j s out)
   (h:aR P n H0 F0 A r (put f d (.agg out.toArray)) cs K):aR P n H0 F0 A (⟨d,.load T x,T',ps,af,none⟩::r) f cs K:=
 gM hm (fun hp=>pO hA.h ht.h.sz hx hp.2 rfl (by simpa[aRg]using h0) (by simpa[Value.cells]using hs.eq.1) (by simpa[Value.cells]using hs.eq.2)) h
theorem aFP{TB:TypeId}{lc out:List Value}(ho:l[i]?=some ⟨d,.load T x,T',ps,af,gd⟩){hA:d_ P T true}{ht:dK P T s b zv}(hw:Wt n l f gd)(hx:EV n f x (.pointer (some ⟨k,0,some j⟩)))(hn:dP x (dE l ⟨d,.load T x,T',ps,af,gd⟩)=true)
   (hm:Mem (pR k ⟨[.agg lc.toArray],TB,true,false⟩) cs) (h0:Nat.blt 0 s=true) (hs:Sb lc j s out) (h:DC P n l tb aO H0 F0 K todo fl (put f d (.agg out.toArray)) cs):DC P n l tb aO H0 F0 K (i::todo) fl f cs:=
 Ar ho hw hm rfl (fun ha hp=>pO hA.h ht.h.sz (EN ha hx hn) hp.2 rfl (by simpa[aRg]using h0) (by simpa[Value.cells]using hs.eq.1) (by simpa[Value.cells]using hs.eq.2)) h
theorem aFQ{TB:TypeId}{lc out:List Value}(ho:l[i]?=some ⟨d,.load T x,T',ps,af,gd⟩){hA:d_ P T true}{ht:dK P T s b zv}(hw:Wt n l f gd)(hx:EV n f x (.pointer (some ⟨k,0,some j⟩)))(hn:dP x (dE l ⟨d,.load T x,T',ps,af,gd⟩)=true)
   (hm:Mem (fT k ⟨[.agg lc.toArray],TB,true,true⟩) cs) (h0:Nat.blt 0 s=true) (hs:Sb lc j s out) (h:DC P n l tb aO H0 F0 K todo ((i,[k])::fl) (put f d (.agg out.toArray)) cs):DC P n l tb aO H0 F0 K (i::todo) fl f cs:=
 dF ho hw hm (fun ha hp=>pO hA.h ht.h.sz (EN ha hx hn) hp.2 rfl (by simpa[aRg]using h0) (by simpa[Value.cells]using hs.eq.1) (by simpa[Value.cells]using hs.eq.2)) h
theorem aCb{Ro:b_ α}{_:bS Ro}{F:List Nat}{xs:List α}{ts:List TypeId}(ho:l[i]?=some ⟨d,.call ⟨.builtin .len,[x].toArray,(T::ts).toArray⟩,T',ps,af,gd⟩){hT:iN P T E}(hw:Wt n l f gd)
   (hx:EV n f x v) (hn:dP x (dE l ⟨d,.call ⟨.builtin .len,[x].toArray,(T::ts).toArray⟩,T',ps,af,gd⟩)=true) (hm:Mem (ah (aa E Ro) F v xs) cs)
   (h:DC P n l tb aO H0 F0 K todo ((i,F)::fl) (put f d (.int .i64 xs.length)) cs):DC P n l tb aO H0 F0 K (i::todo) fl f cs:=dF ho hw hm (fun ha hp=>tK hT.h (EN ha hx hn) (wY hp)) h
theorem Hex{l0:List Value}{j:Nat}(ho:l[i]?=some ⟨d,.extract x j,T',ps,af,gd⟩)(hw:Wt n l f gd)(hx:EV n f x (.tuple l0.toArray))(hn:dP x (dE l ⟨d,.extract x j,T',ps,af,gd⟩)=true)(hi:l0[j]?=some v)
   (h:DC P n l tb aO H0 F0 K todo fl (put f d v) cs):DC P n l tb aO H0 F0 K (i::todo) fl f cs:=dw ho hw (fun ha=>tC (EN ha hx hn) hi) h
theorem gcl{first cap:List Value}{xs:List Operand}{ts:Array TypeId}(hx:EV n f x (.func (.func g) first.toArray cap.toArray))(k:EV n f x (.func (.func g) first.toArray cap.toArray)->aR P n H0 F0 A (⟨d,.call ⟨.value x,xs.toArray,ts⟩,T,ps,af,none⟩::r) f cs K):
   aR P n H0 F0 A (⟨d,.call ⟨.value x,xs.toArray,ts⟩,T,ps,af,none⟩::r) f cs K:=k hx
theorem Gcc{Tg:Prop}{first cap args vs:List Value}{xs:List Operand}{ts:Array TypeId}{post cs':ι->List ay}{hg:CF P g} [hsp:dz P g Tg](hs:Tg->Spec P g args pre val post)(hx:EV n f x (.func (.func g) first.toArray cap.toArray))(he:fE n f xs vs)(ee:args=first++vs++cap)(hl:ky cs pre rest)(ha:∀x,Ap (post x) rest (cs' x))
   (h:∀x,aR P n H0 F0 A r (put f d (val x)) (cs' x) K):aR P n H0 F0 A (⟨d,.call ⟨.value x,xs.toArray,ts⟩,T,ps,af,none⟩::r) f cs K:=
 fun H hc=>uL (pre:=pre) (rest:=rest) (cs:=pre++rest) (selApp pre rest) (ZQ hg hx he (ee ▸ hs hsp.h)) (fun x=>(ha x).toApp) h H (Ctx.selN hl (A:=[]) hc)
theorem aFR{Tg:Prop}{first cap args vs:List Value}{xs:List Operand}{ts:Array TypeId}{post cs':ι->List ay}{base cl rest':List ay}{hg:CF P g} [hsp:dz P g Tg](hs:Tg->Spec P g args base val post)(hx:EV n f x (.func (.func g) first.toArray cap.toArray))(he:fE n f xs vs)(ee:args=first++vs++cap)
   (hl:mK cs base cl pre rest) (hal:∀x,qm (post x)) (hb:Ap cl rest rest') (ha:∀x,Ap (post x) rest' (cs' x))
   (h:∀x,aR P n H0 F0 A r (put f d (val x)) (cs' x) K):aR P n H0 F0 A (⟨d,.call ⟨.value x,xs.toArray,ts⟩,T,ps,af,none⟩::r) f cs K:=by
 intro H hc
 obtain⟨b',h1,h2⟩:=hl.cO
 refine uL (pre:=cl++pre) (rest:=rest) (cs:=(cl++pre)++rest) (post:=fun x=>cl++post x) (cs':=fun x=>(cl++post x)++rest) (selApp _ _) (qQ h1 hal (SX h2 (ZQ hg hx he (ee ▸ hs hsp.h)))) (fun x=>dS) (fun x=>?_) H (Ctx.selZ hl (A:=[]) hc)
 intro H hc
 refine h x H (hc.perm ?_)
 rw[(ha x).eq,hb.eq,←aQY]
 exact List.perm_append_comm.append_right rest
theorem zIx{β γ:Type}{l:List β}{i:Int}{f:β->Option γ}{R:γ}{G:Prop}(hF:(ix l i).bind f=some R)(k:∀x,0<=i->l[i.toNat]?=some x->f x=some R->G):G:=by
 obtain⟨x,h,e⟩:=Option.bind_eq_some_iff.1 hF
 obtain⟨h1,h2⟩:=kU h
 exact k x h1 h2 e
theorem AY{β γ:Type}{G:Prop}{x:Option β}{g:β->Option γ}{b:γ}(h:x.bind g=some b)(k:∀a,x=some a->g a=some b->G):G:=bnd h k
end
section
variable{P:Program} [bF P]{n:Nat}{f:Fr}{H0:aB}{F0:List Nat}{cs pre rest kept:List ay}{x y z:Operand}{v u:Value}{A:Array Oper}{r:List Oper}{K:Fr->List ay->Prop}{d:Option Tmp}{T T' T2 E:TypeId}{ps:String}{af:Array Edge}
variable{l:List Oper}{tb aO todo:List Nat}{fl:List (Nat×List Nat)}{ι α:Type}{R:aB->Value->α->Prop}{Ro:b_ α}{a:α}{s b:Nat}{zv:Value}{c1 c2:Code}{Q:Exit->Fr->List ay->Prop}
theorem Gbs{by' len:Nat}{parts:List (Nat×Operand)}{vs:List Value}{F:List Nat}(Ro:b_ α) [bS Ro](xs:List α) [hT:iN P T E] [ht:dK P E s by' zv](h:Kh Ro F vs xs pre)(k:∀k,aR P n H0 F0 A r (put f d (.slice (some ⟨k,0,none⟩) len 1)) (ah (aa E Ro) (k::F) (.slice (some ⟨k,0,none⟩) len 1) xs::rest) K)
   (hxs:fE n f (parts.map (·.2)) vs:=by exact yQ) (hidx:parts.map (·.1)=List.range' 0 parts.length:=by rfl) (hlen:len=parts.length:=by rfl) (hbig:Nat.ble (len*s) (2 ^ 24)=true:=by rfl)
   (hv:vs.all (fun v=>Nat.beq v.cells.size s)=true:=by rfl) (hs:ky cs pre rest:=by exact selN) (hl:xs.length=len:=by rfl) (hb:Nat.blt len 4611686018427387904=true:=by rfl):
   aR P n H0 F0 A (⟨d,.buildSlice T len parts.toArray,T',ps,af,none⟩::r) f cs K:=
 lJ rfl (gq (g:=true) hT.h ht.h hxs hidx hlen hbig (fun v hm=>by simpa using List.all_eq_true.1 hv v hm)) fun q=>fun H hc=>by
   have h1:Ctx H0 F0 H ([fT q ⟨vs,E,true,true⟩]++(pre++rest)):=Ctx.selN hs (A:=[fT q ⟨vs,E,true,true⟩]) hc
   exact S_ (pre:=fT q ⟨vs,E,true,true⟩::pre) (rest:=rest) (cs:=(fT q ⟨vs,E,true,true⟩::pre)++rest) (selApp _ _) (gu h hl hb) dS (k q) H h1
theorem Hbs{i:Nat}{gd:Option (Nat×Bool)}{by' len:Nat}{parts:List (Nat×Operand)}{vs:List Value}{F:List Nat}(Ro:b_ α) [bS Ro](xs:List α)(h:Kh Ro F vs xs pre)
   (k:∀k,DC P n l tb aO H0 F0 K todo ((i,[k])::fl) (put f d (.slice (some ⟨k,0,none⟩) len 1)) (ah (aa E Ro) (k::F) (.slice (some ⟨k,0,none⟩) len 1) xs::rest))
   (ho:l[i]?=some ⟨d,.buildSlice T len parts.toArray,T',ps,af,gd⟩:=by exact rfl) (hT:iN P T E:=by infer_instance) (ht:dK P E s by' zv:=by infer_instance) (hw:Wt n l f gd:=by exact eD)
   (hxs:fE n f (parts.map (·.2)) vs:=by exact yQ) (hn:(parts.map (·.2)).all (fun x=>dP x (dE l ⟨d,.buildSlice T len parts.toArray,T',ps,af,gd⟩))=true:=by rfl) (hidx:parts.map (·.1)=List.range' 0 parts.length:=by rfl) (hlen:len=parts.length:=by rfl) (hbig:Nat.ble (len*s) (2 ^ 24)=true:=by rfl)
   (hv:vs.all (fun v=>Nat.beq v.cells.size s)=true:=by rfl) (hs:ky cs pre rest:=by exact selN) (hl:xs.length=len:=by rfl) (hb:Nat.blt len 4611686018427387904=true:=by rfl):
   DC P n l tb aO H0 F0 K (i::todo) fl f cs:=
 jw ho hw rfl (fun ha=>gq (g:=true) hT.h ht.h (Ki ha hxs hn) hidx hlen hbig (fun v hm=>by simpa using List.all_eq_true.1 hv v hm)) fun q=>fun H hc=>by
   have h1:Ctx H0 F0 H ([fT q ⟨vs,E,true,true⟩]++(pre++rest)):=Ctx.selN hs (A:=[fT q ⟨vs,E,true,true⟩]) hc
   exact anr (pre:=fT q ⟨vs,E,true,true⟩::pre) (rest:=rest) (cs:=(fT q ⟨vs,E,true,true⟩::pre)++rest) (selApp _ _) (gu h hl hb) dS (k q) H h1
theorem ng{α:Type}{Ro:b_ α}{F:List Nat}{e e':Value}{a a':α}{pre:List ay}(m:Mk Ro F e' a' pre)(ha:a'=a)(he:e'=e):Mk Ro F e a pre:=by subst ha; subst he; exact m
theorem ky.app{cs p cs1 q rest:List ay}(h:ky cs p cs1)(g:ky cs1 q rest):ky cs (p++q) rest:=by
 induction h with
 |nil=>exact g
 |cons h _ ih=>exact .cons h (ih g)
 |rd h hf _ ih=>exact .rd h hf (ih g)
 |mk h _ ih=>exact .mk h (ih g)
def MS{α:Type}(Ro:b_ α)(cs rest:List ay)(F:List Nat)(vs:List Value)(xs:List α):Prop:=∃pre,Kh Ro F vs xs pre/\ky cs pre rest
theorem msN{α:Type}{Ro:b_ α}{cs:List ay}:MS Ro cs cs [] [] []:=⟨[],fU,.nil⟩
theorem amU:∀(p q:List ay),rF p q (p++q)
 |[],_=>.nil
 |_::p,q=>.cons (amU p q)
theorem lS{α:Type}{Ro:b_ α}{cs cs1 rest p:List ay}{F G:List Nat}{e:Value}{a:α}{es:List Value}{xs:List α}(m:Mk Ro F e a p)(hs:ky cs p cs1)(t:MS Ro cs1 rest G es xs):MS Ro cs rest (F++G) (e::es) (a::xs):=by
 obtain⟨q,h1,h2⟩:=t
 exact⟨p++q,iV m h1 (amU p q),hs.app h2⟩
class GK(E:TypeId)(α:outParam Type)(Ro:outParam (b_ α)):Prop where h:bS Ro
theorem Gb{by' len:Nat}{parts:List (Nat×Operand)}{vs:List Value}{F:List Nat}(Ro:b_ α) [bS Ro](xs:List α) [hT:iN P T E] [ht:dK P E s by' zv](hxs:fE n f (parts.map (·.2)) vs:=by exact yQ)(h:MS Ro cs rest F vs xs:=by exact kC)
   (hidx:parts.map (·.1)=List.range' 0 parts.length:=by rfl) (hlen:len=parts.length:=by rfl) (hbig:Nat.ble (len*s) (2 ^ 24)=true:=by rfl) (hv:vs.all (fun v=>Nat.beq v.cells.size s)=true:=by rfl) (hl:xs.length=len:=by rfl) (hb:Nat.blt len 4611686018427387904=true:=by rfl)
   (k:∀k,aR P n H0 F0 A r (put f d (.slice (some ⟨k,0,none⟩) len 1)) (ah (aa E Ro) (k::F) (.slice (some ⟨k,0,none⟩) len 1) xs::rest) K:=by (intro _; refine' go; all_goals (rcases (_:_)with h; exact h))):
   aR P n H0 F0 A (⟨d,.buildSlice T len parts.toArray,T',ps,af,none⟩::r) f cs K:=by
 obtain⟨pre,h1,h2⟩:=h
 exact Gbs Ro xs h1 k hxs hidx hlen hbig hv h2 hl hb
theorem Hb{i by' len:Nat}{gd:Option (Nat×Bool)}{parts:List (Nat×Operand)}{vs:List Value}{F:List Nat}(Ro:b_ α) [bS Ro](xs:List α)(ho:l[i]?=some ⟨d,.buildSlice T len parts.toArray,T',ps,af,gd⟩:=by exact rfl)(hT:iN P T E:=by infer_instance)(ht:dK P E s by' zv:=by infer_instance)(hw:Wt n l f gd:=by exact eD)
   (hxs:fE n f (parts.map (·.2)) vs:=by exact yQ) (hn:(parts.map (·.2)).all (fun x=>dP x (dE l ⟨d,.buildSlice T len parts.toArray,T',ps,af,gd⟩))=true:=by rfl) (h:MS Ro cs rest F vs xs:=by exact kC)
   (hidx:parts.map (·.1)=List.range' 0 parts.length:=by rfl) (hlen:len=parts.length:=by rfl) (hbig:Nat.ble (len*s) (2 ^ 24)=true:=by rfl) (hv:vs.all (fun v=>Nat.beq v.cells.size s)=true:=by rfl) (hl:xs.length=len:=by rfl) (hb:Nat.blt len 4611686018427387904=true:=by rfl)
   (k:∀k,DC P n l tb aO H0 F0 K todo ((i,[k])::fl) (put f d (.slice (some ⟨k,0,none⟩) len 1)) (ah (aa E Ro) (k::F) (.slice (some ⟨k,0,none⟩) len 1) xs::rest):=by (intro _; refine' go; all_goals (rcases (_:_)with h; exact h))):
   DC P n l tb aO H0 F0 K (i::todo) fl f cs:=by
 obtain⟨pre,h1,h2⟩:=h
 exact Hbs Ro xs h1 k ho hT ht hw hxs hn hidx hlen hbig hv h2 hl hb
theorem GbE{by':Nat}{Ro:b_ α}{hkp:bS Ro} [hT:iN P T E] [hd:GK E α Ro] [ht:dK P E s by' zv](k:∀k,aR P n H0 F0 A r (put f d (.slice (some ⟨k,0,none⟩) 0 1)) (ah (aa E Ro) [k] (.slice (some ⟨k,0,none⟩) 0 1) []::cs) K):
   aR P n H0 F0 A (⟨d,.buildSlice T 0 (List.toArray []),T',ps,af,none⟩::r) f cs K:=Gbs (parts:=[]) (pre:=[]) (rest:=cs) Ro [] fU k fE.nil rfl rfl (by simp) rfl .nil rfl rfl
theorem HbE{i by':Nat}{gd:Option (Nat×Bool)}{Ro:b_ α}{hkp:bS Ro}(ho:l[i]?=some ⟨d,.buildSlice T 0 (List.toArray []),T',ps,af,gd⟩){hT:iN P T E}{hd:GK E α Ro}{ht:dK P E s by' zv}(hw:Wt n l f gd)
   (k:∀k,DC P n l tb aO H0 F0 K todo ((i,[k])::fl) (put f d (.slice (some ⟨k,0,none⟩) 0 1)) (ah (aa E Ro) [k] (.slice (some ⟨k,0,none⟩) 0 1) []::cs)):
   DC P n l tb aO H0 F0 K (i::todo) fl f cs:=Hbs (parts:=[]) (pre:=[]) (rest:=cs) Ro [] fU k ho hT ht hw fE.nil rfl rfl rfl (by simp) rfl .nil rfl rfl
theorem GbA{by' len:Nat}{β:Type}{xs ys:List α}{g:List α->Option β}{R0:β}{Ro:b_ α}{hkp:bS Ro}{F F':List Nat}{v':Value}{parts:List (Nat×Operand)}{vs:List Value}{hT:iN P T E}{ht:dK P E s by' zv}(hF:(app ys xs).bind g=some R0)
   (hm:Mem (ah (aa E Ro) F' v' ys) cs) (hxs:fE n f (parts.map (·.2)) vs) (h:MS Ro cs rest F vs xs) (hidx:parts.map (·.1)=List.range' 0 parts.length) (hlen:len=parts.length) (hbig:Nat.ble (len*s) (2 ^ 24)=true)
   (hv:vs.all (fun v=>Nat.beq v.cells.size s)=true) (hl:xs.length=len) (hb:Nat.blt len 4611686018427387904=true)
   (k:∀k,aR P n H0 F0 A r (put f d (.slice (some ⟨k,0,none⟩) len 1)) (ah (aa E Ro) (k::F) (.slice (some ⟨k,0,none⟩) len 1) xs::rest) K):
   aR P n H0 F0 A (⟨d,.buildSlice T len parts.toArray,T',ps,af,none⟩::r) f cs K:=by
 obtain⟨pre,h1,h2⟩:=h
 exact Gbs Ro xs h1 k hxs hidx hlen hbig hv h2 hl hb
theorem HbA{i by' len:Nat}{gd:Option (Nat×Bool)}{β:Type}{xs ys:List α}{g:List α->Option β}{R0:β}{Ro:b_ α}{hkp:bS Ro}{F F':List Nat}{v':Value}{parts:List (Nat×Operand)}{vs:List Value}(ho:l[i]?=some ⟨d,.buildSlice T len parts.toArray,T',ps,af,gd⟩)
   {hT:iN P T E} {ht:dK P E s by' zv} (hF:(app ys xs).bind g=some R0) (hw:Wt n l f gd) (hm:Mem (ah (aa E Ro) F' v' ys) cs) (hxs:fE n f (parts.map (·.2)) vs) (hn:(parts.map (·.2)).all (fun x=>dP x (dE l ⟨d,.buildSlice T len parts.toArray,T',ps,af,gd⟩))=true)
   (h:MS Ro cs rest F vs xs) (hidx:parts.map (·.1)=List.range' 0 parts.length) (hlen:len=parts.length) (hbig:Nat.ble (len*s) (2 ^ 24)=true) (hv:vs.all (fun v=>Nat.beq v.cells.size s)=true) (hl:xs.length=len) (hb:Nat.blt len 4611686018427387904=true)
   (k:∀k,DC P n l tb aO H0 F0 K todo ((i,[k])::fl) (put f d (.slice (some ⟨k,0,none⟩) len 1)) (ah (aa E Ro) (k::F) (.slice (some ⟨k,0,none⟩) len 1) xs::rest)):
   DC P n l tb aO H0 F0 K (i::todo) fl f cs:=by
 obtain⟨pre,h1,h2⟩:=h
 exact Hbs Ro xs h1 k ho hT ht hw hxs hn hidx hlen hbig hv h2 hl hb
end
end Go.Fw
/-
 The driver's rules for strings.  No conditions.
-/
set_option linter.unusedVariables false
namespace Go.Fw
open Go
class IST(P:Program) [bF P](T:TypeId):Prop where h:ST P T
section
variable{P:Program} [bF P]{n:Nat}{f:Fr}{H0:aB}{F0:List Nat}{cs:List ay}{x y z:Operand}{A:Array Oper}{r:List Oper}{K:Fr->List ay->Prop}{d:Option Tmp}{T T' T2:TypeId}{ps:String}{af:Array Edge}
variable{l:List Oper}{tb aO todo:List Nat}{fl:List (Nat×List Nat)}{i:Nat}{gd:Option (Nat×Bool)}{kk k2:IntKind}{q q2:Int}{s t:List UInt8}
end
end Go.Fw
/-
 The driver's script.  No conditions.
-/
set_option linter.unusedVariables false
set_option maxRecDepth 100000
namespace Go.Fw
open Go
class ug(P:Program) [bF P](T:TypeId):Prop where h:oH P T
section
variable{P:Program} [bF P]{n:Nat}{f:Fr}{H0:aB}{F0:List Nat}{cs pre rest base cl:List ay}{c1 c2 c3:Code}{Q:Exit->Fr->List ay->Prop}{x:Operand}
theorem aCc(h:CW P n H0 F0 (.cond x c1 c2) (jB (fun f cs=>CW P n H0 F0 c3 Q f cs) Q) f cs):CW P n H0 F0 (.seq (.cond x c1 c2) c3) Q f cs:=dZ h
theorem aCd(h:CW P n H0 F0 (.loop c1) (jB (fun f cs=>CW P n H0 F0 c3 Q f cs) Q) f cs):CW P n H0 F0 (.seq (.loop c1) c3) Q f cs:=dZ h
theorem ap3{ι:Type}{rs:List ResultVar}{val:ι->Value}{post:ι->List ay}(h:∃x,∃vs,mJ P n f cs rs vs/\qX vs=val x/\bL cs (post x)):Du P n rs val post .ret f cs:=h
theorem aFS{ι:Type}{rs:List ResultVar}{val:ι->Value}{post:ι->List ay}(h:∃x,∃vs,mJ P n f cs rs vs/\qX vs=val x/\bL cs (post x)):Du P n rs val post .normal f cs:=h
theorem cz{A:Array Oper}{l:List Oper}{K:Fr->List ay->Prop}(h:aR P n H0 F0 A l f cs K):aR P n H0 F0 A l f cs K:=h
theorem atW{o:Option Value}{v:Value}(h:o=some v:=by first|exact AX|exact (rfl:_=some (Value.agg _))|fail):o=some v:=h
theorem Dx{rs:List ResultVar}{vs:List Value}(h:mJ P n f cs rs vs:=by
   first
   |exact mJ.nil
   |((with_reducible refine' mJ.tmp ?fO ?il ?fo); (case fO=>exact rfl); (case il=>exact rfl); (case fo=>exact Dx))
   |((with_reducible refine' mJ.lZ ?fO ?il ?agQ ?agR d_.h (TY.sz dK.h) ?agS ?aFT ?fo); (case fO=>exact rfl); (case il=>exact rfl); (case agQ=>exact bQ); (case agR=>exact rfl); (case agS=>exact rfl); (case aFT=>exact rfl); (case fo=>exact Dx))
   |((with_reducible refine' mJ.cellS ?fO ?il ?agQ ?agR d_.h ?agS ?fo); (case fO=>exact rfl); (case il=>exact rfl); (case agQ=>exact bQ); (case agR=>exact rfl); (case agS=>exact rfl); (case fo=>exact Dx))
   |fail):mJ P n f cs rs vs:=h
theorem nnA{ρ:Type}{o:ρ}{G:Prop}(h:none=some o):G:=by cases h
theorem jqI{ρ β:Type}{p:Prop}{_:Decidable p}{a b:Option β}{k:β->Option ρ}{R:ρ}(h:(if p then a else b).bind k=some R):True:=aSq
theorem jqB{ρ β:Type}{p:Bool}{a b:Option β}{k:β->Option ρ}{R:ρ}(h:(bif p then a else b).bind k=some R):True:=aSq
theorem jqC{ρ β γ:Type}{a:Option γ}{b:γ->Option β}{k:β->Option ρ}{R:ρ}(h:(a.bind b).bind k=some R):True:=aSq
theorem F7{β:Type}{p:Sv×β->Prop}(h:∃a n m,∃b,p (⟨a,n,m⟩,b)):∃x,p x:=let ⟨a,n,m,b,h⟩:=h; ⟨(⟨a,n,m⟩,b),h⟩
theorem aCe{id:Nat}(h:CW P n H0 F0 (.block id c1) (jB (fun f cs=>CW P n H0 F0 c2 Q f cs) Q) f cs):CW P n H0 F0 (.seq (.block id c1) c2) Q f cs:=dZ h
theorem aCf(h:CW P n H0 F0 (.seq c1 c2) (jB (fun f cs=>CW P n H0 F0 c3 Q f cs) Q) f cs):CW P n H0 F0 (.seq (.seq c1 c2) c3) Q f cs:=dZ h
def aCg(o:Op):Bool:=match o with
 | .store ..=>true
 | .call c=>match c.callee with
   | .builtin b=>match b with| .append=>true| .copy=>true|_=>false
   |_=>true
 |_=>false
def upto:Nat->Nat->List Nat
 |_,0=>[]
 |i,m+1=>i::upto (i+1) m
def aag(l:List Oper):List Nat:=(l.zipIdx.filter fun p=>aCg p.1.op).map (·.2)
def aap(l:List Oper):List Nat:=l.foldl (fun tb o=>tb++[aab tb (mZ o)]) []
theorem KA{id:Nat}{l:List Oper}(h:DC P n l (aap l) (aag l) H0 F0 (fun f' cs'=>CW P n H0 F0 c2 Q f' cs') (upto 0 l.length) [] f cs)(hd:(P.follows .mixedOrders&&ND l (aap l) (aag l) (upto 0 l.length))=true):CW P n H0 F0 (.seq (.region id l.toArray true) c2) Q f cs:=by
 rw[age]at hd
 exact iQ _ _ _ hd.1 hd.2 h
theorem CA{id:Nat}{l:List Oper}(h:DC P n l (aap l) (aag l) H0 F0 (fun f' cs'=>Q .normal f' cs') (upto 0 l.length) [] f cs)(hd:(P.follows .mixedOrders&&ND l (aap l) (aag l) (upto 0 l.length))=true):CW P n H0 F0 (.region id l.toArray true) Q f cs:=by
 rw[age]at hd
 exact qP _ _ _ hd.1 hd.2 h
theorem allA{l:List ay}(h:qm l:=by first|((repeat (first|exact qm.nil|refine' qm.cons ?_)); done)|fail):qm l:=h
theorem aCh{α:Type}{Ro:b_ α}{R':aB->Value->α->Prop}{_:bS Ro}{_:j4 Ro}{_:bz R'}{_:jS Ro R'}{_:Local Ro}{F:List Nat}{v:Value}{a:α}{l l1 b p r:List ay}(h:dU l (ah Ro F v a) l1)(t:mK l1 b cl p r):
   mK l (aI R' v a::b) (ah Ro F v a::cl) p r:=@mK.abn _ _ _ _ _ _ _ _ inferInstance h aX t
theorem aCi{k:Nat}{es:List Value}{T:TypeId}{o:Bool}{l l1 b p r:List ay}(h:dU l (fT k ⟨es,T,o,true⟩) l1)(t:mK l1 b cl p r):mK l (pR k ⟨es,T,o,false⟩::b) (fT k ⟨es,T,o,true⟩::cl) p r:=@mK.abn _ _ _ _ _ _ _ _ inferInstance h amC t
theorem selZ{l b p r:List ay}(h:mK l b cl p r:=by
   first
   |((repeat' (first
       |exact mK.nil
       |((with_reducible refine' mK.rd ?bP ?TG ?_); (case bP=>exact bQ); (case TG=>exact rfl))
       |((with_reducible refine' mK.cons ?bP ?_); (case bP=>exact l6))
       |((with_reducible refine' aCh ?bP ?_); (case bP=>exact l6); (all_goals (try infer_instance)))
       |((with_reducible refine' aCi ?bP ?_); (case bP=>exact l6))
       |((with_reducible refine' mK.mk ?bP ?_); (case bP=>exact cvA))
       |fail)); done)
   |fail):mK l b cl p r:=h
theorem aFU{tb:List Nat}{i j k:Nat}{b:eO}{l:List ay}{fl:List (Nat×List Nat)}(hm:Mem (fT k b) l)(t:iF tb i l fl):iF tb i l ((j,[k])::fl):=.own hm (fun _ h=>h) t
theorem aFV{α:Type}{Ro:b_ α}{_:bS Ro}{v:Value}{a:α}{tb F:List Nat}{i j:Nat}{l:List ay}{fl:List (Nat×List Nat)}(hm:Mem (ah Ro F v a) l)(t:iF tb i l fl):iF tb i l ((j,F)::fl):=.own hm (fun _ h=>h) t
theorem aFW{α:Type}{Ro:b_ α}{_:bS Ro}{v:Value}{a:α}{tb F:List Nat}{i j k:Nat}{l:List ay}{fl:List (Nat×List Nat)}(hm:Mem (ah Ro (k::F) v a) l)(t:iF tb i l fl):iF tb i l ((j,[k])::fl):=.own hm (fun q h=>by simp at h; subst h; simp[ah]) t
theorem V_{tb:List Nat}{i:Nat}{l:List ay}{fl:List (Nat×List Nat)}(h:iF tb i l fl:=by
   first|((repeat (first
     |exact iF.nil
     |((with_reducible refine' iF.aV ?ax' ?_); (case ax'=>decide+kernel))
     |((with_reducible refine' aFV ?bP ?_); (case bP=>exact bQ); (all_goals (try infer_instance)))
     |((with_reducible refine' aFW ?bP ?_); (case bP=>exact bQ); (all_goals (try infer_instance)))
     |((with_reducible refine' aFU ?bP ?_); (case bP=>exact bQ))
     |((with_reducible refine' iF.mg ?bP ?_); (case bP=>exact bQ))
     |fail)); done)|fail):iF tb i l fl:=h
theorem sbA{l o:List Value}{j n:Nat}(h:Sb l j n o:=by first|((repeat (first|exact Sb.nil|apply Sb.take|apply Sb.skip)); done)|fail):Sb l j n o:=h
theorem stA{l ws l':List Value}{j:Nat}(h:St l j ws l':=by
   first
   |((with_reducible refine' St.all ?Dw); (case Dw=>exact rfl))
   |repeat (first|exact St.nil|apply St.put|apply St.skip)):St l j ws l':=h
theorem go{G:Prop}(h:G:=by
 (repeat' first
   |(with_reducible refine' eB ?_)
   |(with_reducible refine' IC ?_)
   |(with_reducible refine' gU ?_)
   |(with_reducible refine' uo ?_)
   |(with_reducible refine' azb ?_)
   |(with_reducible refine' azc ?_)
   |(with_reducible refine' aBU ?_)
   |(with_reducible refine' aly ?_)
   |(with_reducible refine' amR ?_)
   |(with_reducible refine' Zn ?_)
   |(with_reducible refine' alk ?_)
   |(with_reducible refine' ad5 ?_)
   |(with_reducible refine' amB ?_)
   |(with_reducible refine' Z4 ?_)
   |(with_reducible refine' vz ?_)
   |(with_reducible exact nnA hF)
   |((with_reducible refine' anq ?fO ?_); (case fO=>exact rfl))
   |(with_reducible refine' aCc ?_)
   |(with_reducible refine' aCd ?_)
   |((with_reducible refine' Ci hF ?_ ?_ ?oZ); (case oZ=>exact aY); (all_goals (clear hF; intro _ hF)))
   |((with_reducible refine' mP ?_ ?oZ ?afB); (case oZ=>exact aY); (case afB=>omega))
   |((with_reducible refine' mQ ?_ ?oZ ?afB); (case oZ=>exact aY); (case afB=>omega))
   |((with_reducible refine' ap3 ?_); (cases hF); (dsimp only at hO); (cases hO); (first|((repeat (first|(with_reducible refine' rJ ?_)|(with_reducible refine' ru ?_)|((with_reducible refine' rH ?_); (apply Exists.intro)))); (first|(with_reducible refine' rM ?_)|(apply Exists.intro)); (apply Exists.intro); (refine' ⟨?yG,?yH,?kW⟩); (case yG=>exact Dx); (case yH=>first|(dsimp only; rfl)|rfl); (case kW=>exact sK))|((repeat (first|(with_reducible refine' rJ ?_)|(with_reducible refine' ru ?_)|((with_reducible refine' F7 ?_); (apply Exists.intro); (apply Exists.intro); (apply Exists.intro))|((with_reducible refine' rH ?_); (apply Exists.intro)))); (first|(with_reducible refine' rM ?_)|((with_reducible refine' GJ ?_); (apply Exists.intro); (apply Exists.intro); (apply Exists.intro))|(apply Exists.intro)); (apply Exists.intro); (refine' ⟨?yG,?yH,?kW⟩); (case yG=>exact Dx); (case yH=>first|(dsimp only; rfl)|rfl); (case kW=>exact sK))|fail))
   |((with_reducible refine' ap3 ?_); (cases hF); (first|((repeat (first|(with_reducible refine' rJ ?_)|(with_reducible refine' ru ?_)|((with_reducible refine' rH ?_); (apply Exists.intro)))); (first|(with_reducible refine' rM ?_)|(apply Exists.intro)); (apply Exists.intro); (refine' ⟨?yG,?yH,?kW⟩); (case yG=>exact Dx); (case yH=>first|(dsimp only; rfl)|rfl); (case kW=>exact sK))|((repeat (first|(with_reducible refine' rJ ?_)|(with_reducible refine' ru ?_)|((with_reducible refine' F7 ?_); (apply Exists.intro); (apply Exists.intro); (apply Exists.intro))|((with_reducible refine' rH ?_); (apply Exists.intro)))); (first|(with_reducible refine' rM ?_)|((with_reducible refine' GJ ?_); (apply Exists.intro); (apply Exists.intro); (apply Exists.intro))|(apply Exists.intro)); (apply Exists.intro); (refine' ⟨?yG,?yH,?kW⟩); (case yG=>exact Dx); (case yH=>first|(dsimp only; rfl)|rfl); (case kW=>exact sK))|fail))
   |((with_reducible refine' aFS ?_); (cases hF); (first|((repeat (first|(with_reducible refine' rJ ?_)|(with_reducible refine' ru ?_)|((with_reducible refine' rH ?_); (apply Exists.intro)))); (first|(with_reducible refine' rM ?_)|(apply Exists.intro)); (apply Exists.intro); (refine' ⟨?yG,?yH,?kW⟩); (case yG=>exact Dx); (case yH=>first|(dsimp only; rfl)|rfl); (case kW=>exact sK))|((repeat (first|(with_reducible refine' rJ ?_)|(with_reducible refine' ru ?_)|((with_reducible refine' F7 ?_); (apply Exists.intro); (apply Exists.intro); (apply Exists.intro))|((with_reducible refine' rH ?_); (apply Exists.intro)))); (first|(with_reducible refine' rM ?_)|((with_reducible refine' GJ ?_); (apply Exists.intro); (apply Exists.intro); (apply Exists.intro))|(apply Exists.intro)); (apply Exists.intro); (refine' ⟨?yG,?yH,?kW⟩); (case yG=>exact Dx); (case yH=>first|(dsimp only; rfl)|rfl); (case kW=>exact sK))|fail))
   |((with_reducible refine' bkI ?_); (try rw[wk _]); ((repeat (first|(with_reducible refine' rJ ?_)|(with_reducible refine' ru ?_)|((with_reducible refine' rH ?_); (apply Exists.intro)))); (first|(with_reducible refine' rM ?_)|(apply Exists.intro))); (refine' ⟨hF,?_⟩); (first|((repeat (first|(with_reducible refine' rJ ?_)|(with_reducible refine' ru ?_)|((with_reducible refine' rH ?_); (apply Exists.intro)))); (first|(with_reducible refine' rM ?_)|(apply Exists.intro)); (apply Exists.intro); (apply Exists.intro); (refine' ⟨?qp,?qw,?og,?kW⟩); (case qp=>exact nH); (case qw=>exact jk); (case og=>exact yR); (case kW=>exact sK))|((repeat (first|(with_reducible refine' rJ ?_)|(with_reducible refine' ru ?_)|((with_reducible refine' F7 ?_); (apply Exists.intro); (apply Exists.intro); (apply Exists.intro))|((with_reducible refine' rH ?_); (apply Exists.intro)))); (first|(with_reducible refine' rM ?_)|((with_reducible refine' GJ ?_); (apply Exists.intro); (apply Exists.intro); (apply Exists.intro))|(apply Exists.intro)); (apply Exists.intro); (apply Exists.intro); (refine' ⟨?qp,?qw,?og,?kW⟩); (case qp=>exact nH); (case qw=>exact jk); (case og=>exact yR); (case kW=>exact sK))|fail))
   |((with_reducible refine' bfI ?_); ((repeat (first|(with_reducible refine' rJ ?_)|(with_reducible refine' ru ?_)|((with_reducible refine' rH ?_); (apply Exists.intro)))); (first|(with_reducible refine' rM ?_)|(apply Exists.intro))); (refine' ⟨hF,?_⟩); (first|((repeat (first|(with_reducible refine' rJ ?_)|(with_reducible refine' ru ?_)|((with_reducible refine' rH ?_); (apply Exists.intro)))); (first|(with_reducible refine' rM ?_)|(apply Exists.intro)); (apply Exists.intro); (apply Exists.intro); (refine' ⟨?qp,?qw,?og,?kW⟩); (case qp=>exact nH); (case qw=>exact jk); (case og=>exact yR); (case kW=>exact sK))|((repeat (first|(with_reducible refine' rJ ?_)|(with_reducible refine' ru ?_)|((with_reducible refine' F7 ?_); (apply Exists.intro); (apply Exists.intro); (apply Exists.intro))|((with_reducible refine' rH ?_); (apply Exists.intro)))); (first|(with_reducible refine' rM ?_)|((with_reducible refine' GJ ?_); (apply Exists.intro); (apply Exists.intro); (apply Exists.intro))|(apply Exists.intro)); (apply Exists.intro); (apply Exists.intro); (refine' ⟨?qp,?qw,?og,?kW⟩); (case qp=>exact nH); (case qw=>exact jk); (case og=>exact yR); (case kW=>exact sK))|fail))
   |((with_reducible refine' jnI hF ?_); (first|((repeat (first|(with_reducible refine' rJ ?_)|(with_reducible refine' ru ?_)|((with_reducible refine' rH ?_); (apply Exists.intro)))); (first|(with_reducible refine' rM ?_)|(apply Exists.intro)); (apply Exists.intro); (apply Exists.intro); (refine' ⟨?qp,?qw,?og,?kW⟩); (case qp=>exact nH); (case qw=>exact jk); (case og=>exact yR); (case kW=>exact sK))|((repeat (first|(with_reducible refine' rJ ?_)|(with_reducible refine' ru ?_)|((with_reducible refine' F7 ?_); (apply Exists.intro); (apply Exists.intro); (apply Exists.intro))|((with_reducible refine' rH ?_); (apply Exists.intro)))); (first|(with_reducible refine' rM ?_)|((with_reducible refine' GJ ?_); (apply Exists.intro); (apply Exists.intro); (apply Exists.intro))|(apply Exists.intro)); (apply Exists.intro); (apply Exists.intro); (refine' ⟨?qp,?qw,?og,?kW⟩); (case qp=>exact nH); (case qw=>exact jk); (case og=>exact yR); (case kW=>exact sK))|fail))
   |((with_reducible refine' aFB hF ?_); (first|((repeat (first|(with_reducible refine' rJ ?_)|(with_reducible refine' ru ?_)|((with_reducible refine' rH ?_); (apply Exists.intro)))); (first|(with_reducible refine' rM ?_)|(apply Exists.intro)); (apply Exists.intro); (apply Exists.intro); (refine' ⟨?qp,?qw,?og,?kW⟩); (case qp=>exact nH); (case qw=>exact jk); (case og=>exact yR); (case kW=>exact sK))|((repeat (first|(with_reducible refine' rJ ?_)|(with_reducible refine' ru ?_)|((with_reducible refine' F7 ?_); (apply Exists.intro); (apply Exists.intro); (apply Exists.intro))|((with_reducible refine' rH ?_); (apply Exists.intro)))); (first|(with_reducible refine' rM ?_)|((with_reducible refine' GJ ?_); (apply Exists.intro); (apply Exists.intro); (apply Exists.intro))|(apply Exists.intro)); (apply Exists.intro); (apply Exists.intro); (refine' ⟨?qp,?qw,?og,?kW⟩); (case qp=>exact nH); (case qw=>exact jk); (case og=>exact yR); (case kW=>exact sK))|fail))
   |((fail_if_success (have:=hK)); (with_reducible refine' aCf ?_))
   |((fail_if_success (have:=hK)); (fail_if_success (with_reducible have:=jqI hF)); (fail_if_success (with_reducible have:=jqB hF)); (fail_if_success (with_reducible have:=jqC hF)); (with_reducible refine' aCe ?_))
   |((fail_if_success (have:=hD)); (first|(with_reducible refine' KA ?_ ?aou)|(with_reducible refine' CA ?_ ?aou)); (case aou=>decide+kernel); (simp only[upto,List.length,Nat.reduceAdd]))
   |((with_reducible refine' bsp hF ?_ ?_); (all_goals (clear hF; intro hc hF; rw[hc]; clear hc)))
   |((with_reducible refine' agI ?bH ?_); (case bH=>exact aU))
   |((with_reducible refine' ap2 ?bH ?_); (case bH=>exact aY))
   |((with_reducible refine' abj ?bH ?_); (case bH=>exact aY))
   |((with_reducible refine' agK ?sD ?o6 ?qx ?_); (case sD=>exact rfl); (case o6=>exact rfl); (case qx=>exact rfl))
   |((with_reducible refine' agL ?sD ?o6 ?qx ?_); (case sD=>exact rfl); (case o6=>exact rfl); (case qx=>exact rfl))
   |((with_reducible refine' agJ ?bH ?_); (case bH=>exact aU))
   |((with_reducible refine' Gl ?bH ?bP ?vZ ?_); (case bH=>exact aY); (case bP=>exact bQ); (case vZ=>exact sP.h _); (all_goals (try infer_instance)))
   |((with_reducible refine' Gv ?bH ?bP ?vZ ?_); (case bH=>exact aY); (case bP=>exact bQ); (case vZ=>exact zz.h _); (all_goals (try infer_instance)); (intro _))
   |((with_reducible refine' Ga ?kr ?bH ?bP ?vZ ?su ?_); (case kr=>exact rfl); (case bH=>exact aY); (case bP=>exact bQ); (case vZ=>exact rO.h _); (case su=>(intro _; exact jk)); (all_goals (try infer_instance)); (intro _))
   |((with_reducible refine' afn ?bH ?bP ?kX ?_); (case bH=>exact aY); (case bP=>exact bQ); (case kX=>exact AX))
   |((with_reducible refine' afo ?bH ?bP ?kX ?_); (case bH=>exact aY); (case bP=>exact bQ); (case kX=>exact AX))
   |((with_reducible refine' an_ ?bH ?bP ?sD ?o6 ?_); (case bH=>exact aY); (case bP=>exact bQ); (case sD=>exact rfl); (case o6=>exact rfl))
   |((with_reducible refine' an' ?bH ?bP ?sD ?o6 ?_); (case bH=>exact aY); (case bP=>exact bQ); (case sD=>exact rfl); (case o6=>exact rfl))
   |((with_reducible refine' aFN ?kr ?bH ?bP ?ut ?_); (case kr=>exact rfl); (case bH=>exact aY); (case bP=>exact bQ); (case ut=>exact sbA))
   |((with_reducible refine' aFO ?kr ?bH ?bP ?ut ?_); (case kr=>exact rfl); (case bH=>exact aY); (case bP=>exact bQ); (case ut=>exact sbA))
   |((with_reducible refine' afp ?bH ?bP ?_); (case bH=>exact aU); (case bP=>exact bQ); (all_goals (try infer_instance)))
   |((with_reducible refine' aeP ?bH ?bP ?_); (case bH=>exact aU); (case bP=>exact bQ); (all_goals (try infer_instance)))
   |((with_reducible refine' aft ?fO ?il ?_); (case fO=>exact aY); (case il=>exact aY))
   |((with_reducible refine' afq ?fO ?il ?_); (case fO=>exact aY); (case il=>exact aY))
   |((with_reducible refine' afr ?fO ?il ?_); (case fO=>exact aY); (case il=>exact aY))
   |((with_reducible refine' afx ?fO ?il ?_); (case fO=>exact aY); (case il=>exact aY))
   |((with_reducible refine' afy ?fO ?il ?_); (case fO=>exact aY); (case il=>exact aY))
   |((with_reducible refine' afu ?fO ?il ?_); (case fO=>exact aY); (case il=>exact aY))
   |((with_reducible refine' afv ?fO ?il ?_); (case fO=>exact aY); (case il=>exact aY))
   |((with_reducible refine' afw ?fO ?il ?_); (case fO=>exact aY); (case il=>exact aY))
   |((with_reducible refine' afs ?fO ?il ?_); (case fO=>exact aY); (case il=>exact aY))
   |((with_reducible refine' afz ?fO ?_); (case fO=>exact aY))
   |((with_reducible refine' aFH (hT:=?nk) ?fO ?il ?_); (case nk=>infer_instance); (case fO=>exact aY); (case il=>exact aY))
   |((with_reducible refine' aFI (hT:=?nk) ?fO ?il ?_); (case nk=>infer_instance); (case fO=>exact aY); (case il=>exact aY))
   |((with_reducible refine' Gnc ?fO ?_); (case fO=>exact aY))
   |((with_reducible refine' Gc8 (hS:=?aeW) (hD:=?aeX) ?fO ?_); (case aeW=>infer_instance); (case aeX=>infer_instance); (case fO=>exact aY))
   |((with_reducible refine' afl ?oZ ?fQ ?_); (case oZ=>exact aY); (case fQ=>exact aU))
   |((with_reducible refine' afm ?oZ ?fQ ?_); (case oZ=>exact aY); (case fQ=>exact aU))
   |((with_reducible refine' agM ?sD ?o6 ?qx ?_); (case sD=>exact rfl); (case o6=>exact rfl); (case qx=>exact rfl))
   |((with_reducible refine zIx hF ?_); (clear hF); (intro _ h0 hi hF); (with_reducible refine' Gi ?bH ?fQ ?bP ?yI ?kr ?_); (case bH=>exact aU); (case fQ=>exact aY); (case bP=>exact bQ); (case yI=>exact hi); (case kr=>exact h0); (all_goals (try infer_instance)); (clear h0 hi); (intro _ _))
   |((with_reducible refine' Gi ?bH ?fQ ?bP ?yI ?kr ?_); (case bH=>exact aU); (case fQ=>exact aY); (case bP=>exact bQ); (case yI=>assumption); (case kr=>first|assumption|exact aRX _); (all_goals (try infer_instance)); (intro _ _))
   |((fail_if_success ((with_reducible refine' stC ?yB ?_); (case yB=>assumption))); (with_reducible refine AY hF ?_); (clear hF); (intro _ hx hF); (with_reducible refine' Gc (hg:=?zq_qcf) (fun sp=>sp hx) ?v_ ?sw ?su ?_); (case zq_qcf=>exact uN); (case v_=>exact JP); (case sw=>exact selN); (case su=>(intro _; exact jk)); (clear hx); (intro _))
   |((fail_if_success ((with_reducible refine' stC ?yB ?_); (case yB=>assumption))); (with_reducible refine AY hF ?_); (clear hF); (intro _ hx hF); (with_reducible refine' Gz (hg:=?zq_qcf) (fun sp=>sp hx) ?v_ ?sw ?zq_hal ?wh ?su ?_); (case zq_qcf=>exact uN); (case v_=>exact JP); (case sw=>exact selZ); (case zq_hal=>(intro _; exact allA)); (case wh=>exact jk); (case su=>(intro _; exact jk)); (clear hx); (intro _))
   |((with_reducible refine' gcl ?kX ?_); (case kX=>exact aY); (intro hv); (with_reducible refine AY hF ?_); (clear hF); (intro _ hx hF); (with_reducible refine' Gcc (hg:=?zq_qcf) (fun sp=>sp hx) hv ?v_ ?og ?sw ?su ?_); (case zq_qcf=>exact uN); (case v_=>exact JP); (case og=>exact rfl); (case sw=>exact selN); (case su=>(intro _; exact jk)); (clear hx hv); (intro _))
   |((with_reducible refine' gcl ?kX ?_); (case kX=>exact aY); (intro hv); (with_reducible refine AY hF ?_); (clear hF); (intro _ hx hF); (with_reducible refine' aFR (hg:=?zq_qcf) (fun sp=>sp hx) hv ?v_ ?og ?sw ?zq_hal ?wh ?su ?_); (case zq_qcf=>exact uN); (case v_=>exact JP); (case og=>exact rfl); (case sw=>exact selZ); (case zq_hal=>(intro _; exact allA)); (case wh=>exact jk); (case su=>(intro _; exact jk)); (clear hx hv); (intro _))
   |((with_reducible refine AY hF ?_); (clear hF); (intro _ hx hF); (with_reducible refine' aFD ?yJ ?bH ?fQ ?bP ?ut ?Jb ?kr ?Jc ?Jd ?_); (case yJ=>exact hx); (case bH=>exact aU); (case fQ=>exact aU); (case bP=>exact l6); (case ut=>exact l6); (case Jb=>exact ug.h); (case kr=>exact rfl); (case Jc=>exact rfl); (case Jd=>exact rfl); (all_goals (try infer_instance)); (clear hx); (intro _))
   |((with_reducible refine AY hF ?_); (clear hF); (intro _ hx hF); (with_reducible refine' aFE ?yJ ?bH ?fQ ?bP ?ut ?Jb ?kr ?Jc ?Jd ?_); (case yJ=>exact hx); (case bH=>exact aU); (case fQ=>exact aU); (case bP=>exact l6); (case ut=>exact bQ); (case Jb=>exact ug.h); (case kr=>exact rfl); (case Jc=>exact rfl); (case Jd=>exact rfl); (all_goals (try infer_instance)); (clear hx); (intro _))
   |((with_reducible refine' Gs ?bH ?fQ ?bP ?dG ?yB ?kX ?Tj ?kr ?TH ?_); (case bH=>exact aY); (case fQ=>exact aU); (case bP=>exact l6); (case dG=>first|exact cA|exact cI|exact cS|exact cB|exact cV|exact cL|exact cP|exact cF); (case yB=>exact stA); (case kX=>exact rfl); (case Tj=>exact rfl); (case kr=>exact rfl); (case TH=>exact rfl))
   |((with_reducible refine' Gs1 ?bH ?fQ ?bP ?v_ ?kX ?Tj ?kr ?TH ?_); (case bH=>exact aY); (case fQ=>exact aU); (case bP=>exact l6); (case v_=>exact rfl); (case kX=>exact rfl); (case Tj=>exact rfl); (case kr=>exact rfl); (case TH=>exact rfl))
   |((with_reducible refine' GnW ?kX ?oZ ?_); (case kX=>exact rfl); (case oZ=>exact rfl); (intro _))
   |((fail_if_success (have:=hW)); (with_reducible refine' GbR ?bH ?kX ?_); (case bH=>exact aU); (case kX=>exact rfl); (intro _))
   |((with_reducible refine' Gbd ?yJ ?Je ?wh ?_); (case yJ=>exact rfl); (case Je=>exact yQ); (case wh=>exact rfl))
   |((with_reducible refine' Gmf ?bH ?fQ ?_); (case bH=>exact yQ); (case fQ=>exact yQ))
   |((with_reducible refine' Gex ?bH ?yI ?_); (case bH=>exact aY); (case yI=>exact atW))
   |((with_reducible refine' GbE ?_); (all_goals (try infer_instance)); (intro _))
   |((with_reducible refine' GbA (hT:=?nk) (ht:=?nu) hF ?bP ?Je ?Dw ?aes ?aet ?aeu ?kX ?sw ?wh ?_); (case nk=>infer_instance); (case nu=>infer_instance); (case bP=>exact bQ); (case Je=>exact yQ); (case Dw=>exact kC); (case aes=>exact rfl); (case aet=>exact rfl); (case aeu=>exact rfl); (case kX=>exact rfl); (case sw=>exact rfl); (case wh=>exact rfl); (all_goals (try infer_instance)); (intro _))
   |(with_reducible refine' eQ ?_)
   |((with_reducible refine' cz ?_); (simp only[List.append]))
   |((with_reducible refine' dop ?aCj ?_); (case aCj=>exact rfl); (intro ho); (first
       |((with_reducible refine' apU ho ?dG ?bH ?dQ ?_); (case dG=>exact eD); (case bH=>exact aU); (case dQ=>exact rfl))
       |((with_reducible refine' Hfa (hF:=?aeY) ho ?dG ?bH ?dQ ?_); (case aeY=>infer_instance); (case dG=>exact eD); (case bH=>exact aY); (case dQ=>exact rfl); (all_goals (try infer_instance)))
       |((with_reducible refine' agN (hF:=?aeY) ho ?dG ?bH ?dQ ?_); (case aeY=>infer_instance); (case dG=>exact eD); (case bH=>exact aY); (case dQ=>exact rfl); (all_goals (try infer_instance)))
       |((with_reducible refine' Hl (hA:=?rY) ho ?dG ?bH ?dQ ?bP ?vZ ?_); (case rY=>infer_instance); (case dG=>exact eD); (case bH=>exact aY); (case dQ=>exact rfl); (case bP=>exact bQ); (case vZ=>exact sP.h _); (all_goals (try infer_instance)))
       |((with_reducible refine' Hv (hA:=?rY) ho ?dG ?bH ?dQ ?bP ?vZ ?_); (case rY=>infer_instance); (case dG=>exact eD); (case bH=>exact aY); (case dQ=>exact rfl); (case bP=>exact bQ); (case vZ=>exact zz.h _); (all_goals (try infer_instance)); (intro _))
       |((with_reducible refine' Ha (hA:=?rY) (ht:=?nu) ho ?kr ?dG ?bH ?dQ ?bP ?vZ ?su ?_); (case rY=>infer_instance); (case nu=>infer_instance); (case dG=>exact eD); (case bH=>exact aY); (case dQ=>exact rfl); (case bP=>exact bQ); (case vZ=>exact rO.h _); (case su=>(intro _; exact jk)); (all_goals (try infer_instance)); (case kr=>exact rfl); (intro _))
       |((with_reducible refine' aom (hA:=?rY) ho ?dG ?bH ?dQ ?bP ?kX ?_); (case rY=>infer_instance); (case dG=>exact eD); (case bH=>exact aY); (case dQ=>exact rfl); (case bP=>exact bQ); (case kX=>exact AX); (all_goals (try infer_instance)))
       |((with_reducible refine' apW ho ?o6 ?qx ?Jm ?_); (case o6=>exact rfl); (case qx=>exact rfl); (case Jm=>exact rfl))
       |((with_reducible refine' apX ho ?o6 ?qx ?Jm ?_); (case o6=>exact rfl); (case qx=>exact rfl); (case Jm=>exact rfl))
       |((with_reducible refine' aoo (hT:=?nk) ho ?dG ?bH ?dQ ?bP ?_); (case nk=>infer_instance); (case dG=>exact eD); (case bH=>exact aU); (case dQ=>exact rfl); (case bP=>exact bQ); (all_goals (try infer_instance)))
       |((with_reducible refine' aCb (hT:=?nk) ho ?dG ?bH ?dQ ?bP ?_); (case nk=>infer_instance); (case dG=>exact eD); (case bH=>exact aU); (case dQ=>exact rfl); (case bP=>exact bQ); (all_goals (try infer_instance)))
       |((with_reducible refine' Hex ho ?dG ?bH ?dQ ?yI ?_); (case dG=>exact eD); (case bH=>exact aY); (case dQ=>exact rfl); (case yI=>exact atW))
       |((with_reducible refine' aod ho ?dG ?bH ?dQ ?fQ ?kV ?_); (case dG=>exact eD); (case bH=>exact aY); (case dQ=>exact rfl); (case fQ=>exact aY); (case kV=>exact rfl))
       |((with_reducible refine' aoh ho ?dG ?bH ?dQ ?fQ ?kV ?_); (case dG=>exact eD); (case bH=>exact aY); (case dQ=>exact rfl); (case fQ=>exact aY); (case kV=>exact rfl))
       |((with_reducible refine' aoi ho ?dG ?bH ?dQ ?fQ ?kV ?_); (case dG=>exact eD); (case bH=>exact aY); (case dQ=>exact rfl); (case fQ=>exact aY); (case kV=>exact rfl))
       |((with_reducible refine' aoa ho ?dG ?bH ?dQ ?fQ ?kV ?_); (case dG=>exact eD); (case bH=>exact aY); (case dQ=>exact rfl); (case fQ=>exact aY); (case kV=>exact rfl))
       |((with_reducible refine' aob ho ?dG ?bH ?dQ ?fQ ?kV ?_); (case dG=>exact eD); (case bH=>exact aY); (case dQ=>exact rfl); (case fQ=>exact aY); (case kV=>exact rfl))
       |((with_reducible refine' aoe ho ?dG ?bH ?dQ ?fQ ?kV ?_); (case dG=>exact eD); (case bH=>exact aY); (case dQ=>exact rfl); (case fQ=>exact aY); (case kV=>exact rfl))
       |((with_reducible refine' aof ho ?dG ?bH ?dQ ?fQ ?kV ?_); (case dG=>exact eD); (case bH=>exact aY); (case dQ=>exact rfl); (case fQ=>exact aY); (case kV=>exact rfl))
       |((with_reducible refine' aog ho ?dG ?bH ?dQ ?fQ ?kV ?_); (case dG=>exact eD); (case bH=>exact aY); (case dQ=>exact rfl); (case fQ=>exact aY); (case kV=>exact rfl))
       |((with_reducible refine' aoc ho ?dG ?bH ?dQ ?fQ ?kV ?_); (case dG=>exact eD); (case bH=>exact aY); (case dQ=>exact rfl); (case fQ=>exact aY); (case kV=>exact rfl))
       |((with_reducible refine' aoj ho ?dG ?bH ?dQ ?_); (case dG=>exact eD); (case bH=>exact aY); (case dQ=>exact rfl))
       |((with_reducible refine' aFJ (hT:=?nk) ho ?dG ?bH ?dQ ?fQ ?kV ?_); (case nk=>infer_instance); (case dG=>exact eD); (case bH=>exact aY); (case dQ=>exact rfl); (case fQ=>exact aY); (case kV=>exact rfl))
       |((with_reducible refine' aFK (hT:=?nk) ho ?dG ?bH ?dQ ?fQ ?kV ?_); (case nk=>infer_instance); (case dG=>exact eD); (case bH=>exact aY); (case dQ=>exact rfl); (case fQ=>exact aY); (case kV=>exact rfl))
       |((with_reducible refine' Hnc ho ?dG ?bH ?dQ ?_); (case dG=>exact eD); (case bH=>exact aY); (case dQ=>exact rfl))
       |((with_reducible refine' Hc8 (hS:=?aeW) (hD:=?aeX) ho ?dG ?bH ?dQ ?_); (case aeW=>infer_instance); (case aeX=>infer_instance); (case dG=>exact eD); (case bH=>exact aY); (case dQ=>exact rfl))
       |((with_reducible refine' aok ho ?dG ?oZ ?dQ ?fQ ?kV ?_); (case dG=>exact eD); (case oZ=>exact aY); (case dQ=>exact rfl); (case fQ=>exact aU); (case kV=>exact rfl))
       |((with_reducible refine' aol ho ?dG ?oZ ?dQ ?fQ ?kV ?_); (case dG=>exact eD); (case oZ=>exact aY); (case dQ=>exact rfl); (case fQ=>exact aU); (case kV=>exact rfl))
       |((with_reducible refine' apV ho ?dG ?bH ?dQ ?_); (case dG=>exact eD); (case bH=>exact aU); (case dQ=>exact rfl))
       |((with_reducible refine' HnW (ht:=?nu) ho ?dG ?kX ?oZ ?_); (case nu=>infer_instance); (case dG=>exact eD); (case kX=>exact rfl); (case oZ=>exact rfl); (intro _))
       |((with_reducible refine' aon (hA:=?rY) (ht:=?nu) ho ?dG ?bH ?dQ ?bP ?qx ?Jm ?_); (case rY=>infer_instance); (case nu=>infer_instance); (case dG=>exact eD); (case bH=>exact aY); (case dQ=>exact rfl); (case bP=>exact bQ); (all_goals (try infer_instance)); (case qx=>exact rfl); (case Jm=>exact rfl))
       |((with_reducible refine zIx hF ?_); (clear hF); (intro _ h0 hi hF); (with_reducible refine' Hi (hT:=?nk) (hs:=?aeZ) ho ?dG ?bH ?fQ ?ae0 ?ae1 ?bP ?yI ?kr ?_); (case nk=>infer_instance); (case aeZ=>infer_instance); (case dG=>exact eD); (case bH=>exact aU); (case fQ=>exact aY); (case ae0=>exact rfl); (case ae1=>exact rfl); (case bP=>exact bQ); (case yI=>exact hi); (case kr=>exact h0); (all_goals (try infer_instance)); (clear h0 hi); (intro _ _))
       |((with_reducible refine' Hi (hT:=?nk) (hs:=?aeZ) ho ?dG ?bH ?fQ ?ae0 ?ae1 ?bP ?yI ?kr ?_); (case nk=>infer_instance); (case aeZ=>infer_instance); (case dG=>exact eD); (case bH=>exact aU); (case fQ=>exact aY); (case ae0=>exact rfl); (case ae1=>exact rfl); (case bP=>exact bQ); (case yI=>assumption); (case kr=>first|assumption|exact aRX _); (all_goals (try infer_instance)); (intro _ _))
       |((with_reducible refine' Hbd (ht:=?nu) ho ?dG ?yJ ?Je ?dQ ?wh ?_); (case nu=>infer_instance); (case dG=>exact eD); (case Je=>exact yQ); (case dQ=>exact rfl); (case yJ=>exact rfl); (case wh=>exact rfl))
       |((with_reducible refine' Hs (ht:=?nu) ho ?CU ?dG ?bH ?fQ ?dQ ?kV ?bP ?azD ?yB ?kX ?Tj ?kr ?TH ?CJ ?_); (case nu=>infer_instance); (case CU=>exact rfl); (case dG=>exact eD); (case bH=>exact aY); (case fQ=>exact aU); (case dQ=>exact rfl); (case kV=>exact rfl); (case bP=>exact l6); (case azD=>first|exact cA|exact cI|exact cS|exact cB|exact cV|exact cL|exact cP|exact cF); (case yB=>exact stA); (case Tj=>exact rfl); (case CJ=>exact V_); (case kX=>exact rfl); (case kr=>exact rfl); (case TH=>exact rfl))
       |((with_reducible refine' aFP (hA:=?rY) (ht:=?nu) ho ?dG ?bH ?dQ ?bP ?kr ?ut ?_); (case rY=>infer_instance); (case nu=>infer_instance); (case dG=>exact eD); (case bH=>exact aY); (case dQ=>exact rfl); (case bP=>exact bQ); (case ut=>exact sbA); (case kr=>exact rfl))
       |((with_reducible refine' aFQ (hA:=?rY) (ht:=?nu) ho ?dG ?bH ?dQ ?bP ?kr ?ut ?_); (case rY=>infer_instance); (case nu=>infer_instance); (case dG=>exact eD); (case bH=>exact aY); (case dQ=>exact rfl); (case bP=>exact bQ); (case ut=>exact sbA); (case kr=>exact rfl))
       |((with_reducible refine' aFL (hA:=?rY) ho ?dG ?bH ?dQ ?bP ?kX ?_); (case rY=>infer_instance); (case dG=>exact eD); (case bH=>exact aY); (case dQ=>exact rfl); (case bP=>exact bQ); (case kX=>exact AX); (all_goals (try infer_instance)))
       |((with_reducible refine' aFM (hA:=?rY) (ht:=?nu) ho ?dG ?bH ?dQ ?bP ?qx ?Jm ?_); (case rY=>infer_instance); (case nu=>infer_instance); (case dG=>exact eD); (case bH=>exact aY); (case dQ=>exact rfl); (case bP=>exact bQ); (all_goals (try infer_instance)); (case qx=>exact rfl); (case Jm=>exact rfl))
       |((fail_if_success ((with_reducible refine' stD ?yB ho ?_); (case yB=>assumption))); (with_reducible refine AY hF ?_); (clear hF); (intro _ hx hF); (with_reducible refine' Gd (hg:=?zq_qcf) (fun sp=>sp hx) ho ?CU ?dG ?v_ ?dQ ?sw ?CJ ?su ?_); (case zq_qcf=>exact uN); (case CU=>exact rfl); (case dG=>exact eD); (case v_=>exact JP); (case dQ=>exact rfl); (case sw=>exact selN); (case CJ=>exact V_); (case su=>(intro _; exact jk)); (clear hx); (intro _))
       |((with_reducible refine AY hF ?_); (clear hF); (intro _ hx hF); (with_reducible refine' aFF (hT:=?nk) (ht:=?nu) ho ?yJ ?CU ?dG ?ae2 ?ae3 ?dQ ?kV ?bP ?ut ?Jb ?kr ?Jc ?Jd ?CJ ?_); (case nk=>infer_instance); (case nu=>infer_instance); (case yJ=>exact hx); (case CU=>exact rfl); (case dG=>exact eD); (case ae2=>exact aU); (case ae3=>exact aU); (case dQ=>exact rfl); (case kV=>exact rfl); (case bP=>exact l6); (case ut=>exact l6); (case Jb=>exact ug.h); (case kr=>exact rfl); (case Jc=>exact rfl); (case Jd=>exact rfl); (case CJ=>exact V_); (all_goals (try infer_instance)); (clear hx); (intro _))
       |((with_reducible refine AY hF ?_); (clear hF); (intro _ hx hF); (with_reducible refine' aFG (hT:=?nk) (ht:=?nu) ho ?yJ ?CU ?dG ?ae2 ?ae3 ?dQ ?kV ?bP ?ut ?Jb ?kr ?Jc ?Jd ?CJ ?_); (case nk=>infer_instance); (case nu=>infer_instance); (case yJ=>exact hx); (case CU=>exact rfl); (case dG=>exact eD); (case ae2=>exact aU); (case ae3=>exact aU); (case dQ=>exact rfl); (case kV=>exact rfl); (case bP=>exact l6); (case ut=>exact bQ); (case Jb=>exact ug.h); (case kr=>exact rfl); (case Jc=>exact rfl); (case Jd=>exact rfl); (case CJ=>exact V_); (all_goals (try infer_instance)); (clear hx); (intro _))
       |((fail_if_success ((with_reducible refine' stD ?yB ho ?_); (case yB=>assumption))); (with_reducible refine AY hF ?_); (clear hF); (intro _ hx hF); (with_reducible refine' Gdz (hg:=?zq_qcf) (fun sp=>sp hx) ho ?CU ?dG ?v_ ?dQ ?sw ?zq_hal ?CJ ?wh ?su ?_); (case zq_qcf=>exact uN); (case CU=>exact rfl); (case dG=>exact eD); (case v_=>exact JP); (case dQ=>exact rfl); (case sw=>exact selZ); (case zq_hal=>(intro _; exact allA)); (case CJ=>exact V_); (case wh=>exact jk); (case su=>(intro _; exact jk)); (clear hx); (intro _))
       |((with_reducible refine' HbE ho (hT:=?nk) (hd:=?azE) (ht:=?nu) ?dG ?_); (case nk=>infer_instance); (case azE=>infer_instance); (case nu=>infer_instance); (case dG=>exact eD); (all_goals (try infer_instance)); (intro _))
       |((with_reducible refine' HbA ho (hT:=?nk) (ht:=?nu) hF ?dG ?bP ?Je ?dQ ?Dw ?aes ?aet ?aeu ?kX ?sw ?wh ?_); (case nk=>infer_instance); (case nu=>infer_instance); (case dG=>exact eD); (case bP=>exact bQ); (case Je=>exact yQ); (case dQ=>exact rfl); (case Dw=>exact kC); (case aes=>exact rfl); (case aet=>exact rfl); (case aeu=>exact rfl); (case kX=>exact rfl); (case sw=>exact rfl); (case wh=>exact rfl); (all_goals (try infer_instance)); (intro _))
       |fail); (clear ho))
   |(with_reducible refine' FL ?_)
   |fail)
 all_goals (rcases (_:_)with h; exact h)):G:=h
end
end Go.Fw
/-
 Heads of contracts, and hints that let the driver go on.  No conditions.
-/
set_option linter.unusedVariables false
namespace Go.Fw
open Go
abbrev TA(α:Type):=(α->Value->(List ay->List ay)->Prop)->Prop
abbrev TR(ρ:Type):=ρ->(∀ι:Type,(ι->Value)->(ι->List ay)->Prop)->Prop
abbrev S0(P:Program) [bF P](g:Nat){ρ:Type}(u:TR ρ)(F:Option ρ):Prop:=∀{R},F=some R->u R fun _ val post=>Spec P g [] ([]) val post
abbrev S1(P:Program) [bF P](g:Nat){α1:Type}{ρ:Type}(t1:TA α1)(u:TR ρ)(F:α1->Option ρ):Prop:=t1 fun a1 w1 c1=>∀{R},F a1=some R->u R fun _ val post=>Spec P g [w1] (c1 ([])) val post
abbrev S2(P:Program) [bF P](g:Nat){α1 α2:Type}{ρ:Type}(t1:TA α1)(t2:TA α2)(u:TR ρ)(F:α1->α2->Option ρ):Prop:=t1 fun a1 w1 c1=>t2 fun a2 w2 c2=>∀{R},F a1 a2=some R->u R fun _ val post=>Spec P g [w1,w2] (c1 (c2 ([]))) val post
abbrev S3(P:Program) [bF P](g:Nat){α1 α2 α3:Type}{ρ:Type}(t1:TA α1)(t2:TA α2)(t3:TA α3)(u:TR ρ)(F:α1->α2->α3->Option ρ):Prop:=t1 fun a1 w1 c1=>t2 fun a2 w2 c2=>t3 fun a3 w3 c3=>∀{R},F a1 a2 a3=some R->u R fun _ val post=>Spec P g [w1,w2,w3] (c1 (c2 (c3 ([])))) val post
abbrev S4(P:Program) [bF P](g:Nat){α1 α2 α3 α4:Type}{ρ:Type}(t1:TA α1)(t2:TA α2)(t3:TA α3)(t4:TA α4)(u:TR ρ)(F:α1->α2->α3->α4->Option ρ):Prop:=t1 fun a1 w1 c1=>t2 fun a2 w2 c2=>t3 fun a3 w3 c3=>t4 fun a4 w4 c4=>∀{R},F a1 a2 a3 a4=some R->u R fun _ val post=>Spec P g [w1,w2,w3,w4] (c1 (c2 (c3 (c4 ([]))))) val post
abbrev S5(P:Program) [bF P](g:Nat){α1 α2 α3 α4 α5:Type}{ρ:Type}(t1:TA α1)(t2:TA α2)(t3:TA α3)(t4:TA α4)(t5:TA α5)(u:TR ρ)(F:α1->α2->α3->α4->α5->Option ρ):Prop:=t1 fun a1 w1 c1=>t2 fun a2 w2 c2=>t3 fun a3 w3 c3=>t4 fun a4 w4 c4=>t5 fun a5 w5 c5=>∀{R},F a1 a2 a3 a4 a5=some R->u R fun _ val post=>Spec P g [w1,w2,w3,w4,w5] (c1 (c2 (c3 (c4 (c5 ([])))))) val post
abbrev S7(P:Program) [bF P](g:Nat){α1 α2 α3 α4 α5 α6 α7:Type}{ρ:Type}(t1:TA α1)(t2:TA α2)(t3:TA α3)(t4:TA α4)(t5:TA α5)(t6:TA α6)(t7:TA α7)(u:TR ρ)(F:α1->α2->α3->α4->α5->α6->α7->Option ρ):Prop:=t1 fun a1 w1 c1=>t2 fun a2 w2 c2=>t3 fun a3 w3 c3=>t4 fun a4 w4 c4=>t5 fun a5 w5 c5=>t6 fun a6 w6 c6=>t7 fun a7 w7 c7=>∀{R},F a1 a2 a3 a4 a5 a6 a7=some R->u R fun _ val post=>Spec P g [w1,w2,w3,w4,w5,w6,w7] (c1 (c2 (c3 (c4 (c5 (c6 (c7 ([])))))))) val post
section
variable{P:Program} [bF P]{n:Nat}{f:Fr}{H0:aB}{F0:List Nat}{cs kept aOx:List ay}{L Ld S:List (Nat×Value)}{c1 c2:Code}{Q:Exit->Fr->List ay->Prop}{A:Array Oper}{ops:List Oper}{ρ α β ι:Type}{xs:List α}{R:ρ}{X0:Type}
theorem en{g:Nat}{a b:String}{ta pa ra:Array TypeId}{nf nt:Nat}{rs:List ResultVar}{c:Code}{nr ou:Bool}{fl:String}{el:Nat}{ln:Option Nat}{mt:List Departure}{tn:Array String}{fn:Func}{args:List Value}{pre pre':List ay}{val:ι->Value}{post:ι->List ay}{x y:Option ρ}
   (hf:P.funcs[g]?=some fn) (hu:x=y) (hF:x=some R:=by exact hF) (e:fn=⟨a,b,ta,pa,ra,nf,nt,rs.toArray,some c,nr,ou,fl,el,ln,mt,tn⟩:=by rfl) (hl:Nat.ble rs.length 6=true:=by rfl) (ha:Nat.ble args.length nt=true:=by rfl)
   (hp:Ap pre [] pre':=by exact jk)
   (h:∀H0 F0,y=some R->CW P nt H0 F0 c (Du P nt rs val post) (Z_ args) pre':=by (clear hF; intro _ _ hF; refine' go; all_goals (rcases (_:_)with h; exact h))):Spec P g args pre val post:=by
 subst e
 have e:=hp.eq
 rw[aQ_]at e
 subst e
 exact Im hf rfl rfl rfl hl ha fun H0 F0=>h H0 F0 (hu ▸ hF)
theorem Kl{S0:ι->List (Nat×Value)}{C0:ι->List ay}{u:ι->List (Nat×Value)->List (Nat×Value)}(h:∃i,∃S C,Aq (S0 i) [] S/\Ap (C0 i) kept C/\fB f (u i S)/\bL cs C:=by first|((repeat (first|(with_reducible refine' rJ ?_)|(with_reducible refine' ru ?_)|((with_reducible refine' rH ?_); (apply Exists.intro)))); (first|(with_reducible refine' rM ?_)|(apply Exists.intro)); (apply Exists.intro); (apply Exists.intro); (refine' ⟨?qp,?qw,?og,?kW⟩); (case qp=>exact nH); (case qw=>exact jk); (case og=>exact yR); (case kW=>exact sK))|((repeat (first|(with_reducible refine' rJ ?_)|(with_reducible refine' ru ?_)|((with_reducible refine' F7 ?_); (apply Exists.intro); (apply Exists.intro); (apply Exists.intro))|((with_reducible refine' rH ?_); (apply Exists.intro)))); (first|(with_reducible refine' rM ?_)|((with_reducible refine' GJ ?_); (apply Exists.intro); (apply Exists.intro); (apply Exists.intro))|(apply Exists.intro)); (apply Exists.intro); (apply Exists.intro); (refine' ⟨?qp,?qw,?og,?kW⟩); (case qp=>exact nH); (case qw=>exact jk); (case og=>exact yR); (case kW=>exact sK))|fail):∃i,∃S C,Aq (S0 i) [] S/\Ap (C0 i) kept C/\fB f (u i S)/\bL cs C:=h
theorem F8{S0:List (Nat×Value)}{C0 C:List ay}{g:Fr}{h:Nat×Value}(hS:Aq S0 L S)(hC:Ap C0 kept C)(k:CW P n H0 F0 c1 Q (dm g (h::S)) C):CW P n H0 F0 c1 Q (dm g (h::(S0++L))) (C0++kept):=by
 rw[←hS.eq,←hC.eq]; exact k
theorem eP{φ:List α->Nat->Option ρ}(X:Dq (Unit) ι)(kt:Nat)(keep:List Nat)(hF:φ xs 0=some R:=by exact hF)(hk:Kp f keep L:=by exact oq)(hd:Kp f X.t Ld:=by exact oq)(hs:Kc Ld X.b cs kept:=by exact zy)
   (h0:∃i,∃S C,Aq (X.s () i) [] S/\Ap (X.c () i) kept C/\fB f ((kt,.int .i64 ((0:Nat):Int))::S)/\bL cs C:=by exact Kl)
   (hn:∀{k i g},φ [] k=some R->xs.length<=k->xs.length<4611686018427387904->CW P n H0 F0 c1 (jB (fun _ _=>False) Q) (dm g ((kt,.int .i64 (k:Int))::(X.s () i++L))) (X.c () i++kept):=by (intros; rename_i hF _ _; refine' F8 ?lK ?lL ?_; (case lK=>exact nH); (case lL=>exact jk); rcases (_:_)with h; exact h))
   (hc:∀{x l k i g},φ (x::l) k=some R->k<xs.length->xs[(k:Int).toNat]?=some x->xs.length<4611686018427387904->CW P n H0 F0 c1 (jB (Bk X kt L kept (fun l k b=>φ l k) R l (k+1)) Q) (dm g ((kt,.int .i64 (k:Int))::(X.s () i++L))) (X.c () i++kept):=by (intros; rename_i hF _ _ _; refine' F8 ?lK ?lL ?_; (case lK=>exact nH); (case lL=>exact jk); rcases (_:_)with h; exact h))
   (hb:Bd cs xs.length:=by exact bdA):CW P n H0 F0 (.loop c1) Q f cs:=abo (φ:=fun l k b=>φ l k) (b0:=()) hF hb hk.eql h0 (fun _ _ _ _ h=>hn h) (fun _ _ _ _ _ _ h=>hc h)
theorem ed{β1:Type}{φ:List α->Nat->β1->Option ρ}{b1:β1}(X:Dq (β1) ι)(kt:Nat)(keep:List Nat)(hF:φ xs 0 b1=some R:=by exact hF)(hk:Kp f keep L:=by exact oq)(hd:Kp f X.t Ld:=by exact oq)(hs:Kc Ld X.b cs kept:=by exact zy)
   (h0:∃i,∃S C,Aq (X.s b1 i) [] S/\Ap (X.c b1 i) kept C/\fB f ((kt,.int .i64 ((0:Nat):Int))::S)/\bL cs C:=by exact Kl)
   (hn:∀{k a1 i g},φ [] k a1=some R->xs.length<=k->xs.length<4611686018427387904->CW P n H0 F0 c1 (jB (fun _ _=>False) Q) (dm g ((kt,.int .i64 (k:Int))::(X.s a1 i++L))) (X.c a1 i++kept):=by (intros; rename_i hF _ _; refine' F8 ?lK ?lL ?_; (case lK=>exact nH); (case lL=>exact jk); rcases (_:_)with h; exact h))
   (hc:∀{x l k a1 i g},φ (x::l) k a1=some R->k<xs.length->xs[(k:Int).toNat]?=some x->xs.length<4611686018427387904->CW P n H0 F0 c1 (jB (Bk X kt L kept (fun l k b=>φ l k b) R l (k+1)) Q) (dm g ((kt,.int .i64 (k:Int))::(X.s a1 i++L))) (X.c a1 i++kept):=by (intros; rename_i hF _ _ _; refine' F8 ?lK ?lL ?_; (case lK=>exact nH); (case lL=>exact jk); rcases (_:_)with h; exact h))
   (hb:Bd cs xs.length:=by exact bdA):CW P n H0 F0 (.loop c1) Q f cs:=abo (φ:=fun l k b=>φ l k b) (b0:=b1) hF hb hk.eql h0 (fun _ _ _ _ h=>hn h) (fun _ _ _ _ _ _ h=>hc h)
theorem Ou{β1:Type}{φ:Nat->β1->Option ρ}{b1:β1}{m:Nat}(X:Dq (β1) ι)(keep:List Nat)(hF:φ m b1=some R:=by exact hF)(hz:∀a1,φ 0 a1=none:=by (intros; rfl))(hk:Kp f keep L:=by exact oq)(hd:Kp f X.t Ld:=by exact oq)(hs:Kc Ld X.b cs kept:=by exact zy)
   (h0:∃i,∃S C,Aq (X.s b1 i) [] S/\Ap (X.c b1 i) kept C/\fB f S/\bL cs C:=by exact Kl)
   (hc:∀{m a1 i g},φ (m+1) a1=some R->CW P n H0 F0 c1 (jB (Bf X L kept (fun m b=>φ m b) R m) Q) (dm g (X.s a1 i++L)) (X.c a1 i++kept):=by (intros; rename_i hF; refine' Kk ?lK ?lL ?_; (case lK=>exact nH); (case lL=>exact jk); rcases (_:_)with h; exact h)):CW P n H0 F0 (.loop c1) Q f cs:=
 agP (φ:=fun m b=>φ m b) (b0:=b1) hF (fun _=>hz _) hk.eql h0 (fun _ _ _ _ h=>hc h)
theorem Wd{β1 β2:Type}{φ:List α->Nat->β1->β2->Option ρ}{b1:β1}{b2:β2}(X:Dq (β1×β2) ι)(kt:Nat)(keep:List Nat)(hF:φ xs 0 b1 b2=some R:=by exact hF)(hk:Kp f keep L:=by exact oq)(hd:Kp f X.t Ld:=by exact oq)(hs:Kc Ld X.b cs kept:=by exact zy)
   (h0:∃i,∃S C,Aq (X.s (b1,b2) i) [] S/\Ap (X.c (b1,b2) i) kept C/\fB f ((kt,.int .i64 ((0:Nat):Int))::S)/\bL cs C:=by exact Kl)
   (hn:∀{k a1 a2 i g},φ [] k a1 a2=some R->xs.length<=k->xs.length<4611686018427387904->CW P n H0 F0 c1 (jB (fun _ _=>False) Q) (dm g ((kt,.int .i64 (k:Int))::(X.s (a1,a2) i++L))) (X.c (a1,a2) i++kept):=by (intros; rename_i hF _ _; refine' F8 ?lK ?lL ?_; (case lK=>exact nH); (case lL=>exact jk); rcases (_:_)with h; exact h))
   (hc:∀{x l k a1 a2 i g},φ (x::l) k a1 a2=some R->k<xs.length->xs[(k:Int).toNat]?=some x->xs.length<4611686018427387904->CW P n H0 F0 c1 (jB (Bk X kt L kept (fun l k b=>φ l k b.1 b.2) R l (k+1)) Q) (dm g ((kt,.int .i64 (k:Int))::(X.s (a1,a2) i++L))) (X.c (a1,a2) i++kept):=by (intros; rename_i hF _ _ _; refine' F8 ?lK ?lL ?_; (case lK=>exact nH); (case lL=>exact jk); rcases (_:_)with h; exact h))
   (hb:Bd cs xs.length:=by exact bdA):CW P n H0 F0 (.loop c1) Q f cs:=abo (φ:=fun l k b=>φ l k b.1 b.2) (b0:=(b1,b2)) hF hb hk.eql h0 (fun _ _ _ _ h=>hn h) (fun _ _ _ _ _ _ h=>hc h)
theorem Km{β1 β2:Type}{φ:Nat->β1->β2->Option ρ}{b1:β1}{b2:β2}{m:Nat}(X:Dq (β1×β2) ι)(keep:List Nat)(hF:φ m b1 b2=some R:=by exact hF)(hz:∀a1 a2,φ 0 a1 a2=none:=by (intros; rfl))(hk:Kp f keep L:=by exact oq)(hd:Kp f X.t Ld:=by exact oq)(hs:Kc Ld X.b cs kept:=by exact zy)
   (h0:∃i,∃S C,Aq (X.s (b1,b2) i) [] S/\Ap (X.c (b1,b2) i) kept C/\fB f S/\bL cs C:=by exact Kl)
   (hc:∀{m a1 a2 i g},φ (m+1) a1 a2=some R->CW P n H0 F0 c1 (jB (Bf X L kept (fun m b=>φ m b.1 b.2) R m) Q) (dm g (X.s (a1,a2) i++L)) (X.c (a1,a2) i++kept):=by (intros; rename_i hF; refine' Kk ?lK ?lL ?_; (case lK=>exact nH); (case lL=>exact jk); rcases (_:_)with h; exact h)):CW P n H0 F0 (.loop c1) Q f cs:=
 agP (φ:=fun m b=>φ m b.1 b.2) (b0:=(b1,b2)) hF (fun _=>hz _ _) hk.eql h0 (fun _ _ _ _ h=>hc h)
theorem rn3{β1 β2 β3:Type}{φ:List α->Nat->β1->β2->β3->Option ρ}{b1:β1}{b2:β2}{b3:β3}(X:Dq (β1×β2×β3) ι)(kt:Nat)(keep:List Nat)(hF:φ xs 0 b1 b2 b3=some R:=by exact hF)(hk:Kp f keep L:=by exact oq)(hd:Kp f X.t Ld:=by exact oq)(hs:Kc Ld X.b cs kept:=by exact zy)
   (h0:∃i,∃S C,Aq (X.s (b1,b2,b3) i) [] S/\Ap (X.c (b1,b2,b3) i) kept C/\fB f ((kt,.int .i64 ((0:Nat):Int))::S)/\bL cs C:=by exact Kl)
   (hn:∀{k a1 a2 a3 i g},φ [] k a1 a2 a3=some R->xs.length<=k->xs.length<4611686018427387904->CW P n H0 F0 c1 (jB (fun _ _=>False) Q) (dm g ((kt,.int .i64 (k:Int))::(X.s (a1,a2,a3) i++L))) (X.c (a1,a2,a3) i++kept):=by (intros; rename_i hF _ _; refine' F8 ?lK ?lL ?_; (case lK=>exact nH); (case lL=>exact jk); rcases (_:_)with h; exact h))
   (hc:∀{x l k a1 a2 a3 i g},φ (x::l) k a1 a2 a3=some R->k<xs.length->xs[(k:Int).toNat]?=some x->xs.length<4611686018427387904->CW P n H0 F0 c1 (jB (Bk X kt L kept (fun l k b=>φ l k b.1 b.2.1 b.2.2) R l (k+1)) Q) (dm g ((kt,.int .i64 (k:Int))::(X.s (a1,a2,a3) i++L))) (X.c (a1,a2,a3) i++kept):=by (intros; rename_i hF _ _ _; refine' F8 ?lK ?lL ?_; (case lK=>exact nH); (case lL=>exact jk); rcases (_:_)with h; exact h))
   (hb:Bd cs xs.length:=by exact bdA):CW P n H0 F0 (.loop c1) Q f cs:=abo (φ:=fun l k b=>φ l k b.1 b.2.1 b.2.2) (b0:=(b1,b2,b3)) hF hb hk.eql h0 (fun _ _ _ _ h=>hn h) (fun _ _ _ _ _ _ h=>hc h)
theorem AZ{β1 β2 β3:Type}{φ:Nat->β1->β2->β3->Option ρ}{b1:β1}{b2:β2}{b3:β3}{m:Nat}(X:Dq (β1×β2×β3) ι)(keep:List Nat)(hF:φ m b1 b2 b3=some R:=by exact hF)(hz:∀a1 a2 a3,φ 0 a1 a2 a3=none:=by (intros; rfl))(hk:Kp f keep L:=by exact oq)(hd:Kp f X.t Ld:=by exact oq)(hs:Kc Ld X.b cs kept:=by exact zy)
   (h0:∃i,∃S C,Aq (X.s (b1,b2,b3) i) [] S/\Ap (X.c (b1,b2,b3) i) kept C/\fB f S/\bL cs C:=by exact Kl)
   (hc:∀{m a1 a2 a3 i g},φ (m+1) a1 a2 a3=some R->CW P n H0 F0 c1 (jB (Bf X L kept (fun m b=>φ m b.1 b.2.1 b.2.2) R m) Q) (dm g (X.s (a1,a2,a3) i++L)) (X.c (a1,a2,a3) i++kept):=by (intros; rename_i hF; refine' Kk ?lK ?lL ?_; (case lK=>exact nH); (case lL=>exact jk); rcases (_:_)with h; exact h)):CW P n H0 F0 (.loop c1) Q f cs:=
 agP (φ:=fun m b=>φ m b.1 b.2.1 b.2.2) (b0:=(b1,b2,b3)) hF (fun _=>hz _ _ _) hk.eql h0 (fun _ _ _ _ h=>hc h)
theorem pf{p:α×β->Prop}(h:∀a b,p (a,b)):∀x,p x:=fun ⟨a,b⟩=>h a b
theorem cu{E:Option β}{k:β->Option ρ}(X:Dq β ι)(keep:List Nat)(hF:E.bind k=some R:=by exact hF)(hk:Kp f keep L:=by exact oq)(hd:Kp f X.t Ld:=by exact oq)(hs:Kc Ld X.b cs kept:=by exact zy)
   (h1:∀o,E=some o->CW P n H0 F0 c1 (jB (Jn X L kept o) Q) f cs:=by (clear hF; intro _ hF; (try dsimp only at hF); refine' go; all_goals (rcases (_:_)with h; exact h)))
   (h2:∀a i g,k a=some R->CW P n H0 F0 c2 Q (dm g (X.s a i++L)) (X.c a i++kept):=by (clear hF; (repeat (with_reducible refine' pf ?_; intro _)); intro _ _ _ hF; (try dsimp only at hF); refine' Kk ?lK ?lL ?_; (case lK=>exact nH); (case lL=>exact jk); refine' go; all_goals (rcases (_:_)with h; exact h))):CW P n H0 F0 (.seq c1 c2) Q f cs:=aFy hF h1 h2
theorem rc{E:Option β}{k:β->Option ρ}(X:Dq β ι)(keep:List Nat)(hF:E.bind k=some R:=by exact hF)(hk:Kp f keep L:=by exact oq)(hd:Kp f X.t Ld:=by exact oq)(hs:Kc Ld X.b cs kept:=by exact zy)
   (h1:∀o,E=some o->aR P n H0 F0 A ops f cs (Jn X L kept o):=by (clear hF; intro _ hF; (try dsimp only at hF); refine' go; all_goals (rcases (_:_)with h; exact h)))
   (h2:∀a i g,k a=some R->CW P n H0 F0 c2 Q (dm g (X.s a i++L)) (X.c a i++kept):=by (clear hF; (repeat (with_reducible refine' pf ?_; intro _)); intro _ _ _ hF; (try dsimp only at hF); refine' Kk ?lK ?lL ?_; (case lK=>exact nH); (case lL=>exact jk); refine' go; all_goals (rcases (_:_)with h; exact h))):aR P n H0 F0 A ops f cs (fun f' cs'=>CW P n H0 F0 c2 Q f' cs'):=aFz hF h1 h2
theorem dc{ol:List Oper}{tb aO todo:List Nat}{fl:List (Nat×List Nat)}{E:Option β}{k:β->Option ρ}(X:Dq β ι)(keep:List Nat)(hF:E.bind k=some R:=by exact hF)(hk:Kp f keep L:=by exact oq)(hd:Kp f X.t Ld:=by exact oq)(hs:Kc Ld X.b cs kept:=by exact zy)
   (h1:∀o,E=some o->DC P n ol tb aO H0 F0 (Jn X L kept o) todo fl f cs:=by (clear hF; intro _ hF; (try dsimp only at hF); refine' go; all_goals (rcases (_:_)with h; exact h)))
   (h2:∀a i g,k a=some R->CW P n H0 F0 c2 Q (dm g (X.s a i++L)) (X.c a i++kept):=by (clear hF; (repeat (with_reducible refine' pf ?_; intro _)); intro _ _ _ hF; (try dsimp only at hF); refine' Kk ?lK ?lL ?_; (case lK=>exact nH); (case lL=>exact jk); refine' go; all_goals (rcases (_:_)with h; exact h))):DC P n ol tb aO H0 F0 (fun f' cs'=>CW P n H0 F0 c2 Q f' cs') todo fl f cs:=aFA hF h1 h2
theorem cuS{ρ1:Type}{E:Option (Sum ρ1 β)}{k:Sum ρ1 β->Option ρ}(X:Dq β ι)(keep:List Nat)(hF:E.bind k=some R:=by exact hF)(hk:Kp f keep L:=by exact oq)(hd:Kp f X.t Ld:=by exact oq)(hs:Kc Ld X.b cs kept:=by exact zy)
   (h1:∀o,E=some o->k o=some R->CW P n H0 F0 c1 (jB (JnS X L kept o) Q) f cs:=by (clear hF; intro _ hF hO; (try dsimp only at hF); refine' go; all_goals (rcases (_:_)with h; exact h)))
   (h2:∀a i g,k (.inr a)=some R->CW P n H0 F0 c2 Q (dm g (X.s a i++L)) (X.c a i++kept):=by (clear hF; (repeat (with_reducible refine' pf ?_; intro _)); intro _ _ _ hF; (try dsimp only at hF); refine' Kk ?lK ?lL ?_; (case lK=>exact nH); (case lL=>exact jk); refine' go; all_goals (rcases (_:_)with h; exact h))):CW P n H0 F0 (.seq c1 c2) Q f cs:=aFC hF h1 h2
end
end Go.Fw
/-
 Explicit steps for the driver.  No conditions.
-/
set_option linter.unusedVariables false
namespace Go.Fw
open Go
section
variable{P:Program} [bF P]{n:Nat}{f:Fr}{H0:aB}{F0:List Nat}{cs pre rest kept:List ay}{x y z:Operand}{v u:Value}{A:Array Oper}{r:List Oper}{K:Fr->List ay->Prop}{d:Option Tmp}{T T' T2 E:TypeId}{ps:String}{af:Array Edge}
variable{l:List Oper}{tb aO todo:List Nat}{fl:List (Nat×List Nat)}{ι α:Type}{R:aB->Value->α->Prop}{Ro:b_ α}{a:α}{s b:Nat}{zv:Value}{c1 c2:Code}{Q:Exit->Fr->List ay->Prop}
theorem A7{by':Nat}{q:Int}{k1:IntKind}{a:α}{β:Type}{g:List α->Option β}{R0:β}(Ro:b_ α) [bS Ro](hF:(qL q a).bind g=some R0)(hz:∀H,Ro [] H zv a) [hT:iN P T E] [ht:dK P E s by' zv]
   (k:∀zs k,g zs=some R0->aR P n H0 F0 A r (put f d (.slice (some ⟨k,0,none⟩) q.toNat 1)) (ah (aa E Ro) [k] (.slice (some ⟨k,0,none⟩) q.toNat 1) zs::cs) K)
   (hx:EV n f x (.int k1 q):=by exact aY) (hzs:zv.cells.size=s:=by rfl) (hcl:um zv=true:=by rfl) (hby:Nat.ble by' 16384=true:=by rfl):aR P n H0 F0 A (⟨d,.makeSlice T x x,T',ps,af,none⟩::r) f cs K:=by
 obtain⟨zs,h1,h2⟩:=bind_some hF
 obtain⟨-,h3,h4⟩:=ad6 h1
 exact lJ rfl (akz (g:=true) (c:=q) hT.h ht.h hzs hcl (by simpa using hby) hx h3 h4) fun k0=>S_ (.cons .h .nil) (al2 (Ro:=Ro) (E:=E) (a:=a) h1 hz) dS (k zs k0 h2)
theorem UU{α:Type}{Ro:b_ α}{R':aB->Value->α->Prop}(c:ay){F:List Nat}{v:Value}{a:α} [bS Ro] [j4 Ro] [bz R'] [jS Ro R'](h:CW P n H0 F0 c1 Q f (aI R' v a::rest))(e:c=ah Ro F v a:=by rfl)(hs:dU cs c rest:=by exact l6):CW P n H0 F0 c1 Q f cs:=uq hs (e ▸ aX) h
theorem Cy{op:Op}{val:ι->Value}{post cs':ι->List ay}(hx:XC P n ⟨d,op,T',ps,af,none⟩ f pre val post)(h:∀x,aR P n H0 F0 A r (put f d (val x)) (cs' x) K)(hs:ky cs pre rest:=by exact selN)(ha:∀x,Ap (post x) rest (cs' x):=by (intro _; exact jk)):
   aR P n H0 F0 A (⟨d,op,T',ps,af,none⟩::r) f cs K:=
 fun H hc=>uL (pre:=pre) (rest:=rest) (cs:=pre++rest) (selApp pre rest) hx (fun x=>(ha x).toApp) h H (Ctx.selN hs (A:=[]) hc)
theorem KD{id:Nat}(order tb aO:List Nat)(hm:P.follows .mixedOrders=true)(h:DC P n l tb aO H0 F0 (fun f' cs'=>CW P n H0 F0 c2 Q f' cs') order [] f cs)(hd:ND l tb aO order=true:=by decide+kernel):CW P n H0 F0 (.seq (.region id l.toArray true) c2) Q f cs:=iQ order tb aO hm hd h
def Pc(L:List (Nat×Value))(cs:List ay)(f:Fr)(cs':List ay):Prop:=fB f L/\bL cs' cs
theorem pcE{L:List (Nat×Value)}{cs0:List ay}(h1:fB f L)(h2:bL cs cs0):Pc L cs0 f cs:=⟨h1,h2⟩
theorem gsp{d2:Option Tmp}{op:Op}{j:Nat}{t:Tmp}{b c:Bool}(hd:(A[j]?).bind (·.dst)=some t)(hv:f t= .bool c)(h1:c=true->aR P n H0 F0 A (⟨d2,op,T,ps,af,some (j,b)⟩::r) f cs K)(h2:c=false->aR P n H0 F0 A (⟨d2,op,T,ps,af,some (j,b)⟩::r) f cs K):
   aR P n H0 F0 A (⟨d2,op,T,ps,af,some (j,b)⟩::r) f cs K:=by
 cases c with
 |true=>exact h1 rfl
 |false=>exact h2 rfl
theorem zA{L L2:List (Nat×Value)}{ops:List Oper}(sl:List (Nat×Value))(keep:List Nat)(h2:∀g,CW P n H0 F0 c2 Q (dm g L2) cs)(hk:Kp f keep L:=by exact oq)(hA:Ap sl L L2:=by exact jk)
   (h1:aR P n H0 F0 A ops f cs (Pc L2 cs):=by
     (repeat' first
       |((with_reducible refine' agI ?bH ?_); (case bH=>exact aU))
       |((with_reducible refine' ap2 ?bH ?_); (case bH=>exact aY))
       |((with_reducible refine' abj ?bH ?_); (case bH=>exact aY))
       |((with_reducible refine' agK ?sD ?o6 ?qx ?_); (case sD=>exact rfl); (case o6=>exact rfl); (case qx=>exact rfl))
       |((with_reducible refine' agL ?sD ?o6 ?qx ?_); (case sD=>exact rfl); (case o6=>exact rfl); (case qx=>exact rfl))
       |((with_reducible refine' agJ ?bH ?_); (case bH=>exact aU))
       |((with_reducible refine' Gl ?bH ?bP ?vZ ?_); (case bH=>exact aY); (case bP=>exact bQ); (case vZ=>exact sP.h _); (all_goals (try infer_instance)))
       |((with_reducible refine' afn ?bH ?bP ?kX ?_); (case bH=>exact aY); (case bP=>exact bQ); (case kX=>exact AX))
       |((with_reducible refine' afo ?bH ?bP ?kX ?_); (case bH=>exact aY); (case bP=>exact bQ); (case kX=>exact AX))
       |((with_reducible refine' afp ?bH ?bP ?_); (case bH=>exact aU); (case bP=>exact bQ); (all_goals (try infer_instance)))
       |((with_reducible refine' aeP ?bH ?bP ?_); (case bH=>exact aU); (case bP=>exact bQ); (all_goals (try infer_instance)))
       |((with_reducible refine' aft ?fO ?il ?_); (case fO=>exact aY); (case il=>exact aY))
       |((with_reducible refine' afq ?fO ?il ?_); (case fO=>exact aY); (case il=>exact aY))
       |((with_reducible refine' afr ?fO ?il ?_); (case fO=>exact aY); (case il=>exact aY))
       |((with_reducible refine' afx ?fO ?il ?_); (case fO=>exact aY); (case il=>exact aY))
       |((with_reducible refine' afy ?fO ?il ?_); (case fO=>exact aY); (case il=>exact aY))
       |((with_reducible refine' afu ?fO ?il ?_); (case fO=>exact aY); (case il=>exact aY))
       |((with_reducible refine' afv ?fO ?il ?_); (case fO=>exact aY); (case il=>exact aY))
       |((with_reducible refine' afw ?fO ?il ?_); (case fO=>exact aY); (case il=>exact aY))
       |((with_reducible refine' afs ?fO ?il ?_); (case fO=>exact aY); (case il=>exact aY))
       |((with_reducible refine' afz ?fO ?_); (case fO=>exact aY))
       |((with_reducible refine' afl ?oZ ?fQ ?_); (case oZ=>exact aY); (case fQ=>exact aU))
       |((with_reducible refine' afm ?oZ ?fQ ?_); (case oZ=>exact aY); (case fQ=>exact aU))
       |((with_reducible refine' agM ?sD ?o6 ?qx ?_); (case sD=>exact rfl); (case o6=>exact rfl); (case qx=>exact rfl))
       |(with_reducible refine' eQ ?_)
       |((with_reducible refine' gsp ?sD ?o6 ?_ ?_); (case sD=>exact rfl); (case o6=>exact (rfl:_=Value.bool _)); (all_goals (intro hc; rw[hc]; clear hc)))
       |(with_reducible refine' pcE ?_ ?_)
       |exact yR
       |exact sK
       |fail)):
   aR P n H0 F0 A ops f cs (fun f' cs'=>CW P n H0 F0 c2 Q f' cs'):=
 qo _ h1 fun f' cs' h=>gV h.2 (by rw[h.1.eq]; exact h2 f')
end
end Go.Fw
