/-
  FnExactParseEvent: the plain law and the row: for all arguments.
-/
import Derived.Test.YtcjkjmnbdlnojaaGreatDoorParseEventG1
import Derived.Test.YtcjkjmnbdlnojaaGreatDoorFc
import Derived.Test.YtcjkjmnbdlnojaaGreatDoorRows
import Derived.Test.YtcjkjmnbdlnojaaGreatDoorTie
import Derived.Test.YtcjkjmnbdlnojaaGreatDoorCards
import Derived.LaidMore
import Derived.OpenShut
import Derived.Stop.Joined
import Derived.Stop.LaidErr
import Derived.SevenTiedAt
import Derived.Lib.LaidTab
import Derived.Lay
import Derived.Shelf.Vars
import Derived.WalkKit
import Derived.KernelRfl
/-
 Plain laws of the helpers. Written by a program.
-/
set_option maxRecDepth 100000
set_option maxHeartbeats 4000000
set_option linter.unusedVariables false
namespace Go.Proofs.YtcjkjmnbdlnojaaGreatDoor
open Go Go.Fw
def abE(a:Method):Prop:=(wV yH) a.Inputs
def abF(a:eZ):Prop:=(wV yH) a.Map
def abG(a:Fact):Prop:=(wV yH) a.Values
theorem VN:∀(a:List Int),(wV yH) a->yg a=some a:=
 Vf (fun _=>rfl) (fun _ _=>rfl) (fun x r k c hx hk=>by
   rw[xK]
   simp[jI,hk])
theorem Vl(a:Event):Ao a a=some true:=by simp[Ao]
theorem VO:∀(a:List Int),Eg a a=some true:=
 Vg (fun _ _=>rfl) (fun _ _=>rfl) (fun b x r k h=>by
   rw[xO,ma,h]
   simp)
end Go.Proofs.YtcjkjmnbdlnojaaGreatDoor
/-
 Plain laws.
-/
set_option maxRecDepth 100000
set_option linter.unusedVariables false
namespace Go.Proofs.YtcjkjmnbdlnojaaGreatDoor
open Go Go.Fw
def pV(n:Int):Bool:=decide (1<=n)&&decide (n<=3)
def j5(s:List Int):Bool:=pV (s.length:Int)&&s.all pV
theorem zO(s:List Int):qG s=some (j5 s):=by
 unfold qG
 rw[Ar (L:=vI s) (f:=fun n=>dN n 1 3) (p:=pV) (e:=pV (s.length:Int)) (fun k=>by simp[vI,dN,pV]) (fun x r k=>rfl) s 0 (fun x _=>rfl),j5,Bool.and_comm]
theorem Rw(l:List Int):zm l=some (l.any fun x=>!pV x):=by
 unfold zm Dy
 rw[nG (L:=xw) (f:=fun x=>DW x) (p:=fun x=>!pV x) (fun k=>rfl) (fun x r k=>rfl) l 0 (fun x hx=>rfl),Option.bind_some,nL]
theorem ME(s:List Int):xS s=some (j5 s):=by
 unfold xS
 rw[Rw]
 simp only[gX,Option.bind_some,j5,pV]
 cases hh:(decide (1<=(s.length:Int))&&decide ((s.length:Int)<=3))
 · simp
 · simp[List.all_eq_not_any_not,pV]
theorem GU{s:List Int}(h:j5 s=true):s.length<=3/\ ∀x∈s,1<=x/\x<=3:=by
 simp[j5,pV]at h
 exact⟨by omega,h.2⟩
theorem iX(x lo hi:Int):dN x lo hi=some (ay lo hi x):=rfl
theorem l_(x lo hi:Int):gX x lo hi=some (ay lo hi x):=rfl
def fu(s:List Int)(rel:Int):Bool:=j5 s&&ay 0 ((s.length:Int)-1) rel
theorem DX(s:List Int)(rel:Int)(hs:s.length<4294967296):qJ s rel=some (fu s rel):=by
 simp only[qJ,ME,l_,Option.bind_some,fu]
 rw[eY (by omega) (by omega)]
 cases j5 s<;>rfl
theorem UF{s:List Int}{rel:Int}(h:fu s rel=true):∃x,ix s rel=some x/\1<=x/\x<=3:=by
 simp only[fu,Bool.and_eq_true]at h
 obtain⟨x,h1,h2⟩:=Wl h.2
 exact⟨x,h1,(GU h.1).2 x (List.mem_of_getElem? h2)⟩
def gL(s:List Int)(rel:Int):Int:=(ix s rel).getD 0
theorem kI{s:List Int}{rel:Int}(h:fu s rel=true):ix s rel=some (gL s rel)/\1<=gL s rel/\gL s rel<=3:=by
 obtain⟨x,h1,h2⟩:=UF h
 unfold gL
 rw[h1]; exact⟨rfl,h2⟩
def iZ(s:List Int)(m:Method):Bool:=fu s m.Rel&&(ay 0 9 m.Limit&&(ay 0 99 m.Cost&&(ay 1 99 m.Quota&&(ib (fun _=>true) (fun y x=>decide (x<=y)) none m.Inputs&&m.Inputs.all (ay 0 (gL s m.Rel-1))))))
theorem TA(s:List Int)(m:Method)(hs:s.length<4294967296)(hm:m.Inputs.length<4294967296):xQ s m=some (iZ s m):=by
 simp only[xQ,zO,iX,Option.bind_some]
 rw[eY (by omega) (by omega)]
 have hL:fu s m.Rel=true->qA s m m.Inputs 0=some (ib (ay 0 (gL s m.Rel-1)) (fun y x=>decide (x<=y)) none m.Inputs):=fun h=>by
   obtain⟨e1,e2,e3⟩:=kI h
   have:=NQ (L:=qA s m) (P:=fun _=>True) (p:=ay 0 (gL s m.Rel-1)) (q:=fun y x=>decide (x<=y)) (e:=true) m.Inputs (fun _ _=>trivial) hm (fun _=>rfl) (fun x r _=>by
     rw[qA]
     simp only[e1,Option.bind_some,iX,Vh]
     rw[eY (by omega) (by omega)]
     cases ay 0 (gL s m.Rel-1) x<;>rfl) (fun x r k y _ _ hy hk=>by
     rw[qA]
     simp only[e1,Option.bind_some,iX,NR,Ot _ k hk,hy]
     rw[eY (by omega) (by omega)]
     cases ay 0 (gL s m.Rel-1) x<;>cases decide (x<=y)<;>rfl)
   simpa using this
 unfold iZ
 cases hh:fu s m.Rel
 · simp only[fu]at hh
   cases h1:j5 s
   · rfl
   · rw[h1,Bool.true_and]at hh
     simp[hh]
 · rw[hL hh,Hg]
   simp only[fu,Bool.and_eq_true]at hh
   rw[hh.1,hh.2]
   cases ay 0 9 m.Limit
   · rfl
   cases ay 0 99 m.Cost
   · rfl
   cases ay 1 99 m.Quota<;>rfl
theorem Md(l:List Int)(hl:l.length<4294967296):zZ l=some (ib (fun _=>true) (fun y x=>decide (x<=y)) none l):=by
 have:=NQ (L:=vF l) (P:=fun _=>True) (p:=fun _=>true) (q:=fun y x=>decide (x<=y)) (e:=true) l (fun _ _=>trivial) hl (fun _=>rfl) (fun x r _=>rfl) (fun x r k y _ _ hy hk=>by
     rw[vF]
     simp only[Option.bind_some,NR,Ot _ k hk,hy,cond_true]
     cases decide (x<=y)<;>rfl)
 simpa[zZ]using this
theorem K_(l:List Int)(a1:Int)(h1:-1000<=a1/\a1<=1000):zk l a1=some (l.any fun x=>!ay 0 (a1-1) x):=by
 unfold zk Dw
 rw[nG (L:=xq a1) (f:=fun x=>zC x a1) (p:=fun x=>!ay 0 (a1-1) x) (fun k=>rfl) (fun x r k=>rfl) l 0 (fun x hx=>by rw[zC,l_,eY (by omega) (by omega)]; rfl),Option.bind_some,nL]
theorem M4(n:Int):Ee n=some (ay 0 99 n):=rfl
theorem TC(s:List Int)(m:Method)(hs:s.length<4294967296)(hm:m.Inputs.length<4294967296):vS s m=some (iZ s m):=by
 simp only[vS,DX _ _ hs,Option.bind_some,iZ]
 cases hh:fu s m.Rel
 · rfl
 obtain⟨e1,e2,e3⟩:=kI hh
 simp only[e1,Option.bind_some,xE,Md _ hm,K_ _ _ (show -1000<=gL s m.Rel/\gL s m.Rel<=1000 by omega),l_,M4,cond_true,Bool.true_and]
 have e4:(m.Inputs.any fun x=>!ay 0 (gL s m.Rel-1) x)=!(m.Inputs.all (ay 0 (gL s m.Rel-1))):=by simp[List.all_eq_not_any_not]
 rw[e4]
 cases ib (fun _=>true) (fun y x=>decide (x<=y)) none m.Inputs<;>cases m.Inputs.all (ay 0 (gL s m.Rel-1))<;>cases ay 0 9 m.Limit<;>cases ay 0 99 m.Cost<;>cases ay 1 99 m.Quota<;>rfl
def lL(s:List Int)(r:eZ):Bool:=fu s r.From&&(fu s r.To&&(((r.Map.length:Int)==gL s r.To)&&r.Map.all (ay 0 (gL s r.From-1))))
theorem Uq(s:List Int)(r:eZ)(hs:s.length<4294967296):Au s r=some (lL s r):=by
 simp only[Au,zO,iX,Option.bind_some]
 rw[eY (by omega) (by omega)]
 have hL:fu s r.From=true->ug s r r.Map 0=some (r.Map.all (ay 0 (gL s r.From-1))):=fun h=>by
   obtain⟨e1,e2,e3⟩:=kI h
   have:=Ar (L:=ug s r) (f:=fun x=>some (ay 0 (gL s r.From-1) x)) (p:=ay 0 (gL s r.From-1)) (e:=true) (fun _=>rfl) (fun x r' k=>by
     rw[ug]
     simp only[e1,Option.bind_some,iX]
     rw[eY (by omega) (by omega)]) r.Map 0 (fun _ _=>rfl)
   simpa using this
 unfold lL
 cases hF:fu s r.From
 · simp only[fu]at hF
   cases h1:j5 s
   · rfl
   · rw[h1,Bool.true_and]at hF
     simp[hF]
 · cases hT:fu s r.To
   · simp only[fu]at hT hF
     simp only[Bool.and_eq_true]at hF
     rw[hF.1,Bool.true_and]at hT
     simp[hF,hT]
   · obtain⟨e1,-⟩:=kI hT
     rw[hL hF,e1]
     simp only[fu,Bool.and_eq_true]at hF hT
     simp only[hF,hT,Bool.not_true,cond_false,Option.bind_some,bne]
     cases ((r.Map.length:Int)==gL s r.To)<;>rfl
theorem K9(l:List Int)(a1:Int)(h1:-1000<=a1/\a1<=1000):zh l a1=some (l.any fun x=>!ay 0 (a1-1) x):=by
 unfold zh Du
 rw[nG (L:=xn a1) (f:=fun x=>zA x a1) (p:=fun x=>!ay 0 (a1-1) x) (fun k=>rfl) (fun x r k=>rfl) l 0 (fun x hx=>by rw[zA,l_,eY (by omega) (by omega)]; rfl),Option.bind_some,nL]
theorem Ur(s:List Int)(r:eZ)(hs:s.length<4294967296):Ay s r=some (lL s r):=by
 simp only[Ay,DX _ _ hs,Option.bind_some,lL]
 cases hF:fu s r.From
 · rfl
 cases hT:fu s r.To
 · rfl
 obtain⟨e1,e2,e3⟩:=kI hF
 obtain⟨e4,-⟩:=kI hT
 simp only[e1,e4,Option.bind_some,xB,K9 _ _ (show -1000<=gL s r.From/\gL s r.From<=1000 by omega),cond_true,Bool.true_and,List.all_eq_not_any_not]
 cases ((r.Map.length:Int)==gL s r.To)<;>rfl
theorem Rt(l:List Int):zl l=some (l.any fun x=>!ay 0 9 x):=by
 unfold zl Dx
 rw[nG (L:=xu) (f:=fun x=>DR x) (p:=fun x=>!ay 0 9 x) (fun k=>rfl) (fun x r k=>rfl) l 0 (fun x hx=>rfl),Option.bind_some,nL]
theorem Me(l:List Int):xM l=some (l.all (ay 0 9)):=by
 simp only[xM,Rt,Option.bind_some,List.all_eq_not_any_not]
def nV(s:List Int)(f:Fact):Bool:=fu s f.Rel&&(((f.Values.length:Int)==gL s f.Rel)&&f.Values.all (ay 0 9))
theorem Us(s:List Int)(f:Fact)(hs:s.length<4294967296):Av s f=some (nV s f):=by
 simp only[Av,zO,iX,Option.bind_some]
 rw[eY (by omega) (by omega)]
 have hL:vL f.Values 0=some (f.Values.all (ay 0 9)):=by
   have:=Ar (L:=vL) (f:=fun x=>some (ay 0 9 x)) (p:=ay 0 9) (e:=true) (fun _=>rfl) (fun x r' k=>rfl) f.Values 0 (fun _ _=>rfl)
   simpa using this
 unfold nV
 cases hF:fu s f.Rel
 · simp only[fu]at hF
   cases h1:j5 s
   · rfl
   · rw[h1,Bool.true_and]at hF
     simp[hF]
 · obtain⟨e1,-⟩:=kI hF
   rw[hL,e1]
   simp only[fu,Bool.and_eq_true]at hF
   simp only[hF,Bool.not_true,cond_false,Option.bind_some,bne]
   cases ((f.Values.length:Int)==gL s f.Rel)<;>rfl
theorem Ut(s:List Int)(f:Fact)(hs:s.length<4294967296):Az s f=some (nV s f):=by
 simp only[Az,DX _ _ hs,Option.bind_some,nV]
 cases hF:fu s f.Rel
 · rfl
 obtain⟨e1,-⟩:=kI hF
 simp only[e1,Option.bind_some,Me,cond_true,Bool.true_and]
 cases ((f.Values.length:Int)==gL s f.Rel)<;>rfl
def bC(n:Int):List UInt8:=[UInt8.ofNat (48+n.toNat)]
theorem vH{K:Nat}(hK:2<=K)(n:Int)(h:0<=n/\n<=9):fM K n=some (bC n):=by
 obtain⟨k,rfl⟩:∃k,K=k+2:=⟨K-2,by omega⟩
 obtain⟨h0,h1⟩:=h
 have:n=0\/n=1\/n=2\/n=3\/n=4\/n=5\/n=6\/n=7\/n=8\/n=9:=by omega
 rcases this with rfl|rfl|rfl|rfl|rfl|rfl|rfl|rfl|rfl|rfl<;>rfl
theorem Vm(n:Int)(h:0<=n/\n<=9):Lib.itoa n=bC n:=by
 unfold Lib.itoa bC
 rw[if_neg (by omega),Lib.decDigits,dif_pos (by omega)]
theorem xC(n:Int)(h:0<=n/\n<=9):iO n=some (bC n):=by
 rw[iO,zF,if_pos (by omega),Vm n h]; rfl
theorem UG(x y:List UInt8)(l:List (List UInt8))(sep:List UInt8):Lib.join (x::y::l) sep=x++(sep++Lib.join (y::l) sep):=by
 simp[Lib.join,List.intercalate,List.intersperse]
theorem join_one(x:List UInt8)(sep:List UInt8):Lib.join [x] sep=x:=by
 simp[Lib.join,List.intercalate,List.intersperse]
def rR(sep:List UInt8)(l:List (List UInt8)):List UInt8:=l.flatMap fun x=>sep++x
theorem D9(x:List UInt8)(sep:List UInt8):∀l:List (List UInt8),Lib.join (x::l) sep=x++rR sep l
 |[]=>by rw[join_one]; simp[rR]
 |y::l=>by rw[UG,D9 y sep l]; simp[rR]
theorem Hd(sep:List UInt8)(n:Nat):∀l:List (List UInt8),(∀x∈l,x.length<=n)->(rR sep l).length<=(sep.length+n)*l.length
 |[],_=>by simp[rR]
 |x::l,h=>by
   have h1:=Hd sep n l fun y hy=>h y (by simp[hy])
   have h2:=h x (by simp)
   simp only[rR,List.flatMap_cons,List.length_append,List.length_cons,Nat.mul_succ]at*
   omega
theorem Mf{K:Nat}(hK:2<=K):∀(l:List Int)(k:Nat)(c:List UInt8),0<k->(∀x∈l,0<=x/\x<=9)->c.length+2*l.length<4294967296->qD K l k c=some (c++rR [44] (l.map bC))
 |[],k,c,_,_,_=>by simp[qD,rR]
 |x::l,k,c,hk,h,hl=>by
   simp only[List.length_cons]at hl
   have e1:aP c [44]=some (c++[44]):=by unfold aP; rw[if_pos (by simp; omega)]
   have e2:aP (c++[44]) (bC x)=some (c++[44]++bC x):=by unfold aP; rw[if_pos (by simp[bC]; omega)]
   unfold qD
   rw[if_pos (by simpa using hk),e1,Option.bind_some,vH hK x (h x (by simp)),Option.bind_some,e2,Option.bind_some,Option.bind_some]
   dsimp only
   rw[Mf hK l _ _ (by omega) (fun y hy=>h y (by simp[hy])) (by simp[bC]; omega)]
   simp[rR]
theorem GV{K:Nat}(hK:2<=K)(l:List Int)(h:∀x∈l,0<=x/\x<=9)(hl:l.length<=3):vV K l=some (Lib.join (l.map bC) [44]):=by
 unfold vV
 cases l with
 |nil=>rfl
 |cons x l=>
   simp only[List.length_cons]at hl
   have e2:aP [] (bC x)=some (bC x):=by unfold aP; rw[if_pos (by simp[bC])]; rfl
   unfold qD
   rw[if_neg (by simp),vH hK x (h x (by simp)),Option.bind_some,e2,Option.bind_some,Option.bind_some]
   dsimp only
   rw[Mf hK l _ _ (by omega) (fun y hy=>h y (by simp[hy])) (by simp[bC]; omega),List.map_cons,D9]
theorem Mg:∀(l:List Int)(k:Nat)(c:List (List UInt8)),(∀x∈l,0<=x/\x<=9)->c.length+l.length<=3->(∀x∈c,x.length<=1)->ui [44] l k c=some (Lib.join (c++l.map bC) [44])
 |[],k,c,_,hl,hc=>by
   have hj:(Lib.join c [44]).length<=10:=by
     cases c with
     |nil=>simp[Lib.join,List.intercalate]
     |cons x c=>
       rw[D9,List.length_append]
       have h1:=Hd [44] 1 c fun y hy=>hc y (by simp[hy])
       have h2:=hc x (by simp)
       simp only[List.length_cons,List.length_nil]at h1 hl
       omega
   simp only[List.length_nil,Nat.add_zero]at hl
   unfold ui
   rw[qz,if_pos ⟨by omega,by omega⟩]
   simp
 |x::l,k,c,h,hl,hc=>by
   simp only[List.length_cons]at hl
   unfold ui
   rw[xC x (h x (by simp)),Option.bind_some,wy (by simp; omega),Option.bind_some,Mg l _ _ (fun y hy=>h y (by simp[hy])) (by simp; omega) (fun y hy=>by
     rcases List.mem_append.1 hy with hy|hy
     · exact hc y hy
     · rw[List.mem_singleton.1 hy]; simp[bC])]
   simp
theorem GX(l:List Int)(h:∀x∈l,0<=x/\x<=9)(hl:l.length<=3):vY l [44]=some (Lib.join (l.map bC) [44]):=by
 rw[vY,Mg l 0 [] h (by simpa using hl) (by simp)]; rfl
theorem x_(l:List Int)(hl:l.length<=3):(Lib.join (l.map bC) [44]).length<=7:=by
 cases l with
 |nil=>simp[Lib.join,List.intercalate]
 |cons x l=>
   rw[List.map_cons,D9,List.length_append]
   have h1:=Hd [44] 1 (l.map bC) fun y hy=>by
     obtain⟨z,-,rfl⟩:=List.mem_map.1 hy
     simp[bC]
   simp only[List.length_cons,List.length_nil,List.length_map]at h1 hl
   have:(bC x).length=1:=rfl
   omega
theorem Nz{l:List Int}(h:l.all (ay 0 9)=true):∀x∈l,0<=x/\x<=9:=by
 simpa only[List.all_eq_true,ay,Bool.and_eq_true,decide_eq_true_eq]using h
theorem DT(u:Nat):Lib.decDigits u=if u<10 then [UInt8.ofNat (48+u)]else Lib.decDigits (u / 10)++[UInt8.ofNat (48+u % 10)]:=by
 rw[Lib.decDigits]
 by_cases h:u<10
 · rw[dif_pos h,if_pos h]
 · rw[dif_neg h,if_neg h]
theorem MF:∀(m u:Nat),u<10 ^ (m+1)->(Lib.decDigits u).length<=m+1
 |0,u,h=>by rw[DT,if_pos (by simpa using h)]; simp
 |m+1,u,h=>by
   rw[DT]
   split
   · simp
   · have:=MF m (u / 10) (by rw[Nat.pow_succ]at h; omega)
     rw[List.length_append,List.length_singleton]; omega
theorem Lh:∀(m u:Nat)(n:Int)(c:List UInt8),n.natAbs=u->u<10 ^ m-> -9223372036854775808<=n/\n<=9223372036854775807->c.length+m<4294967296->oQ (m+1) n c=some ((if u=0 then []else Lib.decDigits u)++c)
 |0,u,n,c,hu,h,_,_=>by
   have h0:n=0:=by simp at h; omega
   subst h0
   have:u=0:=by simpa using hu.symm
   subst this
   unfold oQ
   rw[if_neg (by simp)]; rfl
 |m+1,u,n,c,hu,h,hr,hc=>by
   by_cases h0:u=0
   · have hn:n=0:=by omega
     subst hn
     subst h0
     unfold oQ
     rw[if_neg (by simp)]; rfl
   · have hn:n≠0:=by omega
     have hc1:∀b:UInt8,aP [b] c=some (b::c):=fun b=>by unfold aP; rw[if_pos (by simp; omega)]; rfl
     have hd:n.tdiv 10=if n<0 then -((u / 10:Nat):Int)else ((u / 10:Nat):Int):=by
       split
       · have:n= -(u:Int):=by omega
         rw[this,Int.neg_tdiv]; rfl
       · have:n=(u:Int):=by omega
         rw[this]; rfl
     have hm:n.tmod 10=if n<0 then -((u % 10:Nat):Int)else ((u % 10:Nat):Int):=by
       split
       · have:n= -(u:Int):=by omega
         rw[this,Int.neg_tmod]; rfl
       · have:n=(u:Int):=by omega
         rw[this]; rfl
     have hw:IntKind.i64.wrap (n.tdiv 10)=n.tdiv 10:=eY (by rw[hd]; split<;>omega) (by rw[hd]; split<;>omega)
     have K6:∀r:Nat,r<10->lN (IntKind.i64.wrap (48+(r:Int)))=UInt8.ofNat (48+r):=by
       intro r hr
       have:r=0\/r=1\/r=2\/r=3\/r=4\/r=5\/r=6\/r=7\/r=8\/r=9:=by omega
       rcases this with rfl|rfl|rfl|rfl|rfl|rfl|rfl|rfl|rfl|rfl<;>decide
     have hlt:u % 10<10:=Nat.mod_lt _ (by omega)
     have hgo:=Lh m (u / 10) (n.tdiv 10) (UInt8.ofNat (48+u % 10)::c) (by rw[hd]; split<;>omega) (by rw[Nat.pow_succ]at h; omega) (by rw[hd]; split<;>omega) (by simp; omega)
     have hfin:((if u / 10=0 then []else Lib.decDigits (u / 10))++UInt8.ofNat (48+u % 10)::c)=(if u=0 then []else Lib.decDigits u)++c:=by
       rw[if_neg h0,DT u]
       by_cases h9:u<10
       · rw[if_pos h9,if_pos (by omega),Nat.mod_eq_of_lt h9]; rfl
       · rw[if_neg h9,if_neg (by omega)]; simp
     rw[hfin]at hgo
     unfold oQ
     rw[if_pos (by simpa using hn),hw,hm]
     by_cases hneg:n<0
     · rw[if_pos hneg]
       by_cases hz:u % 10=0
       · rw[if_neg (by simp only[decide_eq_true_eq]; omega),show -((u % 10:Nat):Int)=((u % 10:Nat):Int)from by omega,K6 _ hlt,hc1,Option.bind_some]
         exact hgo
       · rw[if_pos (by simp only[decide_eq_true_eq]; omega),show IntKind.i64.wrap (- -((u % 10:Nat):Int))=((u % 10:Nat):Int)from by rw[Int.neg_neg]; exact eY (by omega) (by omega),K6 _ hlt,hc1,Option.bind_some]
         exact hgo
     · rw[if_neg hneg,if_neg (by simp only[decide_eq_true_eq]; omega),K6 _ hlt,hc1,Option.bind_some]
       exact hgo
theorem SH(k:Nat)(n:Int)(hr:-9223372036854775808<=n/\n<=9223372036854775807)(hk:19<=k)(hk2:k<1000):fM (k+1) n=some (Lib.itoa n):=by
 unfold fM Lib.itoa
 by_cases h0:n=0
 · subst h0
   rw[if_pos (by decide),if_neg (by decide),show Int.toNat 0=0 from rfl,DT]; rfl
 · rw[if_neg (by simpa using h0),Lh k n.natAbs n [] rfl (Nat.lt_of_lt_of_le (show n.natAbs<10 ^ 19 by omega) (Nat.pow_le_pow_right (by decide) hk)) hr (by simp; omega),Option.bind_some,if_neg (show ¬ n.natAbs=0 by omega),List.append_nil]
   dsimp only
   by_cases hneg:n<0
   · have:=MF 18 n.natAbs (by omega)
     rw[if_pos (by simpa using hneg),if_pos hneg]
     unfold aP
     rw[if_pos (by simp; omega)]; rfl
   · rw[if_neg (by simpa using hneg),if_neg hneg,show n.natAbs=n.toNat from by omega]
theorem zD(n:Int)(hr:-9223372036854775808<=n/\n<=9223372036854775807):iO n=some (Lib.itoa n):=by
 rw[iO,zF,if_pos hr]; rfl
theorem dR{a b:List UInt8}(h:a.length+b.length<4294967296):aP a b=some (a++b):=by unfold aP; rw[if_pos (by omega)]
def Ep(f:Fact):Bool:=ay 0 2 f.Rel&&(ay 1 3 (f.Values.length:Int)&&f.Values.all (ay 0 9))
def nW(f:Fact):List UInt8:=if Ep f then [114]++bC f.Rel++[40]++Lib.join (f.Values.map bC) [44]++[41]else []
theorem Nc{m v:List UInt8}(hm:m.length<=1)(hv:v.length<=7):(((aP [114] m).bind fun x=>(aP x [40]).bind fun y=>(aP y v).bind fun z=>(aP z [41]).bind fun u=>some u):Option (List UInt8))=some ([114]++m++[40]++v++[41]):=by
 rw[dR (by simp; omega),Option.bind_some,dR (by simp; omega),Option.bind_some,dR (by simp; omega),Option.bind_some,dR (by simp; omega),Option.bind_some]
theorem Li{K:Nat}(hK:2<=K)(a:Fact)(hm:0<=a.Rel/\a.Rel<=2)(hl:a.Values.length<=3):∀(l:List Int)(k:Nat),(l.all (ay 0 9)=true-> ∀x∈a.Values,0<=x/\x<=9)->tO a K l k=some (if l.all (ay 0 9)then [114]++bC a.Rel++[40]++Lib.join (a.Values.map bC) [44]++[41]else [])
 |[],k,hv=>by
   have hv':=hv rfl
   unfold tO
   rw[vH hK _ (by omega),Option.bind_some,GV hK a.Values hv' hl]
   simp only[Option.bind_some]
   rw[if_pos (by rfl)]
   exact Nc (by simp[bC]) (x_ a.Values hl)
 |x::l,k,hv=>by
   unfold tO
   rw[iX,Option.bind_some]
   cases h:ay 0 9 x
   · simp[h]
   · rw[if_neg (by simp),Li hK a hm hl l _ (fun h'=>hv (by simp[h,h']))]; simp[h]
theorem SI{K:Nat}(hK:2<=K)(a:Fact):zQ K a=some (nW a):=by
 unfold zQ nW Ep
 rw[iX,Option.bind_some]
 cases h1:ay 0 2 a.Rel
 · rfl
 rw[iX,Option.bind_some]
 cases h2:ay 1 3 (a.Values.length:Int)
 · rfl
 have hm:0<=a.Rel/\a.Rel<=2:=by simpa only[ay,Bool.and_eq_true,decide_eq_true_eq]using h1
 have hn:1<=(a.Values.length:Int)/\(a.Values.length:Int)<=3:=by simpa only[ay,Bool.and_eq_true,decide_eq_true_eq]using h2
 simp only[Bool.not_true,cond_false,Option.bind_some,Bool.false_eq_true,if_false,Bool.true_and]
 exact Li hK a hm (by omega) a.Values 0 Nz
theorem SK(a:Fact):zT a=some (nW a):=by
 unfold zT nW Ep nN
 rw[l_,Option.bind_some,Option.bind_some]
 cases h1:ay 0 2 a.Rel
 · rfl
 rw[l_,Option.bind_some]
 cases h2:ay 1 3 (a.Values.length:Int)
 · rfl
 have hm:0<=a.Rel/\a.Rel<=2:=by simpa only[ay,Bool.and_eq_true,decide_eq_true_eq]using h1
 have hn:1<=(a.Values.length:Int)/\(a.Values.length:Int)<=3:=by simpa only[ay,Bool.and_eq_true,decide_eq_true_eq]using h2
 simp only[Bool.not_true,cond_false,Me,Option.bind_some,Bool.true_and]
 cases h3:a.Values.all (ay 0 9)
 · rfl
 · simp only[Bool.not_true,Bool.false_eq_true,if_false,if_true]
   rw[xC _ (by omega),Option.bind_some,GX a.Values (Nz h3) (by omega)]
   simp only[Option.bind_some]
   exact Nc (by simp[bC]) (x_ a.Values (by omega))
theorem TD{zs:List Int}(h:zs.Pairwise (· <= ·)):∀m,m<=zs.length->
   (Lib.compactUpTo zs.toArray m).Pairwise (· < ·)/\(∀x,x∈Lib.compactUpTo zs.toArray m↔x∈zs.take m)/\(∀x∈Lib.compactUpTo zs.toArray m,∀y,zs[m]?=some y->x<=y):=by
 intro m
 induction m with
 |zero=>intro _; simp[Lib.compactUpTo]
 |succ m ih=>
   intro hm
   obtain⟨i1,i2,i3⟩:=ih (by omega)
   have hlt:m<zs.length:=by omega
   have hg:zs.toArray[m]! =zs[m]:=by simp[hlt]
   have hnext:∀x,x∈zs.take (m+1)-> ∀y,zs[m+1]?=some y->x<=y:=by
     intro x hx y hy
     obtain⟨j,hj,rfl⟩:=List.mem_iff_getElem.1 hx
     obtain⟨hy1,rfl⟩:=List.getElem?_eq_some_iff.1 hy
     rw[List.getElem_take]
     simp only[List.length_take]at hj
     exact List.pairwise_iff_getElem.1 h j (m+1) (by omega) hy1 (by omega)
   rw[Lib.compactUpTo_succ,hg]
   have htake:zs.take (m+1)=zs.take m++[zs[m]]:=by rw[List.take_succ_eq_append_getElem hlt]
   by_cases hk:Lib.keeps zs.toArray m=true
   · rw[if_pos hk]
     have hlow:∀x∈Lib.compactUpTo zs.toArray m,x<zs[m]:=by
       intro x hx
       have hm0:m≠0:=by
         intro e; subst e; simp[Lib.compactUpTo]at hx
       have hpl:m-1<zs.length:=by omega
       have hpm:zs.toArray[m-1]! =zs[m-1]:=by simp[hpl]
       have hne:zs[m]≠zs[m-1]:=by
         simp only[Lib.keeps,decide_eq_true_eq,hg,hpm]at hk
         rcases hk with h0|h0
         · exact absurd h0 hm0
         · exact h0
       have hx1:=(i2 x).1 hx
       obtain⟨j,hj,rfl⟩:=List.mem_iff_getElem.1 hx1
       rw[List.getElem_take]at*
       simp only[List.length_take]at hj
       have a1:zs[j]<=zs[m-1]:=by
         rcases Nat.lt_or_ge j (m-1)with h1|h1
         · exact List.pairwise_iff_getElem.1 h j (m-1) (by omega) hpl h1
         · have:j=m-1:=by omega
           subst this; exact Int.le_refl _
       have a2:zs[m-1]<=zs[m]:=List.pairwise_iff_getElem.1 h (m-1) m hpl hlt (by omega)
       omega
     refine⟨?_,?_,?_⟩
     · rw[List.pairwise_append]
       exact⟨i1,by simp,fun a ha b hb=>by simp at hb; subst hb; exact hlow a ha⟩
     · intro x; rw[htake,List.mem_append,List.mem_append,i2]
     · intro x hx y hy
       apply hnext x _ y hy
       rw[htake,List.mem_append,←i2,←List.mem_append]; exact hx
   · rw[if_neg hk,List.append_nil]
     have hm0:m≠0:=fun e=>hk (by simp[Lib.keeps,e])
     have hpl:m-1<zs.length:=by omega
     have hpm:zs.toArray[m-1]! =zs[m-1]:=by simp[hpl]
     have he:zs[m]=zs[m-1]:=by
       simp only[Lib.keeps,decide_eq_true_eq,hg,hpm]at hk
       exact Classical.byContradiction fun hc=>hk (.inr hc)
     have hin:zs[m]∈zs.take m:=by
       rw[he]
       exact List.mem_iff_getElem.2 ⟨m-1,by simp; omega,by rw[List.getElem_take]⟩
     have hiff:∀x,x∈zs.take (m+1)↔x∈zs.take m:=by
       intro x; rw[htake,List.mem_append,List.mem_singleton]
       exact⟨fun h=>h.elim id fun h=>h ▸ hin,.inl⟩
     refine⟨i1,fun x=>by rw[i2,hiff],fun x hx y hy=>hnext x ((hiff x).2 ((i2 x).1 hx)) y hy⟩
theorem TT{zs:List Int}(h:zs.Pairwise (· <= ·)):(Lib.compact zs).Pairwise (· < ·)/\ ∀x,x∈Lib.compact zs↔x∈zs:=by
 obtain⟨h1,h2,-⟩:=TD h zs.length (Nat.le_refl _)
 exact⟨h1,fun x=>by rw[Lib.compact,h2,List.take_length]⟩
theorem OZ:∀{a b:List Int},a.Pairwise (· < ·)->b.Pairwise (· < ·)->(∀x,x∈a↔x∈b)->a=b
 |[],[],_,_,_=>rfl
 |[],y::b,_,_,h=>absurd ((h y).2 (by simp)) (by simp)
 |x::a,[],_,_,h=>absurd ((h x).1 (by simp)) (by simp)
 |x::a,y::b,ha,hb,h=>by
   rw[List.pairwise_cons]at ha hb
   have e:x=y:=by
     have h1:=(h x).1 (by simp)
     have h2:=(h y).2 (by simp)
     rw[List.mem_cons]at h1 h2
     rcases h1 with h1|h1
     · exact h1
     · rcases h2 with h2|h2
       · exact h2.symm
       · have:=hb.1 x h1; have:=ha.1 y h2; omega
   subst e
   rw[OZ ha.2 hb.2 fun z=>?_]
   constructor
   · intro hz
     have h1:=(h z).1 (by simp[hz])
     have:=ha.1 z hz
     rcases List.mem_cons.1 h1 with h1|h1
     · omega
     · exact h1
   · intro hz
     have h1:=(h z).2 (by simp[hz])
     have:=hb.1 z hz
     rcases List.mem_cons.1 h1 with h1|h1
     · omega
     · exact h1
def mq(x:Int):List Int->List Int
 |[]=>[x]
 |y::l=>if x<y then x::y::l else y::mq x l
theorem Hl{x:Int}:∀{l:List Int}{y:Int},y∈mq x l↔y=x\/y∈l
 |[],y=>by simp[mq]
 |z::l,y=>by
   unfold mq
   split
   · simp
   · rw[List.mem_cons,Hl,List.mem_cons]
     constructor<;>rintro (h|h|h)<;>simp[h]
theorem OB{x:Int}:∀{l:List Int},l.Pairwise (· < ·)->x∉l->(mq x l).Pairwise (· < ·)
 |[],_,_=>by simp[mq]
 |z::l,h,hn=>by
   unfold mq
   rw[List.mem_cons,not_or]at hn
   rw[List.pairwise_cons]at h
   split
   · rename_i hx
     rw[List.pairwise_cons,List.pairwise_cons]
     refine⟨fun a ha=>?_,h⟩
     rcases List.mem_cons.1 ha with rfl|ha
     · exact hx
     · have:=h.1 a ha; omega
   · rename_i hx
     rw[List.pairwise_cons]
     refine⟨fun a ha=>?_,OB h.2 hn.2⟩
     rcases Hl.1 ha with rfl|ha
     · omega
     · exact h.1 a ha
theorem NW{x:Int}:∀{l:List Int},(mq x l).length=l.length+1
 |[]=>rfl
 |z::l=>by
   unfold mq
   split
   · rfl
   · simp[NW]
def jR(l:List Int)(x:Int):List Int:=if x∈l then l else mq x l
theorem Vn{l:List Int}{x y:Int}:y∈jR l x↔y=x\/y∈l:=by
 unfold jR
 split
 · rename_i h; exact⟨.inr,fun h'=>h'.elim (fun e=>e ▸ h) id⟩
 · exact Hl
theorem VP{l:List Int}{x:Int}(h:l.Pairwise (· < ·)):(jR l x).Pairwise (· < ·):=by
 unfold jR
 split
 · exact h
 · exact OB h (by assumption)
theorem NY{l:List Int}{x:Int}:(jR l x).length<=l.length+1:=by
 unfold jR
 split
 · omega
 · rw[NW]; exact Nat.le_refl _
theorem Hm{y:Int}:∀{v l:List Int},y∈v.foldl jR l↔y∈l\/y∈v
 |[],l=>by simp
 |x::v,l=>by
   rw[List.foldl_cons,Hm,Vn,List.mem_cons]
   constructor
   · rintro ((h|h)|h)<;>simp[h]
   · rintro (h|h|h)<;>simp[h]
theorem OC:∀{v l:List Int},l.Pairwise (· < ·)->(v.foldl jR l).Pairwise (· < ·)
 |[],_,h=>h
 |x::v,l,h=>OC (v:=v) (VP h)
theorem NZ:∀{v l:List Int},(v.foldl jR l).length<=l.length+v.length
 |[],_=>Nat.le_refl _
 |x::v,l=>by
   have h1:=NZ (v:=v) (l:=jR l x)
   have h2:=NY (l:=l) (x:=x)
   simp only[List.foldl_cons,List.length_cons]; omega
theorem UW(v:List Int):v.foldl jR []=Lib.compact (v.mergeSort fun x y=>decide (x<=y)):=by
 have hs:(v.mergeSort fun x y=>decide (x<=y)).Pairwise (· <= ·):=by
   have:=List.pairwise_mergeSort (le:=fun x y:Int=>decide (x<=y)) (fun a b c h1 h2=>by simp only[decide_eq_true_eq]at*; omega) (fun a b=>by simp only[Bool.or_eq_true,decide_eq_true_eq]; omega) v
   exact this.imp fun h=>by simpa using h
 obtain⟨c1,c2⟩:=TT hs
 exact OZ (OC (by simp)) c1 fun x=>by rw[Hm,c2,List.mem_mergeSort]; simp
theorem G_(x:Int)(l:List Int):uE l x=some (decide (x∈l)):=by
 unfold uE
 generalize 0=k
 induction l generalizing k with
 |nil=>rfl
 |cons y l ih=>
   unfold xR
   by_cases h:y=x
   · subst h; simp
   · rw[if_neg (by simpa using h),ih]
     congr 1
     simp only[List.mem_cons,decide_eq_decide]
     exact⟨.inr,fun h'=>h'.elim (fun e=>absurd e.symm h) id⟩
theorem DU(l:List Int)(x:Int)(hl:l.length<4294967296):∀(m i:Nat)(c:List Int)(b:Bool),i<=l.length->l.length-i<m->c.length+(l.length-i)+(bif b then 0 else 1)<4294967296->vR l x m c b (i:Int)=some (if b then c++l.drop i else c++mq x (l.drop i))
 |0,_,_,_,_,hm,_=>by omega
 |m+1,i,c,b,hi,hm,h=>by
   unfold vR
   by_cases hlt:i<l.length
   · obtain⟨y,t,hg,hd,ht⟩:∃y t,ix l (i:Int)=some y/\l.drop i=y::t/\l.drop (i+1)=t:=⟨_,_,by rw[ma,List.getElem?_eq_getElem hlt],List.drop_eq_getElem_cons hlt,rfl⟩
     have hw:IntKind.i64.wrap ((i:Int)+1)=((i+1:Nat):Int):=by rw[eY (by omega) (by omega)]; rfl
     rw[if_pos (by simp only[decide_eq_true_eq]; omega)]
     simp only[hg,Option.bind_some,hw]
     cases b
     · simp only[cond_false]at h
       by_cases hx:x<y
       · simp only[Bool.not_false,cond_true,hx,decide_true,if_true,Option.bind_some]
         rw[wy (by simp; omega),Option.bind_some,wy (by simp; omega),Option.bind_some,Option.bind_some]
         dsimp only
         rw[DU l x hl m (i+1) _ _ hlt (by omega) (by simp; omega),ht,hd]
         simp[mq,hx]
       · simp only[Bool.not_false,cond_true,hx,decide_false,Bool.false_eq_true,if_false,Option.bind_some]
         rw[wy (by simp; omega),Option.bind_some,Option.bind_some]
         dsimp only
         rw[DU l x hl m (i+1) _ _ hlt (by omega) (by simp; omega),ht,hd]
         simp[mq,hx]
     · simp only[cond_true]at h
       simp only[Bool.not_true,cond_false,Bool.false_eq_true,if_false,Option.bind_some]
       rw[wy (by simp; omega),Option.bind_some,Option.bind_some]
       dsimp only
       rw[DU l x hl m (i+1) _ _ hlt (by omega) (by simp; omega),ht,hd]
       simp
   · have hd:l.drop i=[]:=List.drop_eq_nil_of_le (by omega)
     rw[if_neg (by simp only[decide_eq_true_eq]; omega),hd]
     cases b
     · simp only[cond_false]at h
       rw[if_pos (show (!false)=true from rfl),wy (by simp; omega),if_neg (by simp)]; rfl
     · simp
theorem UH(l:List Int)(x:Int)(h:l.length+1<4294967296):AP l x=some (jR l x):=by
 unfold AP jR
 rw[G_,Option.bind_some]
 by_cases hx:x∈l
 · rw[if_pos (by simpa using hx),if_pos hx]
 · rw[if_neg (by simpa using hx),if_neg hx]
   have:=DU l x (by omega) (((l.length:Int)-0).toNat+2) 0 [] false (by omega) (by omega) (by simpa using h)
   rw[show ((0:Nat):Int)=0 from rfl]at this
   rw[this]
   simp
theorem VQ{v:List Int}(h:v.Pairwise (· < ·))(lo:Int)(n:Nat)(hb:∀x∈v,lo<=x/\x<lo+n):v.length<=n:=by
 induction v generalizing lo n with
 |nil=>simp
 |cons x v ih=>
   rw[List.pairwise_cons]at h
   have hx:=hb x (by simp)
   have:=ih h.2 (x+1) (n-(x+1-lo).toNat) (fun y hy=>by
     have a:=h.1 y hy
     have b:=hb y (by simp[hy])
     omega)
   simp only[List.length_cons]; omega
theorem Es:∀(o:Option Int)(l:List Int),ib (fun _=>true) (fun y x=>decide (x<=y)) o l=true↔(∀y,o=some y-> ∀x∈l,y<x)/\l.Pairwise (· < ·)
 |o,[]=>by cases o<;>simp[ib]
 |none,x::l=>by
   rw[ib,Bool.true_and,Es (some x) l,List.pairwise_cons]
   simp
 |some y,x::l=>by
   rw[ib,Bool.and_eq_true,Bool.and_eq_true,Es (some x) l,List.pairwise_cons]
   simp only[List.mem_cons,forall_eq_or_imp,Option.some.injEq,forall_eq',Bool.not_eq_true',decide_eq_false_iff_not,Int.not_le,true_and]
   constructor
   · rintro⟨b,d,e⟩
     exact⟨⟨b,fun z hz=>Int.lt_trans b (d z hz)⟩,d,e⟩
   · rintro⟨⟨b,_⟩,d,e⟩
     exact⟨b,d,e⟩
theorem Uu{s:List Int}{m:Method}(h:iZ s m=true):m.Inputs.length<=3:=by
 simp only[iZ,Bool.and_eq_true,List.all_eq_true]at h
 obtain⟨h1,-,-,-,h2,h3⟩:=h
 have h4:=((Es none _).1 h2).2
 have h5:=kI h1
 refine VQ h4 0 3 fun x hx=>?_
 have:=h3 x hx
 simp only[ay,Bool.and_eq_true,decide_eq_true_eq]at this
 omega
theorem TU(n:Int):Ak n=some (ay 0 9 n):=rfl
theorem Nf(t:Int):yt t=some (ay 10 17 t):=rfl
theorem Ng(t:Int):yu t=some (ay 10 17 t):=rfl
def fZ(t:Int):Bool:=ay 0 9 t||ay 10 17 t
theorem M5(t:Int):vX t=some (fZ t):=by
 rw[vX,iX,Option.bind_some,Nf,fZ]
 cases ay 0 9 t<;>rfl
theorem Uv(t:Int):AB t=some (fZ t):=by
 rw[AB,TU,Option.bind_some,Ng,fZ]
 cases ay 0 9 t<;>rfl
theorem MG(l:List Int):xU l=some (l.all fZ):=by
 unfold xU Dv Dz
 rw[nG (L:=xx) (f:=zU) (p:=fun x=>!fZ x) (fun k=>rfl) (fun x r k=>rfl) l 0 (fun x _=>by rw[zU,Uv]; rfl),Option.bind_some,nL,Option.bind_some]
 simp[List.all_eq_not_any_not]
def lM(s:List Int)(a:aW):Bool:=fu s a.Rel&&(((a.Terms.length:Int)==gL s a.Rel)&&a.Terms.all fZ)
theorem Uw(s:List Int)(a:aW)(hs:s.length<4294967296):Aw s a=some (lM s a):=by
 have hL:vN a.Terms 0=some (a.Terms.all fZ):=by
   have:=Ar (L:=vN) (f:=vX) (p:=fZ) (e:=true) (fun k=>rfl) (fun x r k=>rfl) a.Terms 0 (fun x _=>M5 x)
   rw[this]; simp
 unfold Aw lM
 rw[zO,Option.bind_some]
 cases h1:j5 s
 · simp[fu,h1]
 rw[iX,Option.bind_some,eY (by omega) (by omega)]
 cases h2:ay 0 ((s.length:Int)-1) a.Rel
 · simp[fu,h1,h2]
 have hh:fu s a.Rel=true:=by simp[fu,h1,h2]
 rw[(kI hh).1,hL,hh]
 by_cases e:(a.Terms.length:Int)=gL s a.Rel
 · simp[e]
 · simp[e]
theorem Ux(s:List Int)(a:aW)(hs:s.length<4294967296):AJ s a=some (lM s a):=by
 unfold AJ lM
 rw[DX _ _ hs,Option.bind_some]
 cases hh:fu s a.Rel
 · rfl
 rw[(kI hh).1,MG]
 cases e:((a.Terms.length:Int)==gL s a.Rel)<;>simp[e]
def gM(p:Int->Bool)(l:List aW):List Int:=((l.flatMap (·.Terms)).filter p).foldl jR []
def dx(l:List aW):Nat:=(l.flatMap (·.Terms)).length
theorem UX{p:Int->Bool}{v l:List Int}:((v.filter p).foldl jR l).length<=l.length+v.length:=by
 have h1:=NZ (v:=v.filter p) (l:=l)
 have h2:=List.length_filter_le p v
 omega
theorem Tt(x:aW)(hx:x.Terms.length<4294967296):∀(m i:Nat)(c:List Int),i<=x.Terms.length->x.Terms.length-i<m->c.length+(x.Terms.length-i)<4294967295->uh x m c (i:Int)=some (((x.Terms.drop i).filter (ay 10 17)).foldl jR c):=by
 intro m
 induction m with
 |zero=>intro i c _ h _; omega
 |succ m ih=>
   intro i c hi hm hc
   unfold uh
   by_cases hlt:i<x.Terms.length
   · rw[if_pos (by simpa using hlt),ma,List.getElem?_eq_getElem hlt,Option.bind_some,Nf,Option.bind_some,List.drop_eq_getElem_cons hlt,List.filter_cons]
     cases hp:(ay 10 17) x.Terms[i]
     · rw[if_neg (by simp),Option.bind_some,if_neg (by simp)]
       dsimp only
       rw[show IntKind.i64.wrap ((i:Int)+1)=((i+1:Nat):Int)from by rw[eY (by omega) (by omega)]; rfl,ih (i+1) _ (by omega) (by omega) (by omega)]
     · have:=NY (l:=c) (x:=x.Terms[i])
       rw[if_pos rfl,Option.bind_some,UH _ _ (by omega),Option.bind_some,Option.bind_some,if_pos rfl]
       dsimp only
       rw[show IntKind.i64.wrap ((i:Int)+1)=((i+1:Nat):Int)from by rw[eY (by omega) (by omega)]; rfl,ih (i+1) _ (by omega) (by omega) (by omega),List.foldl_cons]
   · rw[if_neg (by simpa using hlt),List.drop_eq_nil_of_le (by omega)]; rfl
theorem Mh:∀(l:List aW)(k:Nat)(c:List Int),c.length+dx l<4294967295->vM l k c=some (((l.flatMap (·.Terms)).filter (ay 10 17)).foldl jR c)
 |[],k,c,_=>rfl
 |a::l,k,c,h=>by
   simp only[dx,List.flatMap_cons,List.length_append]at h
   have:=UX (p:=(ay 10 17)) (v:=a.Terms) (l:=c)
   unfold vM
   have e:uh a (a.Terms.length+2) c 0=some (((a.Terms.drop 0).filter (ay 10 17)).foldl jR c):=Tt a (by omega) _ 0 c (by omega) (by omega) (by omega)
   rw[show ((a.Terms.length:Int)-0).toNat+2=a.Terms.length+2 by omega,e,Option.bind_some]
   dsimp only
   rw[List.drop_zero,Mh l _ _ (by simp only[dx]; omega),List.flatMap_cons,List.filter_append,List.foldl_append]
theorem GY(q:bG)(h:dx q.Atoms<4294967295):vW q=some (gM (ay 10 17) q.Atoms):=by
 rw[vW,Mh _ _ _ (by simpa using h)]; rfl
theorem RY(l:List Int)(c:List Int)(h:c.length+l.length<4294967296):tF l 0 c=some (c++l.filter (ay 10 17)):=by
 have:=Oy (L:=tF) (P:=fun _=>True) (p:=(ay 10 17)) (g:=fun x:Int=>x) (fun _ _=>rfl) (fun x r k c _ hc=>by
   rw[tF,Ng,Option.bind_some]
   cases (ay 10 17) x
   · rw[if_neg (by simp),if_neg (by simp)]; rfl
   · rw[if_pos rfl,app1 hc,if_pos rfl]; rfl) l 0 c (fun _ _=>trivial) h
 rw[this,List.map_id']
theorem Ld:∀(l:List aW)(k:Nat)(c:List Int),c.length+dx l<4294967296->tH l k c=some (Lib.compact ((c++(l.flatMap (·.Terms)).filter (ay 10 17)).mergeSort fun x y=>decide (x<=y)))
 |[],k,c,_=>by simp[tH,Gv,Gu]
 |a::l,k,c,h=>by
   simp only[dx,List.flatMap_cons,List.length_append]at h
   have:=List.length_filter_le (ay 10 17) a.Terms
   unfold tH
   rw[RY a.Terms c (by omega),Option.bind_some]
   dsimp only
   rw[Ld l _ _ (by simp only[dx,List.length_append]; omega),List.flatMap_cons,List.filter_append,List.append_assoc]
theorem M6(q:bG)(h:dx q.Atoms<4294967295):AA q=some (gM (ay 10 17) q.Atoms):=by
 rw[AA,DJ,Ld _ _ _ (by simp; omega),Option.bind_some,List.nil_append,gM,UW]
theorem RQ(l:List Int)(v:Int):zz l v=some (wW (fun x=>v==x) l 0):=by
 rw[zz]
 exact nG (L:=xy v) (f:=fun x=>some (v==x)) (p:=fun x=>v==x) (fun _=>rfl) (fun _ _ _=>rfl) l 0 (fun _ _=>rfl)
theorem Lc(l:List Int)(v:Int):zy l v=some (decide (v∈l)):=by
 rw[zy,RQ,Option.bind_some,nL]
 congr 1
 rw[Bool.eq_iff_iff]
 simp
def kJ(s:List Int)(q:bG):Bool:=q.Atoms.all (lM s)&&(q.Head.all (fun t=>decide (t∈gM (ay 10 17) q.Atoms))&&(j5 s&&(ay 1 4 (q.Atoms.length:Int)&&decide ((q.Head.length:Int)<=3))))
theorem SN(s:List Int)(q:bG)(v:List Int):∀(l:List Int)(k:Nat),t_ s q v l k=some (l.all (fun t=>decide (t∈v))&&(j5 s&&(ay 1 4 (q.Atoms.length:Int)&&decide ((q.Head.length:Int)<=3)))):=by
 intro l
 induction l with
 |nil=>
   intro k
   rw[t_,zO,Option.bind_some,iX]
   cases j5 s<;>cases ay 1 4 (q.Atoms.length:Int)<;>rfl
 |cons x l ih=>
   intro k
   rw[t_,G_,Option.bind_some,ih,List.all_cons]
   cases decide (x∈v)<;>rfl
theorem MP(s:List Int)(q:bG)(hs:s.length<4294967296)(h:dx q.Atoms<4294967295):xX s q=some (kJ s q):=by
 have key:∀(l:List aW)(k:Nat),uf s q l k=some (l.all (lM s)&&(q.Head.all (fun t=>decide (t∈gM (ay 10 17) q.Atoms))&&(j5 s&&(ay 1 4 (q.Atoms.length:Int)&&decide ((q.Head.length:Int)<=3))))):=by
   intro l
   induction l with
   |nil=>
     intro k
     rw[uf,GY q h,Option.bind_some,SN]
     simp
   |cons x l ih=>
     intro k
     rw[uf,Uw s x hs,Option.bind_some,ih,List.all_cons]
     cases lM s x<;>rfl
 rw[xX,key]; rfl
theorem TV(s:List Int)(q:bG)(hs:s.length<4294967296)(h:dx q.Atoms<4294967295):Am s q=some (kJ s q):=by
 have h1:zf q.Atoms s=some (q.Atoms.any fun a=>!lM s a):=by
   unfold zf Dt
   rw[nG (L:=xm s) (f:=fun a=>Aa a s) (p:=fun a=>!lM s a) (fun k=>rfl) (fun x r k=>rfl) q.Atoms 0 (fun x _=>by rw[Aa,Ux s x hs]; rfl),Option.bind_some,nL]
 have h2:vz q.Head (gM (ay 10 17) q.Atoms)=some (q.Head.any fun t=>!decide (t∈gM (ay 10 17) q.Atoms)):=by
   unfold vz zn
   rw[nG (L:=vw _) (f:=fun t=>vO t (gM (ay 10 17) q.Atoms)) (p:=fun t=>!decide (t∈gM (ay 10 17) q.Atoms)) (fun k=>rfl) (fun x r k=>rfl) q.Head 0 (fun x _=>by rw[vO,Lc]; rfl),Option.bind_some,nL]
 unfold Am kJ
 rw[ME,Option.bind_some,l_,Option.bind_some,h1,Option.bind_some,vU,M6 q h,Option.bind_some,h2]
 have e1:(q.Atoms.any fun a=>!lM s a)=!(q.Atoms.all (lM s)):=by simp[List.all_eq_not_any_not]
 have e2:(q.Head.any fun t=>!decide (t∈gM (ay 10 17) q.Atoms))=!(q.Head.all fun t=>decide (t∈gM (ay 10 17) q.Atoms)):=by simp[List.all_eq_not_any_not]
 rw[e1,e2]
 cases j5 s<;>cases ay 1 4 (q.Atoms.length:Int)<;>cases q.Atoms.all (lM s)<;>cases decide ((q.Head.length:Int)<=3)<;>cases (q.Head.all fun t=>decide (t∈gM (ay 10 17) q.Atoms))<;>rfl
theorem OD:∀{l:List aW},(∀a∈l,a.Terms.length<=3)->dx l<=3*l.length
 |[],_=>by simp[dx]
 |a::l,h=>by
   have h1:=h a (by simp)
   have h2:=OD (l:=l) fun x hx=>h x (by simp[hx])
   simp only[dx,List.flatMap_cons,List.length_append,List.length_cons]at*; omega
theorem Uy{p:Int->Bool}{l:List aW}{v:Int}:v∈gM p l↔v∈l.flatMap (·.Terms)/\p v=true:=by
 rw[gM,Hm,List.mem_filter]; simp
theorem VR(s p:List UInt8):∃b,vB s p=some b/\(b=true->p.length<=s.length):=by
 unfold vB
 by_cases h:(p.length:Int)<=(s.length:Int)
 · rw[decide_eq_true h,cond_true,jf (by simp),Option.bind_some,Option.bind_some]
   exact⟨_,rfl,fun _=>by omega⟩
 · rw[decide_eq_false h,cond_false,Option.bind_some]
   exact⟨_,rfl,fun h=>by simp at h⟩
theorem AL(s p:List UInt8):∃r,kY s p=some r/\r.length<=s.length:=by
 unfold kY zo
 obtain⟨b,e,h⟩:=VR s p
 rw[e,Option.bind_some]
 cases b
 · exact⟨s,rfl,Nat.le_refl _⟩
 · have:=h rfl
   rw[if_pos rfl,jf (by simp; omega),Option.bind_some,Option.bind_some]
   exact⟨_,rfl,by simp⟩
theorem OE(s p:List UInt8)(hl:s.length<=1048576):∃b,qo s p=some b/\(b=true->p.length<=s.length):=by
 unfold qo
 by_cases h:(p.length:Int)<=(s.length:Int)
 · rw[decide_eq_true h,cond_true,eY (by omega) (by omega),jf (by simp; omega),Option.bind_some,Option.bind_some]
   exact⟨_,rfl,fun _=>by omega⟩
 · rw[decide_eq_false h,cond_false,Option.bind_some]
   exact⟨_,rfl,fun h=>by simp at h⟩
theorem Vo(s p:List UInt8)(hl:s.length<=1048576):∃r,tC s p=some r/\r.length<=s.length:=by
 unfold tC zq
 obtain⟨b,e,h⟩:=OE s p hl
 rw[e,Option.bind_some]
 cases b
 · exact⟨s,rfl,Nat.le_refl _⟩
 · have:=h rfl
   rw[if_pos rfl,eY (by omega) (by omega),jf (by simp; omega),Option.bind_some,Option.bind_some]
   exact⟨_,rfl,by simp⟩
theorem Nh(sep:List UInt8):∀(k:Nat)(s:List UInt8),(Lib.splitK sep 0 k s).length<=k+1/\ ∀y∈Lib.splitK sep 0 k s,y.length<=s.length
 |0,s=>by simp[Lib.splitK]
 |k+1,s=>by
   rw[Lib.splitK]
   split
   · simp
   · obtain⟨h1,h2⟩:=Nh sep k (s.drop ((Lib.index s sep).toNat+sep.length))
     refine⟨by simp only[List.length_cons]; omega,fun y hy=>?_⟩
     rcases List.mem_cons.1 hy with rfl|hy
     · simp; omega
     · have:=h2 y hy
       simp at this; omega
theorem nD(s:List UInt8)(hl:s.length<=1048576):∃n b,gW s=some (n,b):=by
 unfold gW DN gX
 rw[if_pos (by omega),Option.bind_some]
 cases h1:(rP s).2
 · exact⟨_,_,rfl⟩
 simp only[Bool.not_true,cond_false,Option.bind_some]
 cases h2:(decide (-999999999<=(rP s).1)&&decide ((rP s).1<=999999999))
 · exact⟨_,_,rfl⟩
 simp only[Bool.and_eq_true,decide_eq_true_eq]at h2
 rw[Bool.not_true,cond_false,zD _ (by omega),Option.bind_some,Option.bind_some]
 split
 · exact⟨_,_,rfl⟩
 · exact⟨_,_,rfl⟩
theorem GJ:∀(l:List (List UInt8))(k:Nat)(c:List Int),(∀y∈l,y.length<=1048576)->c.length+l.length<4294967295-> ∃v b,mH l k c=some (v,b)
 |[],k,c,_,_=>⟨_,_,rfl⟩
 |y::l,k,c,h,hc=>by
   simp only[List.length_cons]at hc
   obtain⟨n,b,e⟩:=nD y (h y (by simp))
   rw[mH,e,Option.bind_some]
   cases b
   · exact⟨_,_,rfl⟩
   · rw[if_neg (by simp),app1 (by omega),Option.bind_some]
     exact GJ l _ _ (fun x hx=>h x (by simp[hx])) (by simp; omega)
def bJ(c:UInt8):List UInt8->List UInt8->List (List UInt8)
 |p,[]=>[p]
 |p,b::l=>if b=c then p::bJ c [] l else bJ c (p++[b]) l
theorem AQ(c:UInt8):∀(l p:List UInt8),1<=(bJ c p l).length/\(bJ c p l).length<=l.length+1
 |[],p=>by simp[bJ]
 |b::l,p=>by
   unfold bJ
   split
   · have:=AQ c l []
     simp only[List.length_cons]; omega
   · have:=AQ c l (p++[b])
     simp only[List.length_cons]; omega
theorem Ey(c:UInt8):∀(l p:List UInt8),∀y∈bJ c p l,y.length<=p.length+l.length
 |[],p,y,hy=>by simp[bJ]at hy; subst hy; simp
 |b::l,p,y,hy=>by
   unfold bJ at hy
   simp only[List.length_cons]
   split at hy
   · rcases List.mem_cons.1 hy with rfl|hy
     · omega
     · have:=Ey c l [] y hy
       simp at this; omega
   · have:=Ey c l (p++[b]) y hy
     simp at this; omega
theorem uu(s:List UInt8)(c:UInt8)(hl:s.length<=1048576):pg s c=some (bJ c [] s):=by
 have key:∀(r:List UInt8)(i m:Nat)(out:List (List UInt8))(p:List UInt8),s.drop i=r->i<=s.length->r.length<m->out.length+r.length<4294967290->p.length+r.length<4294967290->um s c m out p (i:Int)=some (out++bJ c p r):=by
   intro r
   induction r with
   |nil=>
     intro i m out p h1 h2 h3 h4 h5
     obtain⟨m,rfl⟩:∃k,m=k+1:=⟨m-1,by omega⟩
     have hi:s.length<=i:=List.drop_eq_nil_iff.1 h1
     rw[um,if_neg (by simp; omega),app1 (by simp at h4; omega),Option.bind_some,bJ]
   |cons b r ih=>
     intro i m out p h1 h2 h3 h4 h5
     simp only[List.length_cons]at h3 h4 h5
     obtain⟨m,rfl⟩:∃k,m=k+1:=⟨m-1,by omega⟩
     have hg:s[i]?=some b:=by
       have:(s.drop i)[0]?=some b:=by rw[h1]; rfl
       simpa using this
     have hlt:=(List.getElem?_eq_some_iff.1 hg).1
     have hd:s.drop (i+1)=r:=by rw[←List.drop_drop,h1]; rfl
     have hw:IntKind.i64.wrap ((i:Int)+1)=((i+1:Nat):Int):=by rw[eY (by omega) (by omega)]; rfl
     rw[um,if_pos (by simp; omega),ma,hg,Option.bind_some,hw]
     unfold bJ
     by_cases h:b=c
     · subst h
       rw[if_pos (by simp),app1 (by omega),Option.bind_some,Option.bind_some]
       dsimp only
       rw[ih (i+1) m _ _ hd (by omega) (by omega) (by simp; omega) (by simp; omega),if_pos rfl,List.append_assoc]; rfl
     · have hne:¬ ((b.toNat:Int)==(c.toNat:Int))=true:=by
         rw[beq_iff_eq]; intro e
         exact h (UInt8.toNat_inj.1 (by omega))
       have hsl:(s.take ((i+1:Nat):Int).toNat).drop ((i:Nat):Int).toNat=[b]:=by
         rw[Int.toNat_natCast,Int.toNat_natCast,List.take_add_one,hg,List.drop_append_of_le_length (by simp; omega)]
         simp
       rw[if_neg hne,jf (by simp; omega),Option.bind_some,hsl,dR (by simp; omega),Option.bind_some,Option.bind_some]
       dsimp only
       rw[ih (i+1) m _ _ hd (by omega) (by omega) (by omega) (by simp; omega),if_neg h]
 exact key s 0 (((s.length:Int)-0).toNat+2) [] [] rfl (by omega) (by omega) (by simp; omega) (by simp; omega)
theorem N7(n:Int):-9223372036854775808<=IntKind.i64.wrap n/\IntKind.i64.wrap n<=9223372036854775807:=by
 unfold IntKind.wrap
 simp only[IntKind.bits,IntKind.signed]
 simp
 split<;>omega
theorem zB(s:List UInt8)(hl:s.length<=1048576):∀(m i:Nat)(c1 c2:Int),i<=s.length->s.length-i<m-> -9223372036854775808<=c1/\c1<=9223372036854775807-> ∃n b,oU s 20 m c1 c2 (i:Int)=some (n,b)
 |0,_,_,_,_,h,_=>by omega
 |m+1,i,c1,c2,hi,hm,hc=>by
   rw[oU]
   split
   · rename_i hlt
     simp only[Bool.and_eq_true,decide_eq_true_eq]at hlt
     have hi':i<s.length:=by omega
     have hw:IntKind.i64.wrap ((i:Int)+1)=((i+1:Nat):Int):=by rw[eY (by omega) (by omega)]; rfl
     rw[ma,List.getElem?_eq_getElem hi',hw]
     simp only[Option.bind_some]
     cases decide ((48:Int)<=(s[i].toNat:Int))
     · simp only[cond_false,Option.bind_some,Bool.false_eq_true,if_false]
       exact zB s hl m (i+1) c1 c2 (by omega) (by omega) hc
     · simp only[cond_true,Option.bind_some]
       split
       · simp only[Option.bind_some]
         exact zB s hl m (i+1) _ _ (by omega) (by omega) (N7 _)
       · simp only[Option.bind_some]
         exact zB s hl m (i+1) c1 c2 (by omega) (by omega) hc
   · have fin:∀x:Int,-9223372036854775808<=x/\x<=9223372036854775807-> ∃n b,((bif (decide ((9:Int)<c2))then (some true)
           else (bif (decide ((10:Int)<(s.length:Int)))then (some true)
             else ((fM 20 x).bind fun kz=>
               some (!(kz==s))))).bind fun kC=>if kC then some ((0:Int),false)else some (x,true))=some (n,b):=fun x hx=>by
       rw[SH 19 x hx (by omega) (by omega)]
       cases decide ((9:Int)<c2)
       · cases decide ((10:Int)<(s.length:Int))
         · simp only[cond_false,Option.bind_some]
           split
           · exact⟨_,_,rfl⟩
           · exact⟨_,_,rfl⟩
         · exact⟨_,_,rfl⟩
       · exact⟨_,_,rfl⟩
     have tail:∀o:Bool,∃n b,((some o:Option Bool).bind fun uZ=>if uZ then (
         (bif (decide ((9:Int)<c2))then (some true)
           else (bif (decide ((10:Int)<(s.length:Int)))then (some true)
             else ((fM 20 (IntKind.i64.wrap (-c1))).bind fun kz=>
               some (!(kz==s))))).bind fun kC=>if kC then some ((0:Int),false)else some ((IntKind.i64.wrap (-c1)),true))
       else (
         (bif (decide ((9:Int)<c2))then (some true)
           else (bif (decide ((10:Int)<(s.length:Int)))then (some true)
             else ((fM 20 c1).bind fun u6=>
               some (!(u6==s))))).bind fun jK=>if jK then some (0,false)else some (c1,true)))=some (n,b):=fun o=>by
       cases o
       · rw[Option.bind_some,if_neg (by simp)]; exact fin c1 hc
       · rw[Option.bind_some,if_pos rfl]; exact fin _ (N7 _)
     cases s with
     |nil=>exact tail false
     |cons b l=>
       have hx:ix (b::l) 0=some b:=rfl
       rw[hx]
       have hp:decide ((0:Int)<((b::l).length:Int))=true:=by simp
       rw[hp,cond_true,Option.bind_some]
       exact tail _
theorem Ni(s:List UInt8)(hl:s.length<=1048576):∃n,j4 20 s=some n:=by
 obtain⟨n,b,e⟩:=zB s hl (((s.length:Int)-0).toNat+2) 0 0 0 (by omega) (by omega) (by omega)
 have e':o7 20 s=some (n,b):=e
 rw[j4,e',Option.bind_some]
 cases b
 · exact⟨_,rfl⟩
 · exact⟨_,rfl⟩
theorem Hw{c:UInt8}:∀(x p t:List UInt8),c∉x->bJ c p (x++t)=bJ c (p++x) t
 |[],p,t,_=>by simp
 |b::x,p,t,h=>by
   rw[List.cons_append,bJ,if_neg (fun e=>h (by simp[e])),Hw x _ t (fun hx=>h (by simp[hx]))]
   simp
theorem N8{c:UInt8}:∀(r:List (List UInt8))(p:List UInt8),(∀y∈r,c∉y)->bJ c p (Lib.joinTail [c] r)=p::r
 |[],p,_=>rfl
 |y::r,p,h=>by
   have e:Lib.joinTail [c] (y::r)=c::(y++Lib.joinTail [c] r):=by simp[Lib.joinTail]
   rw[e,bJ,if_pos rfl,Hw y [] _ (h y (by simp)),List.nil_append,N8 r y fun z hz=>h z (by simp[hz])]
theorem qK{c:UInt8}{A:List (List UInt8)}(hA:A≠[])(h:∀y∈A,c∉y):bJ c [] (Lib.join A [c])=A:=by
 cases A with
 |nil=>exact absurd rfl hA
 |cons x r=>rw[Lib.join_cons,Hw x [] _ (h x (by simp)),List.nil_append,N8 r x fun z hz=>h z (by simp[hz])]
theorem OG(sep:List UInt8):∀l:List UInt8,Lib.index l sep= -1\/ ∃i:Nat,i+sep.length<=l.length/\Lib.index l sep=(i:Int)
 |[]=>by
   rw[Lib.index]
   cases sep with
   |nil=>exact .inr ⟨0,by simp,rfl⟩
   |cons a b=>exact .inl rfl
 |b::l=>by
   rw[Lib.index]
   split
   · rename_i h
     exact .inr ⟨0,by have:=(List.isPrefixOf_iff_prefix.1 h).length_le; omega,rfl⟩
   · rcases OG sep l with h|⟨i,h1,h2⟩
     · exact .inl (by rw[h]; rfl)
     · refine .inr ⟨i+1,by simp; omega,?_⟩
       rw[h2,if_neg (by simp)]; rfl
theorem Hy(w sep:List UInt8)(hl:w.length<=1048576):∃h r b,qB w sep=some (h,r,b)/\h.length<=w.length/\r.length<=w.length:=by
 unfold qB zw zu
 rw[if_pos (by omega),Option.bind_some]
 rcases OG sep w with h|⟨i,h1,h2⟩
 · rw[h,if_neg (by simp)]
   exact⟨w,[],false,rfl,by omega,by simp⟩
 · rw[h2,if_pos (by simp)]
   have e:IntKind.i64.wrap ((i:Int)+(sep.length:Int))=((i+sep.length:Nat):Int):=by
     rw[eY (by omega) (by omega)]; simp
   rw[e,jf (by simp; omega),Option.bind_some,jf (by simp; omega),Option.bind_some,Option.bind_some]
   exact⟨_,_,_,rfl,by simp; omega,by simp⟩
theorem Eh(x:UInt8)(t r:List UInt8):∀h:List UInt8,x∉h->Lib.index (h++(x::t)++r) (x::t)=(h.length:Int)
 |[],_=>by
   rw[List.nil_append,List.cons_append,Lib.index,if_pos]
   · rfl
   · rw[List.isPrefixOf_iff_prefix,←List.cons_append]; exact List.prefix_append _ _
 |b::h,hx=>by
   have hb:x≠b:=fun e=>hx (by simp[e])
   have ih:=Eh x t r h fun e=>hx (by simp[e])
   rw[List.cons_append,List.cons_append,Lib.index,if_neg,ih,if_neg]
   · simp
   · simp
   · simp[List.isPrefixOf,hb]
theorem AR(x:UInt8)(t h r:List UInt8)(hx:x∉h)(hl:(h++(x::t)++r).length<=1048576):qB (h++(x::t)++r) (x::t)=some (h,r,true):=by
 unfold qB zw zu
 rw[if_pos (by omega),Option.bind_some,Eh x t r h hx,if_pos (by simp)]
 simp only[List.length_append]at hl
 have e:IntKind.i64.wrap ((h.length:Int)+((x::t).length:Int))=((h.length+(x::t).length:Nat):Int):=by
   rw[eY (by omega) (by omega)]; simp
 rw[e,jf (by simp; omega),Option.bind_some,jf (by simp; omega),Option.bind_some,Option.bind_some]
 simp only[Int.toNat_natCast]
 rw[List.append_assoc,List.take_left,←List.append_assoc,show h.length+(x::t).length=(h++(x::t)).length by simp,List.drop_left]
theorem UY(s sep:List UInt8)(h1:1<=sep.length):Lib.count s sep<=s.length:=by
 have h:=Lib.countB_le ⟨sep.toArray⟩ (by rw[qL]; exact h1) s.length ⟨s.toArray⟩ (by rw[qL]; exact Nat.le_refl _)
 rw[qL]at h
 have e:Lib.countB ⟨s.toArray⟩ ⟨sep.toArray⟩=Lib.count s sep:=by
   show Lib.count (⟨s.toArray⟩:ByteArray).data.toList (⟨sep.toArray⟩:ByteArray).data.toList=_
   rw[wm,wm]
 omega
theorem uA(s sep:List UInt8)(h1:1<=sep.length)(hl:s.length<=1048576):l9 s sep=some (Lib.split s sep)/\(Lib.split s sep).length<=s.length+1/\ ∀y∈Lib.split s sep,y.length<=s.length:=by
 have hc:=UY s sep h1
 obtain⟨h2,h3⟩:=Nh sep (Lib.count s sep) s
 have h2':(Lib.split s sep).length<=Lib.count s sep+1:=h2
 refine⟨?_,by omega,h3⟩
 unfold l9 DF
 rw[if_pos ⟨rfl,rfl,by omega,h1,by omega⟩]; rfl
theorem N9(x:UInt8)(t:List UInt8):∀h:List UInt8,x∉h->Lib.index h (x::t)= -1
 |[],_=>rfl
 |b::h,hx=>by
   have hb:x≠b:=fun e=>hx (by simp[e])
   rw[Lib.index,if_neg (by simp[List.isPrefixOf,hb]),N9 x t h fun e=>hx (by simp[e])]; rfl
theorem M7(x:UInt8)(t:List UInt8):∀(r:List (List UInt8))(y:List UInt8)(k:Nat),x∉y->(∀z∈r,x∉z)->r.length<=k->Lib.splitK (x::t) 0 k (y++Lib.joinTail (x::t) r)=y::r
 |[],y,k,hy,_,_=>by
   rw[show Lib.joinTail (x::t) []=[]from rfl,List.append_nil]
   cases k with
   |zero=>rfl
   |succ k=>rw[Lib.splitK,N9 x t y hy,if_pos (by rfl)]
 |z::r,y,0,_,_,h=>by simp at h
 |z::r,y,k+1,hy,hr,h=>by
   have e:y++Lib.joinTail (x::t) (z::r)=y++(x::t)++(z++Lib.joinTail (x::t) r):=by
     simp[Lib.joinTail]
   rw[e,Lib.splitK,Eh x t _ y hy,if_neg (by simp)]
   simp only[Int.toNat_natCast,Nat.add_zero]
   rw[List.append_assoc,List.take_left,←List.append_assoc,show y.length+(x::t).length=(y++(x::t)).length by simp,List.drop_left]
   rw[M7 x t r z k (hr z (by simp)) (fun w hw=>hr w (by simp[hw])) (by simpa using h)]
theorem Mi(x:UInt8)(t:List UInt8):∀(r:List (List UInt8))(y:List UInt8)(k:Nat),x∉y->(∀z∈r,x∉z)->r.length<=k->r.length<=Lib.countFrom (x::t) k (y++Lib.joinTail (x::t) r)
 |[],_,_,_,_,_=>by simp
 |z::r,y,0,_,_,h=>by simp at h
 |z::r,y,k+1,hy,hr,h=>by
   have e:y++Lib.joinTail (x::t) (z::r)=y++(x::t)++(z++Lib.joinTail (x::t) r):=by
     simp[Lib.joinTail]
   rw[e,Lib.countFrom,Eh x t _ y hy,if_neg (by simp)]
   simp only[Int.toNat_natCast]
   rw[show y.length+(x::t).length=(y++(x::t)).length by simp,List.drop_left]
   have:=Mi x t r z k (hr z (by simp)) (fun w hw=>hr w (by simp[hw])) (by simpa using h)
   simp only[List.length_cons]; omega
theorem MQ(sep:List UInt8)(h1:1<=sep.length):∀r:List (List UInt8),r.length<=(Lib.joinTail sep r).length
 |[]=>by simp
 |z::r=>by
   have:=MQ sep h1 r
   have e:Lib.joinTail sep (z::r)=sep++z++Lib.joinTail sep r:=by simp[Lib.joinTail]
   rw[e]; simp; omega
theorem uk(x:UInt8)(t:List UInt8)(y:List UInt8)(r:List (List UInt8))(hy:x∉y)(hr:∀z∈r,x∉z):Lib.split (Lib.join (y::r) (x::t)) (x::t)=y::r:=by
 rw[Lib.join_cons]
 refine M7 x t r y _ hy hr ?_
 have:=MQ (x::t) (by simp) r
 exact Mi x t r y _ hy hr (by simp; omega)
theorem VS(p r:List UInt8):vB (p++r) p=some true:=by
 unfold vB
 rw[decide_eq_true (by simp; omega),cond_true,jf (by simp),Option.bind_some,Option.bind_some]
 simp
theorem Ho(p r:List UInt8):kY (p++r) p=some r:=by
 unfold kY zo
 rw[VS,Option.bind_some,if_pos rfl,jf (by simp; omega),Option.bind_some,Option.bind_some]
 simp
theorem OH(p r:List UInt8)(hl:(r++p).length<=1048576):vC (r++p) p=some true:=by
 unfold vC qo
 have e:IntKind.i64.wrap (((r++p).length:Int)-(p.length:Int))=(r.length:Int):=by
   simp only[List.length_append]at*
   rw[eY (by omega) (by omega)]; omega
 rw[decide_eq_true (by simp; omega),cond_true,e,jf (by simp; omega),Option.bind_some,Option.bind_some]
 simp
theorem Vp(p r:List UInt8)(hl:(r++p).length<=1048576):tC (r++p) p=some r:=by
 have h:=OH p r hl
 unfold vC at h
 have h':qo (r++p) p=some true:=by
   cases hh:qo (r++p) p with
   |none=>rw[hh]at h; cases h
   |some b=>rw[hh]at h; exact h
 unfold tC zq
 have e:IntKind.i64.wrap (((r++p).length:Int)-(p.length:Int))=(r.length:Int):=by
   simp only[List.length_append]at*
   rw[eY (by omega) (by omega)]; omega
 rw[h',Option.bind_some,if_pos rfl,e,jf (by simp; omega),Option.bind_some,Option.bind_some]
 simp
def PD(n:Nat):Bool:=decide (gW (Lib.itoa n)=some ((n:Int),true))&&(decide (o7 20 (Lib.itoa n)=some ((n:Int),true))&&(decide (fM 20 (n:Int)=some (Lib.itoa n))&&((Lib.itoa n).all (fun c=>decide (48<=c.toNat)&&decide (c.toNat<=57))&&(decide (1<=(Lib.itoa n).length)&&decide ((Lib.itoa n).length<=3)))))
theorem VT:(List.range 101).all PD=true:=by decide+kernel
theorem jg{n:Int}(h:0<=n/\n<=100):gW (Lib.itoa n)=some (n,true)/\o7 20 (Lib.itoa n)=some (n,true)/\fM 20 n=some (Lib.itoa n)/\(∀c∈Lib.itoa n,48<=c.toNat/\c.toNat<=57)/\1<=(Lib.itoa n).length/\(Lib.itoa n).length<=3:=by
 obtain⟨k,rfl⟩:=Int.eq_ofNat_of_zero_le h.1
 have h1:=List.all_eq_true.1 VT k (List.mem_range.2 (by omega))
 simp only[PD,Bool.and_eq_true,decide_eq_true_eq,List.all_eq_true]at h1
 exact h1
theorem VU:(List.range 10).all (fun n=>bC n==Lib.itoa n)=true:=by decide+kernel
theorem mf{n:Int}(h:0<=n/\n<=9):bC n=Lib.itoa n:=by
 obtain⟨k,rfl⟩:=Int.eq_ofNat_of_zero_le h.1
 have h1:=List.all_eq_true.1 VU k (List.mem_range.2 (by omega))
 simpa using h1
theorem pq{n:Int}(h:0<=n/\n<=100){c:UInt8}(hc:c.toNat<48\/57<c.toNat):c∉Lib.itoa n:=fun hm=>by
 have:=(jg h).2.2.2.1 c hm
 omega
theorem DV:∀(l:List Int)(k:Nat)(c:List Int),(∀x∈l,0<=x/\x<=100)->c.length+l.length<4294967295->mH (l.map Lib.itoa) k c=some (c++l,true)
 |[],k,c,_,_=>by simp[mH]
 |x::l,k,c,h,hc=>by
   simp only[List.length_cons]at hc
   rw[List.map_cons,mH,(jg (h x (by simp))).1,Option.bind_some,if_neg (by simp),app1 (by omega),Option.bind_some,DV l _ _ (fun y hy=>h y (by simp[hy])) (by simp; omega)]
   simp
theorem Mj(w:List UInt8)(hl:w.length<=1048576):∃n ws b,uq [114] w=some (n,ws,b)/\(∀y∈ws,y.length<=1048576)/\ws.length<=1048577:=by
 unfold uq
 obtain⟨h,r,b,e1,l1,l2⟩:=Hy w [40] hl
 obtain⟨t,e2,l3⟩:=AL h [114]
 obtain⟨n,b2,e3⟩:=nD t (by omega)
 obtain⟨b3,e4,-⟩:=OE r [41] (by omega)
 obtain⟨u,e5,l5⟩:=Vo r [41] (by omega)
 obtain⟨e6,l6,l7⟩:=uA u [44] (by simp) (by omega)
 rw[e1,Option.bind_some,e2,Option.bind_some,e3,Option.bind_some,vC,e4]
 dsimp only
 have key:∀o:Bool,∃n' ws b',((if o then some ((0:Int),([]:List (List UInt8)),false)else (tC r [41]).bind fun fU=>if (fU==[])then some (n,[],true)else (l9 fU [44]).bind fun gJ=>some (n,gJ,true)):Option (Int×List (List UInt8)×Bool))=some (n',ws,b')/\(∀y∈ws,y.length<=1048576)/\ws.length<=1048577:=by
   intro o
   cases o
   · rw[if_neg (by simp),e5,Option.bind_some]
     split
     · exact⟨_,_,_,rfl,by simp,by simp⟩
     · rw[e6,Option.bind_some]
       exact⟨_,_,_,rfl,fun y hy=>by have:=l7 y hy; omega,by omega⟩
   · exact⟨_,_,_,rfl,by simp,by simp⟩
 cases b
 · exact key true
 cases b2
 · exact key true
 cases b3
 · exact key true
 · exact key false
theorem MH{n:Int}(hn:0<=n/\n<=9)(y:List UInt8)(A:List (List UInt8))(hy:y≠[])(kX:∀z∈y::A,(44:UInt8)∉z)(hl:([114]++bC n++[40]++Lib.join (y::A) [44]++[41]).length<=1048576):uq [114] ([114]++bC n++[40]++Lib.join (y::A) [44]++[41])=some (n,y::A,true):=by
 have hd:=mf hn
 have e:[114]++bC n++[40]++Lib.join (y::A) [44]++[41]=([114]++bC n)++((40:UInt8)::[])++(Lib.join (y::A) [44]++[41]):=by simp
 have hb:Lib.join (y::A) [44]≠[]:=by
   rw[Lib.join_cons]; intro h; exact hy (List.append_eq_nil_iff.1 h).1
 have hl2:(Lib.join (y::A) [44]++[41]).length<=1048576:=by simp only[List.length_append]at*; omega
 have qm:(40:UInt8)∉[114]++bC n:=by
   rw[hd]; intro h
   rcases List.mem_append.1 h with h|h
   · simp at h
   · exact pq ⟨hn.1,by omega⟩ (.inl (by decide)) h
 rw[e]at hl ⊢
 unfold uq
 rw[AR 40 [] _ _ qm hl,Option.bind_some]
 dsimp only
 rw[Ho,Option.bind_some,hd,(jg ⟨hn.1,by omega⟩).1,Option.bind_some]
 simp only[Bool.not_true,cond_false]
 rw[OH [41] _ hl2,Option.bind_some,Option.bind_some]
 rw[if_neg (by simp),Vp [41] _ hl2,Option.bind_some,if_neg (by simpa using hb),(uA _ [44] (by simp) (by simp only[List.length_append]at hl2; omega)).1,uk 44 [] y A (kX y (by simp)) fun z hz=>kX z (by simp[hz])]
 rfl
def PF{X:Type}(ok:X->Bool)(fmt:X->List UInt8)(z:X)(text:List UInt8)(a:Option (X×Bool)):Prop:=
 ∃(c:Bool)(f:X),a=some (if c&&(ok f&&(fmt f==text))then (f,true)else (z,false))/\ ∀g,ok g=true->fmt g=text->c=true/\f=g
theorem O0{X:Type}{ok:X->Bool}{fmt:X->List UInt8}{z:X}{text:List UInt8}{a:Option (X×Bool)}(h:PF ok fmt z text a):(∃g,ok g=true/\fmt g=text/\a=some (g,true))\/((¬ ∃g,ok g=true/\fmt g=text)/\a=some (z,false)):=by
 obtain⟨c,f,e,u⟩:=h
 by_cases hg:∃g,ok g=true/\fmt g=text
 · obtain⟨g,h1,h2⟩:=hg
   obtain⟨rfl,rfl⟩:=u g h1 h2
   exact .inl ⟨f,h1,h2,by rw[e,h1,if_pos (by simp[h2])]⟩
 · refine .inr ⟨hg,?_⟩
   rw[e,if_neg]
   intro hc
   simp only[Bool.and_eq_true,beq_iff_eq]at hc
   exact hg ⟨f,hc.2⟩
theorem AU{X:Type}{ok:X->Bool}{fmt:X->List UInt8}{z:X}{text:List UInt8}{a b:Option (X×Bool)}(ha:PF ok fmt z text a)(hb:PF ok fmt z text b):a=b/\ ∃r,a=some r:=by
 rcases O0 ha with⟨g,h1,h2,e⟩|⟨h,e⟩<;>rcases O0 hb with⟨g',h1',h2',e'⟩|⟨h',e'⟩
 · obtain⟨c,f,-,u⟩:=ha
   have:=(u g h1 h2).2.symm.trans (u g' h1' h2').2
   subst this
   exact⟨e.trans e'.symm,_,e⟩
 · exact absurd ⟨g,h1,h2⟩ h'
 · exact absurd ⟨g',h1',h2'⟩ h
 · exact⟨e.trans e'.symm,_,e⟩
theorem NA{s:List Int}{f:Fact}(h:nV s f=true):(0<=f.Rel/\f.Rel<=2)/\(1<=f.Values.length/\f.Values.length<=3)/\(∀x∈f.Values,0<=x/\x<=9)/\nW f=[114]++bC f.Rel++[40]++Lib.join (f.Values.map bC) [44]++[41]:=by
 simp only[nV,Bool.and_eq_true,beq_iff_eq,List.all_eq_true]at h
 obtain⟨h1,h2,h3⟩:=h
 have h4:=kI h1
 have h5:0<=f.Rel/\f.Rel<=2:=by
   simp only[fu,ay,Bool.and_eq_true,decide_eq_true_eq]at h1
   have:=(GU h1.1).1
   omega
 have h6:∀x∈f.Values,0<=x/\x<=9:=fun x hx=>by simpa only[ay,Bool.and_eq_true,decide_eq_true_eq]using h3 x hx
 refine⟨h5,by omega,h6,?_⟩
 unfold nW
 rw[if_pos]
 simp only[Ep,Bool.and_eq_true,ay,decide_eq_true_eq,List.all_eq_true]
 exact⟨h5,by omega,fun x hx=>h6 x hx⟩
theorem Ei{l:List Int}(h:∀x∈l,0<=x/\x<=9):l.map bC=l.map Lib.itoa:=List.map_congr_left fun x hx=>mf (h x hx)
theorem uF{l:List Int}(h:∀x∈l,0<=x/\x<=9){c:UInt8}(hc:c.toNat<48\/57<c.toNat):∀z∈l.map bC,c∉z:=fun z hz=>by
 obtain⟨x,hx,rfl⟩:=List.mem_map.1 hz
 rw[mf (h x hx)]
 exact pq (by have:=h x hx; omega) hc
theorem Tu(s:List Int)(hs:s.length<4294967296)(text:List UInt8)(hl:text.length<=1048576):PF (nV s) nW {Rel:=0,Values:=[]} text (xN s text):=by
 obtain⟨n,ws,b1,e1,l1,l2⟩:=Mj text hl
 obtain⟨v,b2,e2⟩:=GJ ws 0 [] l1 (by simp; omega)
 refine⟨b1&&b2,{Rel:=n,Values:=v},?_,?_⟩
 · unfold xN uo
   rw[e1,Option.bind_some]
   dsimp only
   rw[e2,Option.bind_some]
   cases b1
   · rfl
   cases b2
   · rfl
   simp only[Bool.not_true,cond_false]
   rw[Ut _ _ hs,Option.bind_some]
   cases h:nV s {Rel:=n,Values:=v}
   · rfl
   · rw[Bool.not_true,cond_false,SK,Option.bind_some,Option.bind_some]
     cases h2:(nW {Rel:=n,Values:=v}==text)<;>simp
 · intro g h1 h2
   obtain⟨g1,g2,g3,g4⟩:=NA h1
   rw[←h2,g4]at e1 hl
   obtain⟨y,A,hA⟩:∃y A,g.Values=y::A:=by
     cases hv:g.Values with
     |nil=>rw[hv]at g2; simp at g2
     |cons y A=>exact⟨y,A,rfl⟩
   have kX:=uF g3 (c:=44) (.inl (by decide))
   rw[hA,List.map_cons]at e1 hl kX
   rw[MH ⟨g1.1,by omega⟩ _ _ (by simp[bC]) kX hl]at e1
   cases e1
   rw[←List.map_cons,←hA,Ei g3,DV g.Values 0 [] (fun x hx=>by have:=g3 x hx; omega) (by simp; omega)]at e2
   cases e2
   exact⟨rfl,rfl⟩
theorem Zk{u:UInt8}{n:Nat}(hn:n<256)(h:u≠UInt8.ofNat n):((u.toNat:Int)==(n:Int))=false:=by
 rw[beq_eq_false_iff_ne]
 intro e
 apply h
 have:u.toNat=n:=by omega
 rw[←this]; simp
theorem Ml(N B:List UInt8)(qm:(40:UInt8)∉N)(hl:(N++[40]++B++[41]).length<=1048576):∀(m i:Nat),i<=N.length->N.length-i<m->oZ (N++[40]++B++[41]) m (i:Int)=some (N,bJ 44 [] B)
 |0,_,_,hm=>by omega
 |m+1,i,hi,hm=>by
   have hl':=hl
   simp only[List.length_append,List.length_cons,List.length_nil]at hl'
   have hL:(N++[40]++B++[41]).length=N.length+1+B.length+1:=by simp; omega
   unfold oZ
   rw[if_pos (by rw[hL]; simp only[decide_eq_true_eq]; omega),ma]
   by_cases hlt:i<N.length
   · have e1:(N++[40]++B++[41])[i]?=some N[i]:=by
       rw[List.append_assoc,List.append_assoc,List.getElem?_append_left hlt,List.getElem?_eq_getElem hlt]
     have hne:N[i]≠UInt8.ofNat 40:=fun e=>qm (by have:=List.getElem_mem hlt; rw[e]at this; exact this)
     have hb:=Zk (n:=40) (by decide) hne
     rw[e1,Option.bind_some]
     rw[show ((N[i].toNat:Int)==40)=false from hb,cond_false,Option.bind_some]
     dsimp only
     rw[if_neg (by simp),eY (by omega) (by omega),show (i:Int)+1=((i+1:Nat):Int) by omega]
     exact Ml N B qm hl m (i+1) hlt (by omega)
   · obtain rfl:i=N.length:=by omega
     have e1:(N++[40]++B++[41])[N.length]?=some 40:=by
       rw[List.append_assoc,List.append_assoc,List.getElem?_append_right (Nat.le_refl _)]; simp
     have e2:IntKind.i64.wrap (((N++[40]++B++[41]).length:Int)-1)=((N.length+1+B.length:Nat):Int):=by
       rw[hL,eY (by omega) (by omega)]; omega
     have e3:(N++[40]++B++[41])[N.length+1+B.length]?=some 41:=by
       rw[List.getElem?_append_right (by simp; omega)]
       simp[show N.length+1+B.length-(N.length+(B.length+1))=0 by omega]
     have e4:IntKind.i64.wrap ((N.length:Int)+1)=((N.length+1:Nat):Int):=by rw[eY (by omega) (by omega)]; omega
     rw[e1,Option.bind_some]
     rw[show (((40:UInt8).toNat:Int)==40)=true from rfl,cond_true,e2,ma,e3,Option.bind_some]
     rw[show (some (((41:UInt8).toNat:Int)==41))=some true from rfl,Option.bind_some]
     dsimp only
     rw[if_pos rfl,jf (by rw[hL]; simp; omega),Option.bind_some,e4,jf (by rw[hL]; simp; omega),Option.bind_some]
     simp only[Int.toNat_natCast]
     have e5:(N++[40]++B++[41]).take (N.length+1+B.length)=N++[40]++B:=by
       rw[show N.length+1+B.length=(N++[40]++B).length by simp; omega,List.take_left]
     have e6:(N++[40]++B).drop (N.length+1)=B:=by
       rw[show N.length+1=(N++[40]).length by simp,List.drop_left]
     have e7:(N++[40]++B++[41]).take N.length=N:=by
       rw[List.append_assoc,List.append_assoc,List.take_left]
     rw[e5,e6,e7,uu B 44 (by omega)]; rfl
theorem M8(N B:List UInt8)(qm:(40:UInt8)∉N)(hl:(N++[40]++B++[41]).length<=1048576):yh (N++[40]++B++[41])=some (N,bJ 44 [] B):=
 Ml N B qm hl _ 0 (by omega) (by simp; omega)
theorem Mm(T:List UInt8)(hl:T.length<=1048576):∀(m i:Nat),i<=T.length->T.length-i<m-> ∃h ws,oZ T m (i:Int)=some (h,ws)/\h.length<=T.length/\(∀y∈ws,y.length<=1048576)/\ws.length<=T.length+1
 |0,_,_,hm=>by omega
 |m+1,i,hi,hm=>by
   unfold oZ
   by_cases hlt:i<T.length
   · have e2:IntKind.i64.wrap ((T.length:Int)-1)=((T.length-1:Nat):Int):=by rw[eY (by omega) (by omega)]; omega
     rw[if_pos (by simp only[decide_eq_true_eq]; omega),ma,List.getElem?_eq_getElem hlt,Option.bind_some]
     have next:∃h ws,oZ T m (IntKind.i64.wrap ((i:Int)+1))=some (h,ws)/\h.length<=T.length/\(∀y∈ws,y.length<=1048576)/\ws.length<=T.length+1:=by
       rw[eY (by omega) (by omega),show (i:Int)+1=((i+1:Nat):Int) by omega]
       exact Mm T hl m (i+1) hlt (by omega)
     cases h1:((T[i].toNat:Int)==40)
     · exact next
     · rw[cond_true,e2,ma,List.getElem?_eq_getElem (show T.length-1<T.length by omega),Option.bind_some,Option.bind_some]
       dsimp only
       cases h2:((T[T.length-1].toNat:Int)==41)
       · exact next
       · have hne:i≠T.length-1:=by
           rintro rfl
           rw[beq_iff_eq]at h1 h2
           omega
         rw[if_pos rfl,jf (by simp; omega),Option.bind_some,eY (by omega) (by omega),show (i:Int)+1=((i+1:Nat):Int) by omega,jf (by simp; omega),Option.bind_some]
         simp only[Int.toNat_natCast]
         have hB:((T.take (T.length-1)).drop (i+1)).length<=T.length:=by simp; omega
         rw[uu _ 44 (by omega),Option.bind_some]
         have h3:=AQ 44 ((T.take (T.length-1)).drop (i+1)) []
         refine⟨_,_,rfl,by simp; omega,fun y hy=>?_,by have:=h3.2; simp at this ⊢; omega⟩
         have:=Ey 44 _ _ y hy
         simp only[List.length_nil]at this; omega
   · rw[if_neg (by simp only[decide_eq_true_eq]; omega)]
     exact⟨_,_,rfl,by simp,by simp,by simp⟩
theorem M9(T:List UInt8)(hl:T.length<=1048576):∃h ws,yh T=some (h,ws)/\h.length<=T.length/\(∀y∈ws,y.length<=1048576)/\ws.length<=T.length+1:=
 Mm T hl _ 0 (by omega) (by omega)
theorem Af(s:List UInt8)(hl:s.length<=1048576):∃n,nM 20 s=some n:=by
 unfold nM
 by_cases h:(s.length:Int)<2
 · rw[decide_eq_true h]; exact⟨_,rfl⟩
 · rw[decide_eq_false h,cond_false,show (0:Int)=((0:Nat):Int)from rfl,ma,List.getElem?_eq_getElem (show 0<s.length by omega),Option.bind_some,Option.bind_some]
   dsimp only
   split
   · exact⟨_,rfl⟩
   · obtain⟨n,e⟩:=Ni (s.drop ((1:Int)).toNat) (by simp; omega)
     rw[jf (by simp; omega),Option.bind_some,e]
     exact⟨_,rfl⟩
theorem VV:(List.range 10).all (fun n=>decide (nM 20 ([114]++Lib.itoa n)=some (n:Int)))=true:=by decide+kernel
theorem Ag{n:Int}(h:0<=n/\n<=9):nM 20 ([114]++bC n)=some n:=by
 rw[mf h]
 obtain⟨k,rfl⟩:=Int.eq_ofNat_of_zero_le h.1
 have h1:=List.all_eq_true.1 VV k (List.mem_range.2 (by omega))
 simpa using h1
def nS(y:List UInt8):Int:=(j4 20 y).getD 0
theorem uw{y:List UInt8}(h:y.length<=1048576):j4 20 y=some (nS y):=by
 obtain⟨n,e⟩:=Ni y h
 unfold nS; rw[e]; rfl
theorem Ez{n:Int}(h:0<=n/\n<=100):nS (Lib.itoa n)=n:=by
 unfold nS j4
 rw[(jg h).2.1]; rfl
theorem H8{l:List Int}(h:∀x∈l,0<=x/\x<=9):(l.map bC).map nS=l:=by
 rw[Ei h,List.map_map]
 conv=>rhs; rw[←List.map_id l]
 exact List.map_congr_left fun x hx=>Ez (by have:=h x hx; omega)
theorem Lx(s:List Int)(hs:s.length<4294967296)(text:List UInt8)(r:Int):∀(ws:List (List UInt8))(k:Nat)(c:List Int),(∀y∈ws,y.length<=1048576)->c.length+ws.length<4294967295->tY s text 20 r ws k c=some (if (nV s {Rel:=r,Values:=c++ws.map nS}&&(nW {Rel:=r,Values:=c++ws.map nS}==text))then (({Rel:=r,Values:=c++ws.map nS}:Fact),true)else ({Rel:=0,Values:=[]},false))
 |[],k,c,_,_=>by
   unfold tY
   rw[List.map_nil,List.append_nil,Us _ _ hs,Option.bind_some]
   cases h:nV s {Rel:=r,Values:=c}
   · rfl
   · rw[Bool.not_true,cond_false,SI (by decide),Option.bind_some,Option.bind_some]
     cases h2:(nW {Rel:=r,Values:=c}==text)<;>simp
 |y::ws,k,c,h,hc=>by
   simp only[List.length_cons]at hc
   unfold tY
   rw[uw (h y (by simp)),Option.bind_some,app1 (by omega),Option.bind_some,Lx s hs text r ws _ _ (fun z hz=>h z (by simp[hz])) (by simp; omega)]
   simp
theorem Tv(s:List Int)(hs:s.length<4294967296)(text:List UInt8)(hl:text.length<=1048576):PF (nV s) nW {Rel:=0,Values:=[]} text (xL 20 s text):=by
 obtain⟨N,ws,e1,l0,l1,l2⟩:=M9 text hl
 obtain⟨n,e2⟩:=Af N (by omega)
 refine⟨true,{Rel:=n,Values:=ws.map nS},?_,?_⟩
 · unfold xL
   rw[e1,Option.bind_some]
   dsimp only
   rw[e2,Option.bind_some,Lx s hs text n ws 0 [] l1 (by simp; omega)]
   simp
 · intro g h1 h2
   obtain⟨g1,g2,g3,g4⟩:=NA h1
   rw[←h2,g4]at e1 hl
   have qm:(40:UInt8)∉[114]++bC g.Rel:=by
     rw[mf ⟨g1.1,by omega⟩]; intro h
     rcases List.mem_append.1 h with h|h
     · simp at h
     · exact pq ⟨g1.1,by omega⟩ (.inl (by decide)) h
   rw[M8 _ _ qm hl]at e1
   cases e1
   rw[Ag ⟨g1.1,by omega⟩]at e2
   cases e2
   rw[qK (by intro h; rw[List.map_eq_nil_iff]at h; rw[h]at g2; simp at g2) (uF g3 (.inl (by decide))),H8 g3]
   exact⟨rfl,rfl⟩
def pJ(r:eZ):List UInt8:=Lib.join [[114]++bC r.From,[103,105,118,101,115],[114]++bC r.To,Lib.join (r.Map.map bC) [44]] [32]
theorem D6{s:List Int}{r:Int}(h:fu s r=true):0<=r/\r<=2:=by
 simp only[fu,ay,Bool.and_eq_true,decide_eq_true_eq]at h
 have:=(GU h.1).1
 omega
theorem Ap{s:List Int}{r:eZ}(h:lL s r=true):(0<=r.From/\r.From<=2)/\(0<=r.To/\r.To<=2)/\(1<=r.Map.length/\r.Map.length<=3)/\ ∀x∈r.Map,0<=x/\x<=2:=by
 simp only[lL,Bool.and_eq_true,beq_iff_eq,List.all_eq_true,ay,decide_eq_true_eq]at h
 obtain⟨h1,h2,h3,h4⟩:=h
 have a1:=kI h1
 have a2:=kI h2
 exact⟨D6 h1,D6 h2,by omega,fun x hx=>by have:=h4 x hx; omega⟩
theorem NB{a b j:List UInt8}(ha:a.length<=1)(hb:b.length<=1)(hj:j.length<=7):(((aP [114] a).bind fun x=>(aP x [32,103,105,118,101,115,32,114]).bind fun y=>(aP y b).bind fun z=>(aP z [32]).bind fun u=>(aP u j).bind fun v=>some v):Option (List UInt8))=some (Lib.join [[114]++a,[103,105,118,101,115],[114]++b,j] [32]):=by
 rw[dR (by simp; omega),Option.bind_some,dR (by simp; omega),Option.bind_some,dR (by simp; omega),Option.bind_some,dR (by simp; omega),Option.bind_some,dR (by simp; omega),Option.bind_some]
 simp[Lib.join_cons,Lib.joinTail]
theorem SQ{s:List Int}{r:eZ}(h:lL s r=true):zS r=some (pJ r):=by
 obtain⟨h1,h2,h3,h4⟩:=Ap h
 have p1:ay 0 2 r.From=true:=by simp only[ay,Bool.and_eq_true,decide_eq_true_eq]; omega
 have p2:ay 0 2 r.To=true:=by simp only[ay,Bool.and_eq_true,decide_eq_true_eq]; omega
 have p3:ay 1 3 (r.Map.length:Int)=true:=by simp only[ay,Bool.and_eq_true,decide_eq_true_eq]; omega
 have p4:(r.Map.any fun x=>!ay 0 (3-1) x)=false:=by
   rw[List.any_eq_false]
   intro x hx
   have:=h4 x hx
   simp[ay]; omega
 unfold zS nN xB
 simp only[l_,p1,p2,p3,p4,K9 r.Map 3 (by omega),Option.bind_some,Bool.not_true,Bool.not_false,cond_false,Bool.false_eq_true,if_false]
 rw[xC _ (by omega),Option.bind_some,xC _ (by omega),GX r.Map (fun x hx=>by have:=h4 x hx; omega) h3.2]
 simp only[Option.bind_some]
 exact NB (by simp[bC]) (by simp[bC]) (x_ r.Map h3.2)
theorem Lj{r:eZ}(h1:0<=r.From/\r.From<=2)(h2:0<=r.To/\r.To<=2)(h3:r.Map.length<=3)(h4:∀x∈r.Map,0<=x/\x<=2):∀(l:List Int)(k:Nat),(∀x∈l,0<=x/\x<=2)->tN r 20 l k=some (pJ r)
 |[],k,_=>by
   unfold tN
   rw[vH (by decide) _ (by omega),Option.bind_some,vH (by decide) _ (by omega),GV (by decide) r.Map (fun x hx=>by have:=h4 x hx; omega) h3]
   simp only[Option.bind_some]
   exact NB (by simp[bC]) (by simp[bC]) (x_ r.Map h3)
 |x::l,k,h=>by
   have:=h x (by simp)
   unfold tN
   rw[iX,Option.bind_some,show ay 0 2 x=true by simp only[ay,Bool.and_eq_true,decide_eq_true_eq]; omega,if_neg (by simp)]
   exact Lj h1 h2 h3 h4 l _ fun y hy=>h y (by simp[hy])
theorem SS{s:List Int}{r:eZ}(h:lL s r=true):zP 20 r=some (pJ r):=by
 obtain⟨h1,h2,h3,h4⟩:=Ap h
 have p1:ay 0 2 r.From=true:=by simp only[ay,Bool.and_eq_true,decide_eq_true_eq]; omega
 have p2:ay 0 2 r.To=true:=by simp only[ay,Bool.and_eq_true,decide_eq_true_eq]; omega
 have p3:ay 1 3 (r.Map.length:Int)=true:=by simp only[ay,Bool.and_eq_true,decide_eq_true_eq]; omega
 unfold zP
 simp only[iX,p1,p2,p3,Option.bind_some,Bool.not_true,cond_false,Bool.false_eq_true,if_false]
 exact Lj h1 h2 h3.2 h4 r.Map 0 h4
theorem D7{s:List Int}{r:eZ}(h:lL s r=true):∀z∈[[114]++bC r.From,[103,105,118,101,115],[114]++bC r.To,Lib.join (r.Map.map bC) [44]],(32:UInt8)∉z:=by
 obtain⟨h1,h2,h3,h4⟩:=Ap h
 intro z hz
 have d:∀n:Int,0<=n/\n<=2->(32:UInt8)∉[114]++bC n:=fun n hn hm=>by
   rw[mf ⟨hn.1,by omega⟩]at hm
   rcases List.mem_append.1 hm with hm|hm
   · simp at hm
   · exact pq ⟨hn.1,by omega⟩ (.inl (by decide)) hm
 simp only[List.mem_cons,List.not_mem_nil,or_false]at hz
 rcases hz with rfl|rfl|rfl|rfl
 · exact d _ h1
 · decide
 · exact d _ h2
 · intro hm
   have hn:=uF (l:=r.Map) (c:=32) (fun x hx=>by have:=h4 x hx; omega) (.inl (by decide))
   cases hv:r.Map.map bC with
   |nil=>rw[hv]at hm; simp[Lib.join,List.intercalate]at hm
   |cons y A=>
     rw[hv,Lib.join_cons]at hm
     rw[hv]at hn
     rcases List.mem_append.1 hm with hm|hm
     · exact hn y (by simp) hm
     · simp only[Lib.joinTail,List.mem_flatten,List.mem_map]at hm
       obtain⟨w,⟨a,ha,rfl⟩,hw⟩:=hm
       rcases List.mem_append.1 hw with hw|hw
       · simp at hw
       · exact hn a (by simp[ha]) hw
theorem pu{α:Type}(l:List α)(k:Nat)(h:k<l.length):ix l (k:Int)=some l[k]:=by rw[ma,List.getElem?_eq_getElem h]
theorem Tw(s:List Int)(hs:s.length<4294967296)(text:List UInt8)(hl:text.length<=1048576):PF (lL s) pJ {From:=0,To:=0,Map:=[]} text (z8 s text):=by
 obtain⟨e1,l1,l2⟩:=uA text [32] (by simp) hl
 unfold z8
 rw[e1,Option.bind_some]
 by_cases h4:(Lib.split text [32]).length=4
 · have jL:∀k (h:k<(Lib.split text [32]).length),(Lib.split text [32])[k].length<=1048576:=fun k h=>Nat.le_trans (l2 _ (List.getElem_mem h)) hl
   obtain⟨t0,f0,q0⟩:=AL (Lib.split text [32])[0] [114]
   obtain⟨t2,f2,q2⟩:=AL (Lib.split text [32])[2] [114]
   have r0:=jL 0 (by omega)
   have r2:=jL 2 (by omega)
   have r3:=jL 3 (by omega)
   obtain⟨n0,b0,g0⟩:=nD t0 (by omega)
   obtain⟨n2,b2,g2⟩:=nD t2 (by omega)
   obtain⟨e3,m1,m2⟩:=uA (Lib.split text [32])[3] [44] (by simp) r3
   obtain⟨v,bv,gv⟩:=GJ (Lib.split (Lib.split text [32])[3] [44]) 0 [] (fun y hy=>Nat.le_trans (m2 y hy) r3) (by simp; omega)
   refine⟨true,{From:=n0,To:=n2,Map:=v},?_,?_⟩
   · rw[if_neg (by simp[h4]),show (0:Int)=((0:Nat):Int)from rfl,pu _ 0 (by omega),Option.bind_some,f0,Option.bind_some,g0,Option.bind_some,show (2:Int)=((2:Nat):Int)from rfl,pu _ 2 (by omega),Option.bind_some,f2,Option.bind_some,g2,Option.bind_some,show (3:Int)=((3:Nat):Int)from rfl,pu _ 3 (by omega),Option.bind_some,e3,Option.bind_some,uo,gv,Option.bind_some,Ur _ _ hs,Option.bind_some]
     dsimp only
     cases h:lL s {From:=n0,To:=n2,Map:=v}
     · rfl
     · rw[Bool.not_true,cond_false,SQ h,Option.bind_some,Option.bind_some]
       cases h2:(pJ {From:=n0,To:=n2,Map:=v}==text)<;>simp
   · intro g h1 h2
     obtain⟨k1,k2,k3,k4⟩:=Ap h1
     have hw:=D7 h1
     have hsp:Lib.split text [32]=[[114]++bC g.From,[103,105,118,101,115],[114]++bC g.To,Lib.join (g.Map.map bC) [44]]:=by
       rw[←h2]; exact uk 32 [] _ _ (hw _ (by simp)) fun z hz=>hw z (by simp only[List.mem_cons]at hz ⊢; exact .inr hz)
     simp only[hsp,List.getElem_cons_zero,List.getElem_cons_succ]at f0 f2 gv
     rw[Ho]at f0 f2
     cases f0; cases f2
     rw[mf ⟨k1.1,by omega⟩,(jg ⟨k1.1,by omega⟩).1]at g0
     rw[mf ⟨k2.1,by omega⟩,(jg ⟨k2.1,by omega⟩).1]at g2
     cases g0; cases g2
     obtain⟨y,A,hA⟩:∃y A,g.Map=y::A:=by
       cases hv:g.Map with
       |nil=>rw[hv]at k3; simp at k3
       |cons y A=>exact⟨y,A,rfl⟩
     have kX:=uF (l:=g.Map) (c:=44) (fun x hx=>by have:=k4 x hx; omega) (.inl (by decide))
     have hsp2:Lib.split (Lib.join (g.Map.map bC) [44]) [44]=g.Map.map bC:=by
       rw[hA,List.map_cons]at kX ⊢
       exact uk 44 [] _ _ (kX _ (by simp)) fun z hz=>kX z (by simp only[List.mem_cons]; exact .inr hz)
     rw[hsp2,Ei (fun x hx=>by have:=k4 x hx; omega),DV g.Map 0 [] (fun x hx=>by have:=k4 x hx; omega) (by simp; omega)]at gv
     cases gv
     exact⟨rfl,rfl⟩
 · refine⟨false,{From:=0,To:=0,Map:=[]},?_,?_⟩
   · rw[if_pos (by simp only[bne_iff_ne,ne_eq]; omega)]; rfl
   · intro g h1 h2
     have hw:=D7 h1
     refine absurd ?_ h4
     rw[←h2,pJ,uk 32 [] _ _ (hw _ (by simp)) fun z hz=>hw z (by simp only[List.mem_cons]at hz ⊢; exact .inr hz)]
     rfl
theorem LA(s:List Int)(hs:s.length<4294967296)(text:List UInt8)(a b:Int):∀(ws:List (List UInt8))(k:Nat)(c:List Int),(∀y∈ws,y.length<=1048576)->c.length+ws.length<4294967295->tX s text 20 a b ws k c=some (if (lL s {From:=a,To:=b,Map:=c++ws.map nS}&&(pJ {From:=a,To:=b,Map:=c++ws.map nS}==text))then (({From:=a,To:=b,Map:=c++ws.map nS}:eZ),true)else ({From:=0,To:=0,Map:=[]},false))
 |[],k,c,_,_=>by
   unfold tX
   rw[List.map_nil,List.append_nil,Uq _ _ hs,Option.bind_some]
   cases h:lL s {From:=a,To:=b,Map:=c}
   · rfl
   · rw[Bool.not_true,cond_false,SS h,Option.bind_some,Option.bind_some]
     cases h2:(pJ {From:=a,To:=b,Map:=c}==text)<;>simp
 |y::ws,k,c,h,hc=>by
   simp only[List.length_cons]at hc
   unfold tX
   rw[uw (h y (by simp)),Option.bind_some,app1 (by omega),Option.bind_some,LA s hs text a b ws _ _ (fun z hz=>h z (by simp[hz])) (by simp; omega)]
   simp
theorem yD{text:List UInt8}(c:UInt8)(hl:text.length<=1048576):(∀y∈bJ c [] text,y.length<=1048576)/\(bJ c [] text).length<=1048577:=by
 refine⟨fun y hy=>?_,by have:=(AQ c text []).2; omega⟩
 have:=Ey c _ _ y hy
 simp only[List.length_nil]at this; omega
theorem Tx(s:List Int)(hs:s.length<4294967296)(text:List UInt8)(hl:text.length<=1048576):PF (lL s) pJ {From:=0,To:=0,Map:=[]} text (zX 20 s text):=by
 obtain⟨l2,l1⟩:=yD 32 hl
 unfold zX
 rw[uu text 32 hl,Option.bind_some]
 by_cases h4:(bJ 32 [] text).length=4
 · have jL:∀k (h:k<(bJ 32 [] text).length),(bJ 32 [] text)[k].length<=1048576:=fun k h=>l2 _ (List.getElem_mem h)
   have r0:=jL 0 (by omega)
   have r2:=jL 2 (by omega)
   have r3:=jL 3 (by omega)
   obtain⟨n0,g0⟩:=Af (bJ 32 [] text)[0] r0
   obtain⟨n2,g2⟩:=Af (bJ 32 [] text)[2] r2
   obtain⟨m2,m1⟩:=yD 44 r3
   refine⟨true,{From:=n0,To:=n2,Map:=(bJ 44 [] (bJ 32 [] text)[3]).map nS},?_,?_⟩
   · rw[if_neg (by simp[h4]),show (0:Int)=((0:Nat):Int)from rfl,pu _ 0 (by omega),Option.bind_some,show (2:Int)=((2:Nat):Int)from rfl,pu _ 2 (by omega),Option.bind_some,g0,Option.bind_some,g2,Option.bind_some,show (3:Int)=((3:Nat):Int)from rfl,pu _ 3 (by omega),Option.bind_some,uu _ 44 r3,Option.bind_some,LA s hs text n0 n2 _ 0 [] m2 (by simp; omega)]
     simp
   · intro g h1 h2
     obtain⟨k1,k2,k3,k4⟩:=Ap h1
     have hw:=D7 h1
     have hsp:bJ 32 [] text=[[114]++bC g.From,[103,105,118,101,115],[114]++bC g.To,Lib.join (g.Map.map bC) [44]]:=by
       rw[←h2]; exact qK (by simp) hw
     simp only[hsp,List.getElem_cons_zero,List.getElem_cons_succ]at g0 g2 ⊢
     rw[Ag ⟨k1.1,by omega⟩]at g0
     rw[Ag ⟨k2.1,by omega⟩]at g2
     cases g0; cases g2
     rw[qK (by intro h; rw[List.map_eq_nil_iff]at h; rw[h]at k3; simp at k3) (uF (l:=g.Map) (fun x hx=>by have:=k4 x hx; omega) (.inl (by decide))),H8 (fun x hx=>by have:=k4 x hx; omega)]
     exact⟨trivial,rfl⟩
 · refine⟨false,{From:=0,To:=0,Map:=[]},?_,?_⟩
   · rw[if_pos (by simp only[bne_iff_ne,ne_eq]; omega)]; rfl
   · intro g h1 h2
     have hw:=D7 h1
     refine absurd ?_ h4
     rw[←h2,pJ,qK (by simp) hw]
     rfl
theorem lh{α:Type}(l:List α)(i:Int)(k:Nat)(e:i=(k:Int))(h:k<l.length):ix l i=some l[k]:=by subst e; exact pu l k h
def inT(l:List Int):List UInt8:=if l=[]then [102,114,101,101]else Lib.join (l.map bC) [44]
def jh(m:Method):List (List UInt8):=[[114]++bC m.Rel,[105,110],inT m.Inputs,[108,105,109,105,116],Lib.itoa m.Limit,[99,111,115,116],Lib.itoa m.Cost,[113,117,111,116,97],Lib.itoa m.Quota]
def kL(m:Method):List UInt8:=Lib.join (jh m) [32]
theorem qE{s:List Int}{m:Method}(h:iZ s m=true):(0<=m.Rel/\m.Rel<=2)/\(0<=m.Limit/\m.Limit<=9)/\(0<=m.Cost/\m.Cost<=99)/\(1<=m.Quota/\m.Quota<=99)/\m.Inputs.length<=3/\(∀x∈m.Inputs,0<=x/\x<=2)/\m.Inputs.Pairwise (· < ·)/\ib (fun _=>true) (fun y x=>decide (x<=y)) none m.Inputs=true:=by
 have hi:=Uu h
 simp only[iZ,Bool.and_eq_true,List.all_eq_true,ay,decide_eq_true_eq]at h
 obtain⟨h1,h2,h3,h4,h5,h6⟩:=h
 have a1:=kI h1
 exact⟨D6 h1,h2,h3,h4,hi,fun x hx=>by have:=h6 x hx; omega,((Es none _).1 h5).2,h5⟩
theorem D_{d t a b c:List UInt8}(hd:d.length<=3)(ht:t.length<=7)(ha:a.length<=3)(hb:b.length<=3)(hc:c.length<=3):
   (((aP [114] d).bind fun nz=>(aP nz [32,105,110,32]).bind fun sS=>(aP sS t).bind fun lY=>(aP lY [32,108,105,109,105,116,32]).bind fun x30=>(some a).bind fun Dc=>(aP x30 Dc).bind fun jA=>(aP jA [32,99,111,115,116,32]).bind fun x41=>(some b).bind fun De=>(aP x41 De).bind fun sM=>(aP sM [32,113,117,111,116,97,32]).bind fun l8=>(some c).bind fun vg=>(aP l8 vg).bind fun Df=>some Df):Option (List UInt8))=some (Lib.join [[114]++d,[105,110],t,[108,105,109,105,116],a,[99,111,115,116],b,[113,117,111,116,97],c] [32]):=by
 simp only[Option.bind_some]
 rw[dR (by simp; omega),Option.bind_some,dR (by simp; omega),Option.bind_some,dR (by simp; omega),Option.bind_some,dR (by simp; omega),Option.bind_some,dR (by simp; omega),Option.bind_some,dR (by simp; omega),Option.bind_some,dR (by simp; omega),Option.bind_some,dR (by simp; omega),Option.bind_some,dR (by simp; omega),Option.bind_some]
 simp[Lib.join_cons,Lib.joinTail]
theorem Sc{s:List Int}{m:Method}(h:iZ s m=true):vG m=some (kL m):=by
 obtain⟨h1,h2,h3,h4,h5,h6,h7,h8⟩:=qE h
 have p1:ay 0 2 m.Rel=true:=by simp only[ay,Bool.and_eq_true,decide_eq_true_eq]; omega
 have p2:ay 0 9 m.Limit=true:=by simp only[ay,Bool.and_eq_true,decide_eq_true_eq]; omega
 have p3:ay 0 99 m.Cost=true:=by simp only[ay,Bool.and_eq_true,decide_eq_true_eq]; omega
 have p4:ay 1 99 m.Quota=true:=by simp only[ay,Bool.and_eq_true,decide_eq_true_eq]; omega
 have p5:(m.Inputs.any fun x=>!ay 0 (3-1) x)=false:=by
   rw[List.any_eq_false]
   intro x hx
   have:=h6 x hx
   simp[ay]; omega
 have a1:=(jg (n:=m.Limit) (by omega)).2.2.2.2.2
 have a2:=(jg (n:=m.Cost) (by omega)).2.2.2.2.2
 have a3:=(jg (n:=m.Quota) (by omega)).2.2.2.2.2
 unfold vG nN xE
 simp only[l_,M4,p1,p2,p3,p4,p5,h8,Md _ (show m.Inputs.length<4294967296 by omega),K_ m.Inputs 3 (by omega),Option.bind_some,Bool.not_true,Bool.not_false,cond_false,cond_true,Bool.false_eq_true,if_false]
 rw[xC _ (by omega),zD m.Limit (by omega),zD m.Cost (by omega),zD m.Quota (by omega)]
 simp only[Option.bind_some]
 by_cases hn:m.Inputs=[]
 · rw[if_neg (by simp[hn])]
   have:=D_ (d:=bC m.Rel) (t:=[102,114,101,101]) (by simp[bC]) (by simp) a1 a2 a3
   simp only[Option.bind_some]at this
   rw[this,kL,jh,inT,if_pos hn]
 · have hl:0<m.Inputs.length:=List.length_pos_iff.2 hn
   rw[if_pos (by simp only[decide_eq_true_eq]; omega),GX m.Inputs (fun x hx=>by have:=h6 x hx; omega) h5,Option.bind_some]
   have:=D_ (d:=bC m.Rel) (t:=Lib.join (m.Inputs.map bC) [44]) (by simp[bC]) (x_ _ h5) a1 a2 a3
   simp only[Option.bind_some]at this
   rw[this,kL,jh,inT,if_neg hn]
theorem Le{m:Method}(h1:0<=m.Rel/\m.Rel<=2)(h2:0<=m.Limit/\m.Limit<=9)(h3:0<=m.Cost/\m.Cost<=99)(h4:1<=m.Quota/\m.Quota<=99)(h5:m.Inputs.length<=3)(h6:∀x∈m.Inputs,0<=x/\x<=2)(h7:m.Inputs.Pairwise (· < ·)):∀(l pre:List Int),m.Inputs=pre++l->qw m 20 l pre.length=some (kL m)
 |[],pre,_=>by
   have a1:=(jg (n:=m.Limit) (by omega)).2.2
   have a2:=(jg (n:=m.Cost) (by omega)).2.2
   have a3:=(jg (n:=m.Quota) (by omega)).2.2
   unfold qw
   rw[vH (by decide) m.Rel (by omega),a1.1,a2.1,a3.1]
   simp only[Option.bind_some]
   by_cases hn:m.Inputs=[]
   · rw[if_neg (by simp[hn])]
     have:=D_ (d:=bC m.Rel) (t:=[102,114,101,101]) (by simp[bC]) (by simp) a1.2.2.2 a2.2.2.2 a3.2.2.2
     simp only[Option.bind_some]at this
     rw[this,kL,jh,inT,if_pos hn]
   · have hl:0<m.Inputs.length:=List.length_pos_iff.2 hn
     rw[if_pos (by simp only[decide_eq_true_eq]; omega),GV (by decide) m.Inputs (fun x hx=>by have:=h6 x hx; omega) h5,Option.bind_some]
     have:=D_ (d:=bC m.Rel) (t:=Lib.join (m.Inputs.map bC) [44]) (by simp[bC]) (x_ _ h5) a1.2.2.2 a2.2.2.2 a3.2.2.2
     simp only[Option.bind_some]at this
     rw[this,kL,jh,inT,if_neg hn]
 |x::l,pre,e=>by
   have hx:=h6 x (by rw[e]; simp)
   have hml:m.Inputs.length=pre.length+(l.length+1):=by rw[e]; simp
   unfold qw
   rw[iX,Option.bind_some,show ay 0 2 x=true by simp only[ay,Bool.and_eq_true,decide_eq_true_eq]; omega,Bool.not_true,cond_false]
   have next:qw m 20 l (pre.length+1)=some (kL m):=by
     have:=Le h1 h2 h3 h4 h5 h6 h7 l (pre++[x]) (by rw[e]; simp)
     simpa using this
   by_cases hp:0<pre.length
   · have hlt:pre.length-1<m.Inputs.length:=by omega
     have ey:m.Inputs[pre.length-1]=pre[pre.length-1]:=by
       simp only[e]; rw[List.getElem_append_left]
     have hy:pre[pre.length-1]<x:=by
       rw[e,List.pairwise_append]at h7
       exact h7.2.2 _ (List.getElem_mem _) x (by simp)
     rw[decide_eq_true (by omega),cond_true,eY (by omega) (by omega),show (pre.length:Int)-1=((pre.length-1:Nat):Int) by omega,pu _ _ hlt,Option.bind_some,ey,show decide (x<=pre[pre.length-1])=false from decide_eq_false (by omega),Option.bind_some]
     exact next
   · rw[decide_eq_false (by omega),cond_false,Option.bind_some]
     exact next
theorem Sd{s:List Int}{m:Method}(h:iZ s m=true):xA 20 m=some (kL m):=by
 obtain⟨h1,h2,h3,h4,h5,h6,h7,h8⟩:=qE h
 have p1:ay 0 2 m.Rel=true:=by simp only[ay,Bool.and_eq_true,decide_eq_true_eq]; omega
 have p2:ay 0 9 m.Limit=true:=by simp only[ay,Bool.and_eq_true,decide_eq_true_eq]; omega
 have p3:ay 0 99 m.Cost=true:=by simp only[ay,Bool.and_eq_true,decide_eq_true_eq]; omega
 have p4:ay 1 99 m.Quota=true:=by simp only[ay,Bool.and_eq_true,decide_eq_true_eq]; omega
 unfold xA
 simp only[iX,p1,p2,p3,p4,Option.bind_some,Bool.not_true,cond_false,Bool.false_eq_true,if_false]
 exact Le h1 h2 h3 h4 h5 h6 h7 m.Inputs [] rfl
theorem Hz{c:UInt8}{A:List (List UInt8)}(h:∀z∈A,c∉z){d:UInt8}(hd:c≠d):c∉Lib.join A [d]:=by
 cases A with
 |nil=>simp[Lib.join,List.intercalate]
 |cons y A=>
   rw[Lib.join_cons]
   intro hm
   rcases List.mem_append.1 hm with hm|hm
   · exact h y (by simp) hm
   · simp only[Lib.joinTail,List.mem_flatten,List.mem_map]at hm
     obtain⟨w,⟨a,ha,rfl⟩,hw⟩:=hm
     rcases List.mem_append.1 hw with hw|hw
     · simp at hw; exact hd hw
     · exact h a (by simp[ha]) hw
theorem MR{s:List Int}{m:Method}(h:iZ s m=true):∀z∈jh m,(32:UInt8)∉z:=by
 obtain⟨h1,h2,h3,h4,h5,h6,-⟩:=qE h
 intro z hz
 simp only[jh,List.mem_cons,List.not_mem_nil,or_false]at hz
 rcases hz with rfl|rfl|rfl|rfl|rfl|rfl|rfl|rfl|rfl
 · intro hm
   rw[mf ⟨h1.1,by omega⟩]at hm
   rcases List.mem_append.1 hm with hm|hm
   · simp at hm
   · exact pq ⟨h1.1,by omega⟩ (.inl (by decide)) hm
 · decide
 · unfold inT
   split
   · decide
   · exact Hz (uF (l:=m.Inputs) (fun x hx=>by have:=h6 x hx; omega) (.inl (by decide))) (by decide)
 · decide
 · exact pq (by omega) (.inl (by decide))
 · decide
 · exact pq (by omega) (.inl (by decide))
 · decide
 · exact pq (by omega) (.inl (by decide))
theorem N_{l:List Int}(h:∀x∈l,0<=x/\x<=9)(hn:l≠[]):inT l≠[102,114,101,101]:=by
 unfold inT
 rw[if_neg hn]
 cases l with
 |nil=>exact absurd rfl hn
 |cons x l=>
   rw[List.map_cons,Lib.join_cons]
   intro e
   have h1:=(jg (n:=x) (by have:=h x (by simp); omega)).2.2.2.1
   rw[mf (h x (by simp))]at e
   have hl:=(jg (n:=x) (by have:=h x (by simp); omega)).2.2.2.2.1
   cases hi:Lib.itoa x with
   |nil=>rw[hi]at hl; simp at hl
   |cons c r=>
     rw[hi]at e h1
     have:=h1 c (by simp)
     simp only[List.cons_append,List.cons.injEq]at e
     rw[e.1]at this
     simp at this
theorem Mo:∀(l:List (List UInt8))(k:Nat)(c:List Int),(∀y∈l,y.length<=1048576)->c.length+l.length<4294967295-> ∃v b,mH l k c=some (v,b)/\v.length<=c.length+l.length
 |[],k,c,_,_=>⟨_,_,rfl,by simp⟩
 |y::l,k,c,h,hc=>by
   simp only[List.length_cons]at hc
   obtain⟨n,b,e⟩:=nD y (h y (by simp))
   rw[mH,e,Option.bind_some]
   cases b
   · exact⟨_,_,rfl,by simp⟩
   · rw[if_neg (by simp),app1 (by omega),Option.bind_some]
     obtain⟨v,b,e2,h2⟩:=Mo l (k+1) (c++[n]) (fun x hx=>h x (by simp[hx])) (by simp; omega)
     exact⟨v,b,e2,by simp at h2 ⊢; omega⟩
theorem w4:IntKind.i64.wrap ((IntKind.i64.wrap (2*0))+4)=((4:Nat):Int):=by decide
theorem w6:IntKind.i64.wrap ((IntKind.i64.wrap (2*(IntKind.i64.wrap (0+1))))+4)=((6:Nat):Int):=by decide
theorem w8:IntKind.i64.wrap ((IntKind.i64.wrap (2*(IntKind.i64.wrap ((IntKind.i64.wrap (0+1))+1))))+4)=((8:Nat):Int):=by decide
theorem Ll{s:List Int}(hs:s.length<4294967296)(text:List UInt8)(n0:Int)(b0:Bool)(v:List Int)(hv:v.length<4294967296)(n4 n6 n8:Int):(((bif (!b0)then (some true)
         else ((vS s ({Rel:=n0,Inputs:=v,Limit:=n4,Cost:=n6,Quota:=n8}:Method)).bind fun Dg=>
           bif (!Dg)then (some true)
           else ((vG ({Rel:=n0,Inputs:=v,Limit:=n4,Cost:=n6,Quota:=n8}:Method)).bind fun sW=>
             some (!(sW==text))))).bind fun Dh=>
       match Dh with
       |c85=>if c85 then (
           some (({Rel:=0,Inputs:=[],Limit:=0,Cost:=0,Quota:=0}:Method),false))
         else (
           some (({Rel:=n0,Inputs:=v,Limit:=n4,Cost:=n6,Quota:=n8}:Method),true))):Option (Method×Bool))=some (if b0&&(iZ s {Rel:=n0,Inputs:=v,Limit:=n4,Cost:=n6,Quota:=n8}&&(kL {Rel:=n0,Inputs:=v,Limit:=n4,Cost:=n6,Quota:=n8}==text))then ({Rel:=n0,Inputs:=v,Limit:=n4,Cost:=n6,Quota:=n8},true)else ({Rel:=0,Inputs:=[],Limit:=0,Cost:=0,Quota:=0},false)):=by
 cases b0
 · rfl
 · rw[Bool.not_true,cond_false,TC _ _ hs hv,Option.bind_some]
   cases h:iZ s {Rel:=n0,Inputs:=v,Limit:=n4,Cost:=n6,Quota:=n8}
   · rfl
   · rw[Bool.not_true,cond_false,Sc h,Option.bind_some,Option.bind_some]
     cases h2:(kL {Rel:=n0,Inputs:=v,Limit:=n4,Cost:=n6,Quota:=n8}==text)<;>simp
theorem Sm(s:List Int)(hs:s.length<4294967296)(text:List UInt8)(hl:text.length<=1048576):PF (iZ s) kL {Rel:=0,Inputs:=[],Limit:=0,Cost:=0,Quota:=0} text (zL s text):=by
 obtain⟨e1,l1,l2⟩:=uA text [32] (by simp) hl
 unfold zL
 rw[e1,Option.bind_some]
 have hsp:∀g,iZ s g=true->kL g=text->Lib.split text [32]=jh g:=fun g h1 h2=>by
   have hw:=MR h1
   rw[←h2]
   exact uk 32 [] _ _ (hw _ (by simp[jh])) fun z hz=>hw z (by simp only[jh,List.mem_cons]at hz ⊢; exact .inr hz)
 by_cases h9:(Lib.split text [32]).length=9
 · have jL:∀k (h:k<(Lib.split text [32]).length),(Lib.split text [32])[k].length<=1048576:=fun k h=>Nat.le_trans (l2 _ (List.getElem_mem h)) hl
   obtain⟨t0,f0,q0⟩:=AL (Lib.split text [32])[0] [114]
   have r0:=jL 0 (by omega)
   have r2:=jL 2 (by omega)
   obtain⟨n0,b0,g0⟩:=nD t0 (by omega)
   obtain⟨n4,b4,g4⟩:=nD _ (jL 4 (by omega))
   obtain⟨n6,b6,g6⟩:=nD _ (jL 6 (by omega))
   obtain⟨n8,b8,g8⟩:=nD _ (jL 8 (by omega))
   have nums:∀g,iZ s g=true->Lib.split text [32]=jh g->b0=true/\n0=g.Rel/\n4=g.Limit/\n6=g.Cost/\n8=g.Quota:=fun g h1 hw=>by
     obtain⟨k1,k2,k3,k4,-⟩:=qE h1
     simp only[hw,jh,List.getElem_cons_zero,List.getElem_cons_succ]at f0 g4 g6 g8
     rw[Ho]at f0
     cases f0
     rw[mf ⟨k1.1,by omega⟩,(jg ⟨k1.1,by omega⟩).1]at g0
     rw[(jg (by omega)).1]at g4 g6 g8
     cases g0; cases g4; cases g6; cases g8
     exact⟨rfl,rfl,rfl,rfl,rfl⟩
   rw[show (((Lib.split text [32]).length:Int)==9)=true by rw[h9]; rfl,cond_true,lh _ 2 2 rfl (by omega),Option.bind_some,Option.bind_some]
   dsimp only
   by_cases hf:(Lib.split text [32])[2]=[102,114,101,101]
   · refine⟨b0,{Rel:=n0,Inputs:=[],Limit:=n4,Cost:=n6,Quota:=n8},?_,?_⟩
     · rw[if_neg (by simp[hf]),if_neg (by simp),lh _ 0 0 rfl (by omega),Option.bind_some,f0,Option.bind_some,g0,Option.bind_some]
       rw[lh _ _ 4 w4 (by omega),Option.bind_some,g4,Option.bind_some]
       rw[lh _ _ 6 w6 (by omega),Option.bind_some,g6,Option.bind_some]
       rw[lh _ _ 8 w8 (by omega),Option.bind_some,g8,Option.bind_some]
       exact Ll hs text n0 b0 [] (by simp) n4 n6 n8
     · intro g h1 h2
       have hw:=hsp g h1 h2
       obtain⟨rfl,rfl,rfl,rfl,rfl⟩:=nums g h1 hw
       obtain⟨-,-,-,-,-,k6,-⟩:=qE h1
       simp only[hw,jh,List.getElem_cons_zero,List.getElem_cons_succ]at hf
       have hn:g.Inputs=[]:=by
         by_cases hn:g.Inputs=[]
         · exact hn
         · exact absurd hf (N_ (fun x hx=>by have:=k6 x hx; omega) hn)
       exact⟨rfl,by rw[←hn]⟩
   · obtain⟨e3,m1,m2⟩:=uA (Lib.split text [32])[2] [44] (by simp) r2
     obtain⟨v,bv,gv,lv⟩:=Mo (Lib.split (Lib.split text [32])[2] [44]) 0 [] (fun y hy=>Nat.le_trans (m2 y hy) r2) (by simp; omega)
     refine⟨bv&&b0,{Rel:=n0,Inputs:=v,Limit:=n4,Cost:=n6,Quota:=n8},?_,?_⟩
     · rw[if_pos (by simp[hf]),Option.bind_some,e3,Option.bind_some,uo,gv,Option.bind_some]
       cases bv
       · rfl
       dsimp only
       rw[if_neg (by simp),lh _ 0 0 rfl (by omega),Option.bind_some,f0,Option.bind_some,g0,Option.bind_some]
       rw[lh _ _ 4 w4 (by omega),Option.bind_some,g4,Option.bind_some]
       rw[lh _ _ 6 w6 (by omega),Option.bind_some,g6,Option.bind_some]
       rw[lh _ _ 8 w8 (by omega),Option.bind_some,g8,Option.bind_some]
       exact Ll hs text n0 b0 v (by simp at lv; omega) n4 n6 n8
     · intro g h1 h2
       have hw:=hsp g h1 h2
       obtain⟨rfl,rfl,rfl,rfl,rfl⟩:=nums g h1 hw
       obtain⟨-,-,-,-,k5,k6,-⟩:=qE h1
       have Dq:∀x∈g.Inputs,0<=x/\x<=9:=fun x hx=>by have:=k6 x hx; omega
       simp only[hw,jh,List.getElem_cons_zero,List.getElem_cons_succ]at hf gv
       have hn:g.Inputs≠[]:=fun hn=>hf (by unfold inT; rw[if_pos hn])
       obtain⟨y,A,hA⟩:=List.exists_cons_of_ne_nil hn
       have kX:=uF (c:=44) Dq (.inl (by decide))
       have hsp2:Lib.split (inT g.Inputs) [44]=g.Inputs.map bC:=by
         unfold inT
         rw[if_neg hn]
         rw[hA,List.map_cons]at kX ⊢
         exact uk 44 [] _ _ (kX _ (by simp)) fun z hz=>kX z (by simp only[List.mem_cons]; exact .inr hz)
       rw[hsp2,Ei Dq,DV g.Inputs 0 [] (fun x hx=>by have:=k6 x hx; omega) (by simp; omega)]at gv
       cases gv
       exact⟨rfl,rfl⟩
 · refine⟨false,{Rel:=0,Inputs:=[],Limit:=0,Cost:=0,Quota:=0},?_,?_⟩
   · rw[show (((Lib.split text [32]).length:Int)==9)=false by rw[beq_eq_false_iff_ne]; omega]; rfl
   · intro g h1 h2
     exact absurd (by rw[hsp g h1 h2]; rfl) h9
theorem Gw(s:List Int)(hs:s.length<4294967296)(text:List UInt8)(n0 n4 n6 n8:Int):∀(ws:List (List UInt8))(k:Nat)(c:List Int),(∀y∈ws,y.length<=1048576)->c.length+ws.length<4294967295->qx s text 20 n0 n4 n6 n8 ws k c=some (if (iZ s {Rel:=n0,Inputs:=c++ws.map nS,Limit:=n4,Cost:=n6,Quota:=n8}&&(kL {Rel:=n0,Inputs:=c++ws.map nS,Limit:=n4,Cost:=n6,Quota:=n8}==text))then (({Rel:=n0,Inputs:=c++ws.map nS,Limit:=n4,Cost:=n6,Quota:=n8}:Method),true)else ({Rel:=0,Inputs:=[],Limit:=0,Cost:=0,Quota:=0},false))
 |[],k,c,_,hc=>by
   unfold qx
   rw[List.map_nil,List.append_nil,TA _ _ hs (by show c.length<_; simp at hc; omega),Option.bind_some]
   cases h:iZ s {Rel:=n0,Inputs:=c,Limit:=n4,Cost:=n6,Quota:=n8}
   · rfl
   · rw[Bool.not_true,cond_false,Sd h,Option.bind_some,Option.bind_some]
     cases h2:(kL {Rel:=n0,Inputs:=c,Limit:=n4,Cost:=n6,Quota:=n8}==text)<;>simp
 |y::ws,k,c,h,hc=>by
   simp only[List.length_cons]at hc
   unfold qx
   rw[uw (h y (by simp)),Option.bind_some,app1 (by omega),Option.bind_some,Gw s hs text n0 n4 n6 n8 ws _ _ (fun z hz=>h z (by simp[hz])) (by simp; omega)]
   simp
theorem Sn(s:List Int)(hs:s.length<4294967296)(text:List UInt8)(hl:text.length<=1048576):PF (iZ s) kL {Rel:=0,Inputs:=[],Limit:=0,Cost:=0,Quota:=0} text (zK 20 s text):=by
 obtain⟨l2,l1⟩:=yD 32 hl
 unfold zK
 rw[uu text 32 hl,Option.bind_some]
 have hsp:∀g,iZ s g=true->kL g=text->bJ 32 [] text=jh g:=fun g h1 h2=>by
   rw[←h2]; exact qK (by simp[jh]) (MR h1)
 by_cases h9:(bJ 32 [] text).length=9
 · have jL:∀k (h:k<(bJ 32 [] text).length),(bJ 32 [] text)[k].length<=1048576:=fun k h=>l2 _ (List.getElem_mem h)
   have r2:=jL 2 (by omega)
   obtain⟨n0,g0⟩:=Af _ (jL 0 (by omega))
   have nums:∀g,iZ s g=true->bJ 32 [] text=jh g->n0=g.Rel/\nS (bJ 32 [] text)[4]=g.Limit/\nS (bJ 32 [] text)[6]=g.Cost/\nS (bJ 32 [] text)[8]=g.Quota:=fun g h1 hw=>by
     obtain⟨k1,k2,k3,k4,-⟩:=qE h1
     simp only[hw,jh,List.getElem_cons_zero,List.getElem_cons_succ]at g0 ⊢
     rw[Ag ⟨k1.1,by omega⟩]at g0
     cases g0
     exact⟨rfl,Ez (by omega),Ez (by omega),Ez (by omega)⟩
   rw[if_neg (by simp[h9]),lh _ 0 0 rfl (by omega),Option.bind_some,lh _ 4 4 rfl (by omega),Option.bind_some,lh _ 6 6 rfl (by omega),Option.bind_some,lh _ 8 8 rfl (by omega),Option.bind_some,g0,Option.bind_some,uw (jL 4 (by omega)),Option.bind_some,uw (jL 6 (by omega)),Option.bind_some,uw (jL 8 (by omega)),Option.bind_some,lh _ 2 2 rfl (by omega),Option.bind_some]
   by_cases hf:(bJ 32 [] text)[2]=[102,114,101,101]
   · refine⟨true,{Rel:=n0,Inputs:=[],Limit:=nS (bJ 32 [] text)[4],Cost:=nS (bJ 32 [] text)[6],Quota:=nS (bJ 32 [] text)[8]},?_,?_⟩
     · rw[if_neg (by simp[hf])]
       have:=Gw s hs text n0 (nS (bJ 32 [] text)[4]) (nS (bJ 32 [] text)[6]) (nS (bJ 32 [] text)[8]) [] 0 [] (by simp) (by simp)
       unfold qx at this
       simpa using this
     · intro g h1 h2
       have hw:=hsp g h1 h2
       obtain⟨q1,q2,q3,q4⟩:=nums g h1 hw
       obtain⟨-,-,-,-,-,k6,-⟩:=qE h1
       rw[q1,q2,q3,q4]
       simp only[hw,jh,List.getElem_cons_zero,List.getElem_cons_succ]at hf
       have hn:g.Inputs=[]:=by
         by_cases hn:g.Inputs=[]
         · exact hn
         · exact absurd hf (N_ (fun x hx=>by have:=k6 x hx; omega) hn)
       exact⟨rfl,by rw[←hn]⟩
   · obtain⟨m2,m1⟩:=yD 44 r2
     refine⟨true,{Rel:=n0,Inputs:=(bJ 44 [] (bJ 32 [] text)[2]).map nS,Limit:=nS (bJ 32 [] text)[4],Cost:=nS (bJ 32 [] text)[6],Quota:=nS (bJ 32 [] text)[8]},?_,?_⟩
     · rw[if_pos (by simp[hf]),Option.bind_some,uu _ 44 r2,Option.bind_some,Gw s hs text _ _ _ _ _ 0 [] m2 (by simp; omega)]
       simp
     · intro g h1 h2
       have hw:=hsp g h1 h2
       obtain⟨q1,q2,q3,q4⟩:=nums g h1 hw
       obtain⟨-,-,-,-,k5,k6,-⟩:=qE h1
       have Dq:∀x∈g.Inputs,0<=x/\x<=9:=fun x hx=>by have:=k6 x hx; omega
       rw[q1,q2,q3,q4]
       simp only[hw,jh,List.getElem_cons_zero,List.getElem_cons_succ]at hf ⊢
       have hn:g.Inputs≠[]:=fun hn=>hf (by unfold inT; rw[if_pos hn])
       have e:inT g.Inputs=Lib.join (g.Inputs.map bC) [44]:=by unfold inT; rw[if_neg hn]
       rw[e,qK (by simpa using hn) (uF Dq (.inl (by decide))),H8 Dq]
       exact⟨trivial,rfl⟩
 · refine⟨false,{Rel:=0,Inputs:=[],Limit:=0,Cost:=0,Quota:=0},?_,?_⟩
   · rw[if_pos (by simp only[bne_iff_ne,ne_eq]; omega)]; rfl
   · intro g h1 h2
     exact absurd (by rw[hsp g h1 h2]; rfl) h9
def dZ(t:Int):List UInt8:=if ay 10 17 t then 120::Lib.itoa (t-10)else Lib.itoa t
def QG(n:Nat):Bool:=decide (Ae n=some (dZ n))&&(decide (yj 20 n=some (dZ n))&&(decide (oV 20 (dZ n)=some (n:Int))&&(((kY (dZ n) [120]).bind fun d=>(gW d).bind fun r=>some (r.2&&decide ((if (!(d==dZ n))then IntKind.i64.wrap (r.1+10)else r.1)=(n:Int))))==some true&&((dZ n).all (fun c=>!(c==44)&&(!(c==40)&&(!(c==41)&&!(c==32))))&&(decide (1<=(dZ n).length)&&decide ((dZ n).length<=2))))))
theorem WB:(List.range 18).all QG=true:=by decide+kernel
theorem nX{t:Int}(h:fZ t=true):Ae t=some (dZ t)/\yj 20 t=some (dZ t)/\oV 20 (dZ t)=some t/\(∃d n,kY (dZ t) [120]=some d/\gW d=some (n,true)/\(if d≠dZ t then IntKind.i64.wrap (n+10)else n)=t)/\(∀c∈dZ t,c≠44/\c≠40/\c≠41/\c≠32)/\1<=(dZ t).length/\(dZ t).length<=2:=by
 have hr:0<=t/\t<=17:=by
   simp only[fZ,ay,Bool.or_eq_true,Bool.and_eq_true,decide_eq_true_eq]at h; omega
 obtain⟨k,rfl⟩:=Int.eq_ofNat_of_zero_le hr.1
 have h1:=List.all_eq_true.1 WB k (List.mem_range.2 (by omega))
 simp only[QG,Bool.and_eq_true,decide_eq_true_eq,List.all_eq_true,beq_iff_eq,Bool.not_eq_true',beq_eq_false_iff_ne]at h1
 obtain⟨a1,a2,a3,a4,a5,a6,a7⟩:=h1
 refine⟨a1,a2,a3,?_,fun c hc=>a5 c hc,a6,a7⟩
 cases hd:kY (dZ (k:Int)) [120]with
 |none=>rw[hd]at a4; cases a4
 |some d=>
   rw[hd,Option.bind_some]at a4
   cases hn:gW d with
   |none=>rw[hn]at a4; cases a4
   |some r=>
     rw[hn,Option.bind_some]at a4
     obtain⟨n,b⟩:=r
     have a4':=Option.some.inj a4
     simp only[Bool.and_eq_true,decide_eq_true_eq]at a4'
     exact⟨d,n,rfl,by rw[hn,a4'.1],a4'.2⟩
def kF(l:List Int):List UInt8:=Lib.join (l.map dZ) [44]
theorem wB{l:List Int}(h:∀x∈l,fZ x=true):∀z∈l.map dZ,(44:UInt8)∉z/\(40:UInt8)∉z/\(41:UInt8)∉z/\(32:UInt8)∉z:=fun z hz=>by
 obtain⟨x,hx,rfl⟩:=List.mem_map.1 hz
 have:=(nX (h x hx)).2.2.2.2.1
 exact⟨fun h=>(this _ h).1 rfl,fun h=>(this _ h).2.1 rfl,fun h=>(this _ h).2.2.1 rfl,fun h=>(this _ h).2.2.2 rfl⟩
theorem yw{l:List Int}(h:∀x∈l,fZ x=true)(hl:l.length<=3):(kF l).length<=8:=by
 unfold kF
 cases l with
 |nil=>simp[Lib.join,List.intercalate]
 |cons x l=>
   have h1:=(nX (h x (by simp))).2.2.2.2.2.2
   have key:∀r:List Int,(∀y∈r,fZ y=true)->(Lib.joinTail [44] (r.map dZ)).length<=3*r.length:=by
     intro r
     induction r with
     |nil=>intro _; simp[Lib.joinTail]
     |cons y r ih=>
       intro hr
       have h2:=(nX (hr y (by simp))).2.2.2.2.2.2
       have h3:=ih fun z hz=>hr z (by simp[hz])
       have e:Lib.joinTail [44] ((y::r).map dZ)=[44]++dZ y++Lib.joinTail [44] (r.map dZ):=by simp[Lib.joinTail]
       rw[e]; simp; omega
   have h2:=key l fun z hz=>h z (by simp[hz])
   rw[List.map_cons,Lib.join_cons,List.length_append]
   simp only[List.length_cons]at hl
   omega
theorem Mq{l:List Int}(h:∀x∈l,fZ x=true)(hl:l.length<=3):z_ l=some (kF l):=by
 have key:∀(r:List Int)(k:Nat)(c:List (List UInt8)),(∀x∈r,fZ x=true)->c.length+r.length<=3->(Lib.join (c++r.map dZ) [44]).length<=8->tZ r k c=some (Lib.join (c++r.map dZ) [44]):=by
   intro r
   induction r with
   |nil=>
     intro k c _ hc h8
     rw[tZ]
     unfold qz
     rw[List.map_nil,List.append_nil]at h8 ⊢
     rw[if_pos ⟨by simp at hc; omega,by omega⟩]; rfl
   |cons x r ih=>
     intro k c hr hc h8
     simp only[List.length_cons]at hc
     rw[tZ,(nX (hr x (by simp))).1,Option.bind_some,app1 (by omega),Option.bind_some,ih _ _ (fun y hy=>hr y (by simp[hy])) (by simp; omega) (by simpa using h8)]
     simp
 exact key l 0 [] h (by simpa using hl) (by simpa[kF]using yw h hl)
theorem LZ:∀(r:List Int)(k:Nat)(c:List UInt8),0<k->(∀x∈r,fZ x=true)->c.length+3*r.length<=1000->qC 20 r k c=some (c++Lib.joinTail [44] (r.map dZ))
 |[],k,c,_,_,_=>by simp[qC,Lib.joinTail]
 |x::r,k,c,hk,hr,hc=>by
   simp only[List.length_cons]at hc
   have h1:=nX (hr x (by simp))
   have h2:=h1.2.2.2.2.2.2
   unfold qC
   rw[if_pos (by simp only[decide_eq_true_eq]; omega),dR (by simp; omega),Option.bind_some,h1.2.1,Option.bind_some,dR (by simp; omega),Option.bind_some,Option.bind_some]
   dsimp only
   rw[LZ r _ _ (by omega) (fun y hy=>hr y (by simp[hy])) (by simp; omega)]
   simp[Lib.joinTail]
theorem MS{l:List Int}(h:∀x∈l,fZ x=true)(hl:l.length<=3):xY 20 l=some (kF l):=by
 unfold xY kF
 cases l with
 |nil=>rfl
 |cons x r=>
   have h1:=nX (h x (by simp))
   have h2:=h1.2.2.2.2.2.2
   simp only[List.length_cons]at hl
   unfold qC
   rw[if_neg (by simp),h1.2.1,Option.bind_some,dR (by simp; omega),Option.bind_some,Option.bind_some]
   dsimp only
   rw[LZ r _ _ (by omega) (fun y hy=>h y (by simp[hy])) (by simp; omega),List.map_cons,Lib.join_cons]
   simp
def gz(a:aW):Bool:=ay 0 2 a.Rel&&(ay 1 3 (a.Terms.length:Int)&&a.Terms.all fZ)
def dD(a:aW):List UInt8:=[114]++bC a.Rel++[40]++kF a.Terms++[41]
def uI(a:aW):List UInt8:=if gz a then dD a else []
theorem uy{a:aW}(h:gz a=true):(0<=a.Rel/\a.Rel<=2)/\(1<=a.Terms.length/\a.Terms.length<=3)/\ ∀x∈a.Terms,fZ x=true:=by
 simp only[gz,ay,Bool.and_eq_true,decide_eq_true_eq,List.all_eq_true]at h
 exact⟨h.1,by omega,h.2.2⟩
theorem OI{d t:List UInt8}(hd:d.length<=1)(ht:t.length<=8):(((aP [114] d).bind fun x=>(aP x [40]).bind fun y=>(aP y t).bind fun z=>(aP z [41]).bind fun u=>some u):Option (List UInt8))=some ([114]++d++[40]++t++[41]):=by
 rw[dR (by simp; omega),Option.bind_some,dR (by simp; omega),Option.bind_some,dR (by simp; omega),Option.bind_some,dR (by simp; omega),Option.bind_some]
theorem SV(a:aW):zV a=some (uI a):=by
 unfold zV uI nN
 rw[l_,Option.bind_some,Option.bind_some]
 cases h1:ay 0 2 a.Rel
 · simp[gz,h1]
 rw[l_,Option.bind_some]
 cases h2:ay 1 3 (a.Terms.length:Int)
 · simp[gz,h1,h2]
 simp only[Bool.not_true,cond_false,MG,Option.bind_some]
 cases h3:a.Terms.all fZ
 · simp[gz,h1,h2,h3]
 · have ho:gz a=true:=by simp[gz,h1,h2,h3]
   obtain⟨g1,g2,g3⟩:=uy ho
   simp only[Bool.not_true,Bool.false_eq_true,if_false]
   rw[if_pos ho,xC _ (by omega),Option.bind_some,Mq g3 g2.2]
   simp only[Option.bind_some]
   exact OI (by simp[bC]) (yw g3 g2.2)
theorem Lm{a:aW}(h:gz a=true):∀(l:List Int)(k:Nat),(∀x∈l,fZ x=true)->tQ a 20 l k=some (dD a)
 |[],k,_=>by
   obtain⟨g1,g2,g3⟩:=uy h
   unfold tQ
   rw[vH (by decide) _ (by omega),Option.bind_some,MS g3 g2.2]
   simp only[Option.bind_some]
   exact OI (by simp[bC]) (yw g3 g2.2)
 |x::l,k,hl=>by
   unfold tQ
   rw[M5,Option.bind_some,hl x (by simp),if_neg (by simp)]
   exact Lm h l _ fun y hy=>hl y (by simp[hy])
theorem DL{a:aW}(h:gz a=true):xG 20 a=some (dD a):=by
 obtain⟨g1,g2,g3⟩:=uy h
 have p1:ay 0 2 a.Rel=true:=by simp only[ay,Bool.and_eq_true,decide_eq_true_eq]; omega
 have p2:ay 1 3 (a.Terms.length:Int)=true:=by simp only[ay,Bool.and_eq_true,decide_eq_true_eq]; omega
 unfold xG
 simp only[iX,p1,p2,Option.bind_some,Bool.not_true,cond_false,Bool.false_eq_true,if_false]
 exact Lm h a.Terms 0 g3
theorem Vq{s:List Int}{a:aW}(h:lM s a=true):gz a=true:=by
 simp only[lM,Bool.and_eq_true,beq_iff_eq]at h
 obtain⟨h1,h2,h3⟩:=h
 have a1:=kI h1
 have a2:=D6 h1
 simp only[gz,ay,Bool.and_eq_true,decide_eq_true_eq]
 exact⟨a2,by omega,h3⟩
theorem EA{a:aW}(h:gz a=true):(32:UInt8)∉dD a:=by
 obtain⟨g1,g2,g3⟩:=uy h
 unfold dD
 intro hm
 simp only[List.mem_append,List.mem_singleton]at hm
 rcases hm with (((hm|hm)|hm)|hm)|hm
 · exact absurd hm (by decide)
 · rw[mf ⟨g1.1,by omega⟩]at hm
   exact pq ⟨g1.1,by omega⟩ (.inl (by decide)) hm
 · exact absurd hm (by decide)
 · exact Hz (fun z hz=>(wB g3 z hz).2.2.2) (by decide) hm
 · exact absurd hm (by decide)
theorem uG{a:aW}(h:gz a=true):1<=(dD a).length/\(dD a).length<=12:=by
 obtain⟨g1,g2,g3⟩:=uy h
 have:=yw g3 g2.2
 unfold dD
 simp[bC]; omega
theorem GD:∀(l:List (List UInt8))(k:Nat)(c:List Int),(∀y∈l,y.length<=1048576)->c.length+l.length<4294967295-> ∃v b,mE l k c=some (v,b)/\v.length<=c.length+l.length
 |[],k,c,_,_=>⟨_,_,rfl,by simp⟩
 |y::l,k,c,h,hc=>by
   simp only[List.length_cons]at hc
   obtain⟨d,e1,l1⟩:=AL y [120]
   obtain⟨n,b,e2⟩:=nD d (by have:=h y (by simp); omega)
   unfold mE
   rw[e1,Option.bind_some,e2,Option.bind_some]
   cases b
   · exact⟨_,_,rfl,by simp⟩
   · have next:∀z,∃v b,mE l (k+1) (c++[z])=some (v,b)/\v.length<=c.length+(l.length+1):=fun z=>by
       obtain⟨v,b,e,hv⟩:=GD l (k+1) (c++[z]) (fun x hx=>h x (by simp[hx])) (by simp; omega)
       exact⟨v,b,e,by simp at hv; omega⟩
     rw[if_neg (by simp)]
     split
     · rw[app1 (by omega),Option.bind_some,Option.bind_some]; exact next _
     · rw[app1 (by omega),Option.bind_some,Option.bind_some]; exact next _
theorem GG:∀(l:List Int)(k:Nat)(c:List Int),(∀x∈l,fZ x=true)->c.length+l.length<4294967295->mE (l.map dZ) k c=some (c++l,true)
 |[],k,c,_,_=>by simp[mE]
 |x::l,k,c,h,hc=>by
   simp only[List.length_cons]at hc
   obtain⟨d,n,e1,e2,e3⟩:=(nX (h x (by simp))).2.2.2.1
   rw[List.map_cons]
   unfold mE
   rw[e1,Option.bind_some,e2,Option.bind_some,if_neg (by simp)]
   have next:mE (l.map dZ) (k+1) (c++[x])=some (c++x::l,true):=by
     rw[GG l _ _ (fun y hy=>h y (by simp[hy])) (by simp; omega)]; simp
   split at e3
   · rename_i hd
     rw[if_pos (by simpa using hd),app1 (by omega),Option.bind_some,Option.bind_some]
     dsimp only
     rw[e3]; exact next
   · rename_i hd
     rw[if_neg (by simpa using hd),app1 (by omega),Option.bind_some,Option.bind_some]
     dsimp only
     rw[e3]; exact next
theorem MI(w:List UInt8)(hl:w.length<=1048576):∃a b,ut w=some (a,b)/\a.Terms.length<=1048577:=by
 obtain⟨n,ws,b1,e1,l1,l2⟩:=Mj w hl
 obtain⟨v,b2,e2,l3⟩:=GD ws 0 [] l1 (by simp; omega)
 unfold ut uj
 rw[e1,Option.bind_some]
 dsimp only
 rw[e2,Option.bind_some]
 cases b1<;>exact⟨_,_,rfl,by simp at l3; show v.length<=_; omega⟩
theorem MJ{a:aW}(h:gz a=true):ut (dD a)=some (a,true):=by
 obtain⟨g1,g2,g3⟩:=uy h
 have hlen:=(uG h).2
 unfold ut uj dD kF at*
 obtain⟨y,A,hA⟩:∃y A,a.Terms=y::A:=by
   cases hv:a.Terms with
   |nil=>rw[hv]at g2; simp at g2
   |cons y A=>exact⟨y,A,rfl⟩
 have kX:∀z∈a.Terms.map dZ,(44:UInt8)∉z:=fun z hz=>(wB g3 z hz).1
 have hy:dZ y≠[]:=by
   have:=(nX (g3 y (by rw[hA]; simp))).2.2.2.2.2.1
   intro e; rw[e]at this; simp at this
 rw[hA,List.map_cons]at kX hlen ⊢
 rw[MH ⟨g1.1,by omega⟩ _ _ hy kX (by omega),Option.bind_some]
 dsimp only
 rw[←List.map_cons,←hA,GG a.Terms 0 [] g3 (by simp; omega)]
 rfl
def hTx(h:List Int):List UInt8:=if h=[]then [121,101,115]else kF h
def oK(q:bG):List UInt8:=hTx q.Head++[32,105,102,32]++Lib.join (q.Atoms.map dD) [32,97,110,100,32]
def kv(q:bG):Bool:=ay 1 4 (q.Atoms.length:Int)&&(q.Atoms.all gz&&(decide ((q.Head.length:Int)<=3)&&q.Head.all fun t=>decide (t∈gM (ay 10 17) q.Atoms)))
def iI(q:bG):List UInt8:=if kv q then oK q else []
theorem nI{q:bG}(h:kv q=true):(1<=q.Atoms.length/\q.Atoms.length<=4)/\(∀a∈q.Atoms,gz a=true)/\q.Head.length<=3/\(∀x∈q.Head,x∈gM (ay 10 17) q.Atoms)/\ ∀x∈q.Head,fZ x=true:=by
 simp only[kv,ay,Bool.and_eq_true,decide_eq_true_eq,List.all_eq_true]at h
 obtain⟨h1,h2,h3,h4⟩:=h
 refine⟨by omega,h2,by omega,h4,fun x hx=>?_⟩
 have:=(Uy.1 (h4 x hx)).2
 simp[fZ,this]
theorem D8{s:List Int}{q:bG}(h:kJ s q=true):kv q=true:=by
 simp only[kJ,Bool.and_eq_true,List.all_eq_true,decide_eq_true_eq]at h
 obtain⟨h1,h2,-,h3,h4⟩:=h
 simp only[kv,Bool.and_eq_true,List.all_eq_true,decide_eq_true_eq]
 exact⟨h3,fun a ha=>Vq (h1 a ha),h4,h2⟩
theorem VW{A:List (List UInt8)}{m:Nat}(h:∀z∈A,z.length<=m)(sep:List UInt8):(Lib.join A sep).length<=A.length*(m+sep.length):=by
 cases A with
 |nil=>simp[Lib.join,List.intercalate]
 |cons y A=>
   have key:∀r:List (List UInt8),(∀z∈r,z.length<=m)->(Lib.joinTail sep r).length<=r.length*(m+sep.length):=by
     intro r
     induction r with
     |nil=>intro _; simp[Lib.joinTail]
     |cons z r ih=>
       intro hr
       have h1:=hr z (by simp)
       have h2:=ih fun w hw=>hr w (by simp[hw])
       have e:Lib.joinTail sep (z::r)=sep++z++Lib.joinTail sep r:=by simp[Lib.joinTail]
       rw[e,List.length_append,List.length_append,List.length_cons,Nat.succ_mul]; omega
   have h1:=h y (by simp)
   have h2:=key A fun z hz=>h z (by simp[hz])
   rw[Lib.join_cons,List.length_append,List.length_cons,Nat.succ_mul]; omega
theorem UZ{l:List aW}(h:∀a∈l,gz a=true)(h4:l.length<=4):(Lib.join (l.map dD) [32,97,110,100,32]).length<=68:=by
 have:=VW (A:=l.map dD) (m:=12) (fun z hz=>by
   obtain⟨a,ha,rfl⟩:=List.mem_map.1 hz
   exact (uG (h a ha)).2) [32,97,110,100,32]
 simp at this; omega
theorem Vr(c:List (List UInt8)):zt c []=some (c.any fun x=>x==[]):=by
 unfold zt qp
 rw[nG (L:=oM []) (f:=fun x=>some (x==[])) (p:=fun x=>x==[]) (fun k=>rfl) (fun x r k=>by
   rw[oM,Option.bind_some]
   cases x<;>rfl) c 0 (fun x _=>rfl),Option.bind_some,nL]
theorem TW(q:bG)(h:dx q.Atoms<4294967295):vU q=some (decide ((q.Head.length:Int)<=3)&&q.Head.all fun t=>decide (t∈gM (ay 10 17) q.Atoms)):=by
 have h2:vz q.Head (gM (ay 10 17) q.Atoms)=some (q.Head.any fun t=>!decide (t∈gM (ay 10 17) q.Atoms)):=by
   unfold vz zn
   rw[nG (L:=vw _) (f:=fun t=>vO t (gM (ay 10 17) q.Atoms)) (p:=fun t=>!decide (t∈gM (ay 10 17) q.Atoms)) (fun k=>rfl) (fun x r k=>rfl) q.Head 0 (fun x _=>by rw[vO,Lc]; rfl),Option.bind_some,nL]
 have e2:(q.Head.any fun t=>!decide (t∈gM (ay 10 17) q.Atoms))=!(q.Head.all fun t=>decide (t∈gM (ay 10 17) q.Atoms)):=by simp[List.all_eq_not_any_not]
 rw[vU,M6 q h,Option.bind_some,h2,e2]
 cases decide ((q.Head.length:Int)<=3)<;>cases (q.Head.all fun t=>decide (t∈gM (ay 10 17) q.Atoms))<;>rfl
theorem DK(q:bG)(ht:dx q.Atoms<4294967295)(ha:q.Atoms.length<=1000):zM q=some (iI q):=by
 have fin:∀(k:Nat),qy q [] k (q.Atoms.map uI)=some (iI q):=by
   intro k
   rw[qy,l_,Option.bind_some,List.length_map]
   unfold iI
   cases h1:ay 1 4 (q.Atoms.length:Int)
   · simp[kv,h1]
   have e3:((q.Atoms.map uI).any fun x=>x==[])=!(q.Atoms.all gz):=by
     rw[List.any_map,List.all_eq_not_any_not,Bool.not_not]
     congr 1
     funext a
     simp only[Function.comp,uI]
     cases h:gz a
     · simp
     · have:=(uG h).1
       rw[if_pos rfl]
       cases hx:dD a with
       |nil=>rw[hx]at this; simp at this
       |cons _ _=>rfl
   rw[Bool.not_true,cond_false,Vr,Option.bind_some,e3]
   cases h2:q.Atoms.all gz
   · simp[kv,h1,h2]
   rw[Bool.not_true,cond_false,TW q ht,Option.bind_some]
   cases h3:(decide ((q.Head.length:Int)<=3)&&q.Head.all fun t=>decide (t∈gM (ay 10 17) q.Atoms))
   · have:kv q=false:=by unfold kv; rw[h1,h2,h3]; rfl
     simp[this]
   · have ho:kv q=true:=by unfold kv; rw[h1,h2,h3]; rfl
     obtain⟨g1,g2,g3,g4,g5⟩:=nI ho
     have em:q.Atoms.map uI=q.Atoms.map dD:=List.map_congr_left fun a h=>by unfold uI; rw[if_pos (g2 a h)]
     have l1:=UZ g2 g1.2
     have l2:=yw g5 g3
     rw[Option.bind_some,em,if_pos ho]
     dsimp only
     rw[if_neg (by simp)]
     unfold qz
     by_cases hn:q.Head=[]
     · rw[if_neg (by simp[hn]),dR (by simp),Option.bind_some,if_pos ⟨by simp; omega,by omega⟩,Option.bind_some,dR (by simp; omega),Option.bind_some]
       simp[oK,hTx,hn]
     · have:0<q.Head.length:=List.length_pos_iff.2 hn
       rw[if_pos (by simp only[decide_eq_true_eq]; omega),Mq g5 g3,Option.bind_some,dR (by simp; omega),Option.bind_some,if_pos ⟨by simp; omega,by omega⟩,Option.bind_some,dR (by simp; omega),Option.bind_some]
       simp[oK,hTx,hn]
 have key:∀(r:List aW)(k:Nat)(c:List aW),c++r=q.Atoms->qy q r k (c.map uI)=some (iI q):=by
   intro r
   induction r with
   |nil=>intro k c e; rw[List.append_nil]at e; subst e; exact fin k
   |cons a r ih=>
     intro k c e
     have hc:c.length+(r.length+1)<=1000:=by rw[←e]at ha; simpa using ha
     rw[qy,SV,Option.bind_some,app1 (by simp; omega),Option.bind_some]
     have:=ih (k+1) (c++[a]) (by simpa using e)
     simpa using this
 exact key q.Atoms 0 [] rfl
theorem Lf:∀(r:List aW)(k:Nat)(c:List UInt8),0<k->(∀a∈r,gz a=true)->c.length+17*r.length<=10000->oN 20 r k c=some (c++Lib.joinTail [32,97,110,100,32] (r.map dD))
 |[],k,c,_,_,_=>by simp[oN,Lib.joinTail]
 |a::r,k,c,hk,hr,hc=>by
   simp only[List.length_cons]at hc
   have h1:=uG (hr a (by simp))
   have hne:(dD a==[])=false:=by
     cases hx:dD a with
     |nil=>rw[hx]at h1; simp at h1
     |cons _ _=>rfl
   unfold oN
   rw[DL (hr a (by simp)),Option.bind_some,if_neg (by simp[hne]),if_pos (by simp only[decide_eq_true_eq]; omega),dR (by simp; omega),Option.bind_some,dR (by simp; omega),Option.bind_some,Option.bind_some]
   dsimp only
   rw[Lf r _ _ (by omega) (fun b hb=>hr b (by simp[hb])) (by simp; omega)]
   simp[Lib.joinTail]
theorem Lg:∀(r:List aW)(k:Nat)(c:List UInt8),0<k->(∀a∈r,gz a=true)->c.length+17*r.length<=10000->oO 20 r k c=some (c++Lib.joinTail [32,97,110,100,32] (r.map dD))
 |[],k,c,_,_,_=>by simp[oO,Lib.joinTail]
 |a::r,k,c,hk,hr,hc=>by
   simp only[List.length_cons]at hc
   have h1:=uG (hr a (by simp))
   have hne:(dD a==[])=false:=by
     cases hx:dD a with
     |nil=>rw[hx]at h1; simp at h1
     |cons _ _=>rfl
   unfold oO
   rw[DL (hr a (by simp)),Option.bind_some,if_neg (by simp[hne]),if_pos (by simp only[decide_eq_true_eq]; omega),dR (by simp; omega),Option.bind_some,dR (by simp; omega),Option.bind_some,Option.bind_some]
   dsimp only
   rw[Lg r _ _ (by omega) (fun b hb=>hr b (by simp[hb])) (by simp; omega)]
   simp[Lib.joinTail]
theorem R8{l:List aW}(hn:1<=l.length)(h4:l.length<=4)(h:∀a∈l,gz a=true)(c:List UInt8)(hc:c.length<=100):oN 20 l 0 c=some (c++Lib.join (l.map dD) [32,97,110,100,32]):=by
 cases l with
 |nil=>simp at hn
 |cons a r=>
   have h1:=uG (h a (by simp))
   simp only[List.length_cons]at h4
   have hne:(dD a==[])=false:=by
     cases hx:dD a with
     |nil=>rw[hx]at h1; simp at h1
     |cons _ _=>rfl
   unfold oN
   rw[DL (h a (by simp)),Option.bind_some,if_neg (by simp[hne]),if_neg (by simp),dR (by omega),Option.bind_some,Option.bind_some]
   dsimp only
   rw[Lf r _ _ (by omega) (fun b hb=>h b (by simp[hb])) (by simp; omega),List.map_cons,Lib.join_cons]
   simp
theorem R9{l:List aW}(hn:1<=l.length)(h4:l.length<=4)(h:∀a∈l,gz a=true)(c:List UInt8)(hc:c.length<=100):oO 20 l 0 c=some (c++Lib.join (l.map dD) [32,97,110,100,32]):=by
 cases l with
 |nil=>simp at hn
 |cons a r=>
   have h1:=uG (h a (by simp))
   simp only[List.length_cons]at h4
   have hne:(dD a==[])=false:=by
     cases hx:dD a with
     |nil=>rw[hx]at h1; simp at h1
     |cons _ _=>rfl
   unfold oO
   rw[DL (h a (by simp)),Option.bind_some,if_neg (by simp[hne]),if_neg (by simp),dR (by omega),Option.bind_some,Option.bind_some]
   dsimp only
   rw[Lg r _ _ (by omega) (fun b hb=>h b (by simp[hb])) (by simp; omega),List.map_cons,Lib.join_cons]
   simp
theorem LP{q:bG}(h:kv q=true)(ht:dx q.Atoms<4294967295):xD 20 q=some (oK q):=by
 obtain⟨g1,g2,g3,g4,g5⟩:=nI h
 have l2:=yw g5 g3
 have p1:ay 1 4 (q.Atoms.length:Int)=true:=by simp only[ay,Bool.and_eq_true,decide_eq_true_eq]; omega
 have k1:∀(l:List Int)(k:Nat),(∀x∈l,x∈gM (ay 10 17) q.Atoms)->tL q 20 (kF q.Head) (gM (ay 10 17) q.Atoms) l k=some (kF q.Head++[32,105,102,32]++Lib.join (q.Atoms.map dD) [32,97,110,100,32]):=by
   intro l
   induction l with
   |nil=>
     intro k _
     rw[tL,dR (by simp; omega),Option.bind_some,R8 g1.1 g1.2 g2 _ (by simp; omega)]
   |cons x l ih=>
     intro k hx
     rw[tL,G_,Option.bind_some,decide_eq_true (hx x (by simp)),if_neg (by simp)]
     exact ih _ fun y hy=>hx y (by simp[hy])
 have k3:∀(k:Nat),vD q 20 (gM (ay 10 17) q.Atoms) [] k=some ([121,101,115]++[32,105,102,32]++Lib.join (q.Atoms.map dD) [32,97,110,100,32]):=by
   intro k
   rw[vD,dR (by simp),Option.bind_some,R9 g1.1 g1.2 g2 _ (by simp)]
 unfold xD
 rw[iX,Option.bind_some,p1,Bool.not_true,cond_false,Option.bind_some]
 dsimp only
 rw[if_neg (by simp only[decide_eq_true_eq]; omega)]
 unfold oK hTx
 by_cases hn:q.Head=[]
 · rw[if_neg (by simp[hn]),GY q ht,Option.bind_some,hn,k3,if_pos rfl]
 · have:0<q.Head.length:=List.length_pos_iff.2 hn
   rw[if_pos (by simp only[decide_eq_true_eq]; omega),MS g5 g3,Option.bind_some,GY q ht,Option.bind_some,k1 q.Head 0 g4,if_neg hn]
theorem yl(a b:List aW):dx (a++b)=dx a+dx b:=by simp[dx]
theorem ym(a:aW):dx [a]=a.Terms.length:=by simp[dx]
theorem LB(text:List UInt8)(r9:List Int×Bool):∀(ps:List (List UInt8))(k:Nat)(c:List aW),(∀y∈ps,y.length<=1048576)->c.length<=4->dx c<=1048577*c.length-> ∃(ok:Bool)(q:bG),mF text r9 ps k c=some (if ok then (q,iI q==text)else ({Head:=[],Atoms:=[]},false))/\dx q.Atoms<4294967295
 |[],k,c,_,h4,ht=>by
   rw[mF,DK _ (show dx c<_ by have:=Nat.mul_le_mul_left 1048577 h4; omega) (show c.length<=1000 by omega),Option.bind_some]
   exact⟨true,{Head:=r9.1,Atoms:=c},rfl,by show dx c<_; have:=Nat.mul_le_mul_left 1048577 h4; omega⟩
 |y::ps,k,c,h,h4,ht=>by
   obtain⟨a,b,e,la⟩:=MI y (h y (by simp))
   rw[mF,e,Option.bind_some]
   dsimp only
   split
   · exact⟨false,{Head:=[],Atoms:=[]},rfl,by simp[dx]⟩
   · rename_i hc
     simp only[Bool.or_eq_true,beq_iff_eq,not_or]at hc
     have:c.length≠4:=fun h=>hc.2 (by omega)
     rw[app1 (by omega),Option.bind_some]
     exact LB text r9 ps _ _ (fun z hz=>h z (by simp[hz])) (by simp; omega) (by rw[yl,ym,List.length_append,List.length_singleton,Nat.mul_add]; omega)
theorem LC(text:List UInt8):∀(ps:List (List UInt8))(k:Nat)(c:List aW),(∀y∈ps,y.length<=1048576)->c.length<=4->dx c<=1048577*c.length-> ∃(ok:Bool)(q:bG),mG text ps k c=some (if ok then (q,iI q==text)else ({Head:=[],Atoms:=[]},false))/\dx q.Atoms<4294967295
 |[],k,c,_,h4,ht=>by
   rw[mG,DK _ (show dx c<_ by have:=Nat.mul_le_mul_left 1048577 h4; omega) (show c.length<=1000 by omega),Option.bind_some]
   exact⟨true,{Head:=[],Atoms:=c},rfl,by show dx c<_; have:=Nat.mul_le_mul_left 1048577 h4; omega⟩
 |y::ps,k,c,h,h4,ht=>by
   obtain⟨a,b,e,la⟩:=MI y (h y (by simp))
   rw[mG,e,Option.bind_some]
   dsimp only
   split
   · exact⟨false,{Head:=[],Atoms:=[]},rfl,by simp[dx]⟩
   · rename_i hc
     simp only[Bool.or_eq_true,beq_iff_eq,not_or]at hc
     have:c.length≠4:=fun h=>hc.2 (by omega)
     rw[app1 (by omega),Option.bind_some]
     exact LC text ps _ _ (fun z hz=>h z (by simp[hz])) (by simp; omega) (by rw[yl,ym,List.length_append,List.length_singleton,Nat.mul_add]; omega)
theorem LD(text:List UInt8)(r9:List Int×Bool):∀(l:List aW)(k:Nat)(c:List aW),(∀a∈l,gz a=true)->c.length+l.length<=4->dx (c++l)<4294967295->mF text r9 (l.map dD) k c=some ({Head:=r9.1,Atoms:=c++l},iI {Head:=r9.1,Atoms:=c++l}==text)
 |[],k,c,_,h4,ht=>by
   rw[List.append_nil]at ht ⊢
   rw[List.map_nil,mF,DK _ ht (show c.length<=1000 by simp at h4; omega),Option.bind_some]
 |a::l,k,c,h,h4,ht=>by
   simp only[List.length_cons]at h4
   rw[List.map_cons,mF,MJ (h a (by simp)),Option.bind_some]
   dsimp only
   rw[if_neg (by simp; omega),app1 (by omega),Option.bind_some,LD text r9 l _ _ (fun b hb=>h b (by simp[hb])) (by simp; omega) (by simpa using ht)]
   simp
theorem LF(text:List UInt8):∀(l:List aW)(k:Nat)(c:List aW),(∀a∈l,gz a=true)->c.length+l.length<=4->dx (c++l)<4294967295->mG text (l.map dD) k c=some ({Head:=[],Atoms:=c++l},iI {Head:=[],Atoms:=c++l}==text)
 |[],k,c,_,h4,ht=>by
   rw[List.append_nil]at ht ⊢
   rw[List.map_nil,mG,DK _ ht (show c.length<=1000 by simp at h4; omega),Option.bind_some]
 |a::l,k,c,h,h4,ht=>by
   simp only[List.length_cons]at h4
   rw[List.map_cons,mG,MJ (h a (by simp)),Option.bind_some]
   dsimp only
   rw[if_neg (by simp; omega),app1 (by omega),Option.bind_some,LF text l _ _ (fun b hb=>h b (by simp[hb])) (by simp; omega) (by simpa using ht)]
   simp
theorem OJ{l:List Int}(h:∀x∈l,fZ x=true)(hn:l≠[]):kF l≠[121,101,115]:=by
 unfold kF
 obtain⟨x,r,rfl⟩:=List.exists_cons_of_ne_nil hn
 rw[List.map_cons,Lib.join_cons]
 intro e
 have h1:=(nX (h x (by simp))).2.2.2.2.2.1
 have h2:∀c∈(dZ x).head?,c≠121:=by
   have hx:=h x (by simp)
   unfold dZ
   split
   · simp
   · intro c hc
     have hr:0<=x/\x<=100:=by
       simp only[fZ,ay,Bool.or_eq_true,Bool.and_eq_true,decide_eq_true_eq]at hx; omega
     have:=(jg hr).2.2.2.1 c (List.mem_of_mem_head? hc)
     rintro rfl
     simp at this
 cases hp:dZ x with
 |nil=>rw[hp]at h1; simp at h1
 |cons c r=>
   rw[hp]at e h2
   simp only[List.cons_append,List.cons.injEq]at e
   exact h2 c rfl e.1
theorem O1{h:List Int}(hh:∀x∈h,fZ x=true):(32:UInt8)∉hTx h:=by
 unfold hTx
 split
 · decide
 · exact Hz (fun z hz=>(wB hh z hz).2.2.2) (by decide)
theorem SX(s:List Int)(hs:s.length<4294967296)(text:List UInt8)(hl:text.length<=1048576):PF (kJ s) iI {Head:=[],Atoms:=[]} text (vK s text):=by
 have fin:∀(ok:Bool)(q:bG),dx q.Atoms<4294967295->o5 text=some (if ok then (q,iI q==text)else ({Head:=[],Atoms:=[]},false))->vK s text=some (if ok&&(kJ s q&&(iI q==text))then (q,true)else ({Head:=[],Atoms:=[]},false)):=by
   intro ok q hq e
   unfold vK
   rw[e,Option.bind_some]
   cases ok
   · rfl
   · rw[if_pos rfl]
     dsimp only
     cases h1:(iI q==text)
     · simp
     · rw[Bool.not_true,cond_false,TV s q hs hq,Option.bind_some]
       cases h2:kJ s q<;>simp
 obtain⟨h,r,has,e1,l1,l2⟩:=Hy text [32,105,102,32] hl
 have cut:∀g,kJ s g=true->iI g=text->kv g=true/\h=hTx g.Head/\r=Lib.join (g.Atoms.map dD) [32,97,110,100,32]/\has=true:=fun g h1 h2=>by
   have ho:=D8 h1
   obtain⟨g1,g2,g3,g4,g5⟩:=nI ho
   unfold iI at h2
   rw[if_pos ho]at h2
   rw[←h2]at e1 hl
   unfold oK at e1 hl
   rw[AR 32 [105,102,32] _ _ (O1 g5) hl]at e1
   cases e1
   exact⟨ho,rfl,rfl,rfl⟩
 have parts:∀g,kJ s g=true->kv g=true->r=Lib.join (g.Atoms.map dD) [32,97,110,100,32]->Lib.split r [32,97,110,100,32]=g.Atoms.map dD/\dx g.Atoms<4294967295:=fun g h1 ho hr=>by
   obtain⟨g1,g2,g3,g4,g5⟩:=nI ho
   have ht:=OD (l:=g.Atoms) fun a ha=>(uy (g2 a ha)).2.1.2
   refine⟨?_,by omega⟩
   subst hr
   cases hA:g.Atoms with
   |nil=>rw[hA]at g1; simp at g1
   |cons a A=>
     rw[hA]at g2
     exact uk 32 [97,110,100,32] _ _ (EA (g2 a (by simp))) fun z hz=>by
       obtain⟨b,hb,rfl⟩:=List.mem_map.1 hz
       exact EA (g2 b (by simp[hb]))
 cases has
 · refine⟨false,{Head:=[],Atoms:=[]},?_,fun g h1 h2=>?_⟩
   · refine fin false {Head:=[],Atoms:=[]} (by simp[dx]) ?_
     unfold o5
     rw[e1]; rfl
   · have:=(cut g h1 h2).2.2.2
     cases this
 obtain⟨e3,m1,m2⟩:=uA r [32,97,110,100,32] (by simp) (by omega)
 have Ri:∀y∈Lib.split r [32,97,110,100,32],y.length<=1048576:=fun y hy=>by have:=m2 y hy; omega
 by_cases hy:h=[121,101,115]
 · obtain⟨ok,q,eq,tq⟩:=LC text (Lib.split r [32,97,110,100,32]) 0 [] Ri (by simp) (by simp[dx])
   have K7:o5 text=mG text (Lib.split r [32,97,110,100,32]) 0 []:=by
     unfold o5
     rw[e1,Option.bind_some]
     dsimp only
     rw[if_neg (by simp),if_neg (by simp[hy]),e3,Option.bind_some]
   refine⟨ok,q,fin ok q tq (by rw[K7,eq]),fun g h1 h2=>?_⟩
   obtain⟨ho,c1,c2,-⟩:=cut g h1 h2
   obtain⟨p1,p2⟩:=parts g h1 ho c2
   obtain⟨g1,g2,g3,g4,g5⟩:=nI ho
   have hn:g.Head=[]:=by
     by_cases hn:g.Head=[]
     · exact hn
     · rw[hy]at c1
       unfold hTx at c1
       rw[if_neg hn]at c1
       exact absurd c1.symm (OJ g5 hn)
   rw[p1,LF text g.Atoms 0 [] g2 (by simpa using g1.2) (by simpa using p2)]at eq
   have hg:({Head:=[],Atoms:=[]++g.Atoms}:bG)=g:=by rw[←hn]; rfl
   rw[hg,h2]at eq
   cases ok
   · simp at eq
   · simp only[if_true,Option.some.injEq,Prod.mk.injEq]at eq
     exact⟨rfl,eq.1.symm⟩
 · obtain⟨e4,n1,n2⟩:=uA h [44] (by simp) (by omega)
   obtain⟨hd,bh,e5,n3⟩:=GD (Lib.split h [44]) 0 [] (fun y hy=>by have:=n2 y hy; omega) (by simp; omega)
   have O3:∀g,kv g=true->h=hTx g.Head->hd=g.Head/\bh=true:=fun g ho c1=>by
     obtain⟨g1,g2,g3,g4,g5⟩:=nI ho
     have hn:g.Head≠[]:=fun hn=>hy (by rw[c1]; unfold hTx; rw[if_pos hn])
     have e:h=Lib.join (g.Head.map dZ) [44]:=by rw[c1]; unfold hTx kF; rw[if_neg hn]
     have hsp:Lib.split h [44]=g.Head.map dZ:=by
       rw[e]
       obtain⟨x,l,hx⟩:=List.exists_cons_of_ne_nil hn
       rw[hx]at g5 ⊢
       exact uk 44 [] _ _ (wB g5 _ (by simp)).1 fun z hz=>(wB g5 z (by simp only[List.map_cons,List.mem_cons]; exact .inr hz)).1
     rw[hsp,GG g.Head 0 [] g5 (by simp; omega)]at e5
     cases e5
     exact⟨rfl,rfl⟩
   cases bh
   · refine⟨false,{Head:=[],Atoms:=[]},?_,fun g h1 h2=>?_⟩
     · refine fin false {Head:=[],Atoms:=[]} (by simp[dx]) ?_
       unfold o5 uj
       rw[e1,Option.bind_some]
       dsimp only
       rw[if_neg (by simp),if_pos (by simp[hy]),e4,Option.bind_some,e5]; rfl
     · obtain⟨ho,c1,c2,-⟩:=cut g h1 h2
       have:=(O3 g ho c1).2
       cases this
   · obtain⟨ok,q,eq,tq⟩:=LB text (hd,true) (Lib.split r [32,97,110,100,32]) 0 [] Ri (by simp) (by simp[dx])
     have K7:o5 text=mF text (hd,true) (Lib.split r [32,97,110,100,32]) 0 []:=by
       unfold o5 uj
       rw[e1,Option.bind_some]
       dsimp only
       rw[if_neg (by simp),if_pos (by simp[hy]),e4,Option.bind_some,e5,Option.bind_some]
       dsimp only
       rw[if_neg (by simp),e3,Option.bind_some]
     refine⟨ok,q,fin ok q tq (by rw[K7,eq]),fun g h1 h2=>?_⟩
     obtain⟨ho,c1,c2,-⟩:=cut g h1 h2
     obtain⟨p1,p2⟩:=parts g h1 ho c2
     obtain⟨g1,g2,g3,g4,g5⟩:=nI ho
     obtain⟨rfl,-⟩:=O3 g ho c1
     rw[p1,LD text _ g.Atoms 0 [] g2 (by simpa using g1.2) (by simpa using p2)]at eq
     have hg:({Head:=g.Head,Atoms:=[]++g.Atoms}:bG)=g:=rfl
     rw[hg,h2]at eq
     cases ok
     · simp at eq
     · simp only[if_true,Option.some.injEq,Prod.mk.injEq]at eq
       exact⟨rfl,eq.1.symm⟩
def jc(l:List (List UInt8)):Nat:=(l.map fun y=>y.length+1).sum
theorem Ea(x:List UInt8)(r:List (List UInt8)):jc (x::r)=(x.length+1)+jc r:=by simp[jc]
theorem HV(c:UInt8):∀(l p:List UInt8),jc (bJ c p l)=p.length+l.length+1
 |[],p=>by simp[bJ,jc]
 |b::l,p=>by
   unfold bJ
   split
   · have:=HV c l []
     unfold jc at*
     rw[List.map_cons,List.sum_cons,this]; simp; omega
   · rw[HV c l (p++[b])]; simp; omega
theorem Sq(y:List UInt8)(hl:y.length<=1048576):∃n,oV 20 y=some n:=by
 have last:∃n,((j4 20 y).bind fun nk=>(dN nk 0 9).bind fun gV=>if (!gV)then some (-1)else some nk)=some n:=by
   rw[uw hl,Option.bind_some,iX,Option.bind_some]
   split<;>exact⟨_,rfl⟩
 unfold oV
 by_cases h:(1:Int)<(y.length:Int)
 · rw[decide_eq_true h,cond_true,show (0:Int)=((0:Nat):Int)from rfl,ma,List.getElem?_eq_getElem (show 0<y.length by omega),Option.bind_some,Option.bind_some]
   dsimp only
   split
   · rw[jf (by simp; omega),Option.bind_some,uw (by simp; omega),Option.bind_some,iX,Option.bind_some]
     split<;>exact⟨_,rfl⟩
   · exact last
 · rw[decide_eq_false h]
   exact last
def tS(y:List UInt8):Int:=(oV 20 y).getD 0
theorem LQ{y:List UInt8}(h:y.length<=1048576):oV 20 y=some (tS y):=by
 obtain⟨n,e⟩:=Sq y h
 unfold tS; rw[e]; rfl
theorem Zl{t:Int}(h:fZ t=true):tS (dZ t)=t:=by unfold tS; rw[(nX h).2.2.1]; rfl
theorem O4{l:List Int}(h:∀x∈l,fZ x=true):(l.map dZ).map tS=l:=by
 rw[List.map_map]
 conv=>rhs; rw[←List.map_id l]
 exact List.map_congr_left fun x hx=>Zl (h x hx)
theorem Gx(r:Int):∀(ws:List (List UInt8))(k:Nat)(c:List Int),(∀y∈ws,y.length<=1048576)->c.length+ws.length<4294967295->tK 20 r ws k c=some {Rel:=r,Terms:=c++ws.map tS}
 |[],k,c,_,_=>by simp[tK]
 |y::ws,k,c,h,hc=>by
   simp only[List.length_cons]at hc
   unfold tK
   rw[LQ (h y (by simp)),Option.bind_some,app1 (by omega),Option.bind_some,Gx r ws _ _ (fun z hz=>h z (by simp[hz])) (by simp; omega)]
   simp
def aS(y:List UInt8):aW:=(oW 20 y).getD {Rel:=0,Terms:=[]}
theorem Sr(y:List UInt8)(hl:y.length<=1048576):∃a,oW 20 y=some a/\a.Terms.length<=y.length+1:=by
 obtain⟨N,ws,e1,l0,l1,l2⟩:=M9 y hl
 obtain⟨n,e2⟩:=Af N (by omega)
 unfold oW
 rw[e1,Option.bind_some]
 dsimp only
 rw[e2,Option.bind_some,Gx n ws 0 [] l1 (by simp; omega)]
 exact⟨_,rfl,by simp; omega⟩
theorem LU{y:List UInt8}(h:y.length<=1048576):oW 20 y=some (aS y)/\(aS y).Terms.length<=y.length+1:=by
 obtain⟨a,e,hl⟩:=Sr y h
 unfold aS
 rw[e]
 exact⟨rfl,hl⟩
theorem Zm{a:aW}(h:gz a=true):aS (dD a)=a:=by
 obtain⟨g1,g2,g3⟩:=uy h
 have hlen:=(uG h).2
 have qm:(40:UInt8)∉[114]++bC a.Rel:=by
   rw[mf ⟨g1.1,by omega⟩]; intro h
   rcases List.mem_append.1 h with h|h
   · simp at h
   · exact pq ⟨g1.1,by omega⟩ (.inl (by decide)) h
 have e:oW 20 (dD a)=some a:=by
   unfold oW
   have hc:=M8 ([114]++bC a.Rel) (kF a.Terms) qm (by unfold dD at hlen; omega)
   unfold dD
   rw[hc,Option.bind_some]
   dsimp only
   rw[Ag ⟨g1.1,by omega⟩,Option.bind_some]
   have hsp:bJ 44 [] (kF a.Terms)=a.Terms.map dZ:=qK (by intro h; rw[List.map_eq_nil_iff]at h; rw[h]at g2; simp at g2) fun z hz=>(wB g3 z hz).1
   rw[hsp,Gx a.Rel (a.Terms.map dZ) 0 [] (fun y hy=>by
     obtain⟨x,hx,rfl⟩:=List.mem_map.1 hy
     have:=(nX (g3 x hx)).2.2.2.2.2.2
     omega) (by simp; omega),O4 g3]
   rfl
 unfold aS
 rw[e]; rfl
def evs:List (List UInt8)->List (List UInt8)
 |[]=>[]
 |[x]=>[x]
 |x::_::r=>x::evs r
theorem Lp(s:List Int)(text:List UInt8)(w:List (List UInt8)):∀(ws:List (List UInt8))(k:Nat)(c:List Int),(∀y∈ws,y.length<=1048576)->c.length+ws.length<4294967295->tV s text w 20 ws k c=tT s text w 20 (c++ws.map tS) (((w.length:Int)-2).toNat+2) [] 2
 |[],k,c,_,_=>by simp[tV]
 |y::ws,k,c,h,hc=>by
   simp only[List.length_cons]at hc
   unfold tV
   rw[LQ (h y (by simp)),Option.bind_some,app1 (by omega),Option.bind_some,Lp s text w ws _ _ (fun z hz=>h z (by simp[hz])) (by simp; omega)]
   simp
section
variable{s:List Int}(hs:s.length<4294967296)(text:List UInt8)(w:List (List UInt8))(hw:∀y∈w,y.length<=1048576)(hwl:w.length<=1048577)
include hs hw hwl
theorem Gy(hd:List Int):∀(m i:Nat)(c:List aW),i<=w.length+1->w.length-i<m->dx c+jc (w.drop i)<4294967295->c.length<=i->tT s text w 20 hd m c (i:Int)=some (if (kJ s {Head:=hd,Atoms:=c++(evs (w.drop i)).map aS}&&(iI {Head:=hd,Atoms:=c++(evs (w.drop i)).map aS}==text))then (({Head:=hd,Atoms:=c++(evs (w.drop i)).map aS}:bG),true)else ({Head:=[],Atoms:=[]},false))
 |0,_,_,_,hm,_,_=>by omega
 |m+1,i,c,hi,hm,ht,hc=>by
   unfold tT
   by_cases hlt:i<w.length
   · have hx:=hw w[i] (List.getElem_mem hlt)
     have ha:=LU hx
     rw[if_pos (by simp only[decide_eq_true_eq]; omega),pu _ _ hlt,Option.bind_some,ha.1,Option.bind_some,app1 (by omega),Option.bind_some,eY (by omega) (by omega),show (i:Int)+2=((i+2:Nat):Int) by omega]
     have ed:w.drop i=w[i]::w.drop (i+1):=List.drop_eq_getElem_cons hlt
     by_cases h2:i+1<w.length
     · have oL:w.drop (i+1)=w[i+1]::w.drop (i+2):=List.drop_eq_getElem_cons h2
       have e2:jc (w.drop i)=(w[i].length+1)+((w[i+1].length+1)+jc (w.drop (i+2))):=by rw[ed,oL,Ea,Ea]
       rw[Gy hd m (i+2) (c++[aS w[i]]) (by omega) (by omega) (by rw[yl,ym]; omega) (by simp; omega)]
       rw[ed,oL]
       simp[evs]
     · have oL:w.drop (i+1)=[]:=List.drop_eq_nil_of_le (by omega)
       have Dr:w.drop (i+2)=[]:=List.drop_eq_nil_of_le (by omega)
       have e2:jc (w.drop i)=w[i].length+1:=by rw[ed,oL]; simp[jc]
       rw[Gy hd m (i+2) (c++[aS w[i]]) (by omega) (by omega) (by rw[yl,ym,Dr]; simp[jc]; omega) (by simp; omega)]
       rw[ed,oL,Dr]
       simp[evs]
   · have ed:w.drop i=[]:=List.drop_eq_nil_of_le (by omega)
     rw[if_neg (by simp only[decide_eq_true_eq]; omega),ed]
     have e0:(evs ([]:List (List UInt8))).map aS=[]:=rfl
     rw[e0,List.append_nil,MP s _ hs (by show dx c<_; omega),Option.bind_some]
     cases h:kJ s {Head:=hd,Atoms:=c}
     · rfl
     · have ho:=D8 h
       rw[Bool.not_true,cond_false,LP ho (by show dx c<_; omega),Option.bind_some,Option.bind_some]
       have ef:iI {Head:=hd,Atoms:=c}=oK {Head:=hd,Atoms:=c}:=by unfold iI; rw[if_pos ho]
       rw[ef]
       cases h2:(oK {Head:=hd,Atoms:=c}==text)<;>simp
theorem Gz:∀(m i:Nat)(c:List aW),i<=w.length+1->w.length-i<m->dx c+jc (w.drop i)<4294967295->c.length<=i->vE s text w 20 m c (i:Int)=some (if (kJ s {Head:=[],Atoms:=c++(evs (w.drop i)).map aS}&&(iI {Head:=[],Atoms:=c++(evs (w.drop i)).map aS}==text))then (({Head:=[],Atoms:=c++(evs (w.drop i)).map aS}:bG),true)else ({Head:=[],Atoms:=[]},false))
 |0,_,_,_,hm,_,_=>by omega
 |m+1,i,c,hi,hm,ht,hc=>by
   unfold vE
   by_cases hlt:i<w.length
   · have hx:=hw w[i] (List.getElem_mem hlt)
     have ha:=LU hx
     rw[if_pos (by simp only[decide_eq_true_eq]; omega),pu _ _ hlt,Option.bind_some,ha.1,Option.bind_some,app1 (by omega),Option.bind_some,eY (by omega) (by omega),show (i:Int)+2=((i+2:Nat):Int) by omega]
     have ed:w.drop i=w[i]::w.drop (i+1):=List.drop_eq_getElem_cons hlt
     by_cases h2:i+1<w.length
     · have oL:w.drop (i+1)=w[i+1]::w.drop (i+2):=List.drop_eq_getElem_cons h2
       have e2:jc (w.drop i)=(w[i].length+1)+((w[i+1].length+1)+jc (w.drop (i+2))):=by rw[ed,oL,Ea,Ea]
       rw[Gz m (i+2) (c++[aS w[i]]) (by omega) (by omega) (by rw[yl,ym]; omega) (by simp; omega)]
       rw[ed,oL]
       simp[evs]
     · have oL:w.drop (i+1)=[]:=List.drop_eq_nil_of_le (by omega)
       have Dr:w.drop (i+2)=[]:=List.drop_eq_nil_of_le (by omega)
       have e2:jc (w.drop i)=w[i].length+1:=by rw[ed,oL]; simp[jc]
       rw[Gz m (i+2) (c++[aS w[i]]) (by omega) (by omega) (by rw[yl,ym,Dr]; simp[jc]; omega) (by simp; omega)]
       rw[ed,oL,Dr]
       simp[evs]
   · have ed:w.drop i=[]:=List.drop_eq_nil_of_le (by omega)
     rw[if_neg (by simp only[decide_eq_true_eq]; omega),ed]
     have e0:(evs ([]:List (List UInt8))).map aS=[]:=rfl
     rw[e0,List.append_nil,MP s _ hs (by show dx c<_; omega),Option.bind_some]
     cases h:kJ s {Head:=[],Atoms:=c}
     · rfl
     · have ho:=D8 h
       rw[Bool.not_true,cond_false,LP ho (by show dx c<_; omega),Option.bind_some,Option.bind_some]
       have ef:iI {Head:=[],Atoms:=c}=oK {Head:=[],Atoms:=c}:=by unfold iI; rw[if_pos ho]
       rw[ef]
       cases h2:(oK {Head:=[],Atoms:=c}==text)<;>simp
end
def mR:List aW->List (List UInt8)
 |[]=>[]
 |a::r=>[97,110,100]::dD a::mR r
theorem Nj:∀r:List aW,Lib.joinTail [32,97,110,100,32] (r.map dD)=Lib.joinTail [32] (mR r)
 |[]=>rfl
 |a::r=>by
   have ih:=Nj r
   simp only[Lib.joinTail,mR,List.map_cons,List.flatten_cons]at*
   rw[ih]; simp
theorem Oa:∀(r:List aW)(a:aW),evs (dD a::mR r)=dD a::r.map dD
 |[],a=>rfl
 |b::r,a=>by simp[mR,evs,Oa r b]
theorem Ob:∀r:List aW,(∀a∈r,gz a=true)-> ∀z∈mR r,(32:UInt8)∉z
 |[],_,z,hz=>by simp[mR]at hz
 |a::r,h,z,hz=>by
   simp only[mR,List.mem_cons]at hz
   rcases hz with rfl|rfl|hz
   · decide
   · exact EA (h a (by simp))
   · exact Ob r (fun b hb=>h b (by simp[hb])) z hz
theorem SY(s:List Int)(hs:s.length<4294967296)(text:List UInt8)(hl:text.length<=1048576):PF (kJ s) iI {Head:=[],Atoms:=[]} text (xH 20 s text):=by
 obtain⟨l2,l1⟩:=yD 32 hl
 have hsum:=HV 32 text []
 have h1:=(AQ 32 text []).1
 simp only[List.length_nil]at hsum
 have hsp:∀g,kJ s g=true->iI g=text->kv g=true/\ ∃a r,g.Atoms=a::r/\bJ 32 [] text=hTx g.Head::[105,102]::dD a::mR r:=fun g k1 k2=>by
   have ho:=D8 k1
   obtain⟨g1,g2,g3,g4,g5⟩:=nI ho
   unfold iI at k2
   rw[if_pos ho]at k2
   obtain⟨a,r,hA⟩:∃a r,g.Atoms=a::r:=by
     cases hA:g.Atoms with
     |nil=>rw[hA]at g1; simp at g1
     |cons a r=>exact⟨a,r,rfl⟩
   refine⟨ho,a,r,hA,?_⟩
   have e:text=Lib.join (hTx g.Head::[105,102]::dD a::mR r) [32]:=by
     rw[←k2]
     unfold oK
     rw[hA,List.map_cons,Lib.join_cons,Nj,Lib.join_cons]
     simp[Lib.joinTail]
   rw[e]
   refine qK (by simp) fun z hz=>?_
   rw[hA]at g2
   simp only[List.mem_cons]at hz
   rcases hz with rfl|rfl|rfl|hz
   · exact O1 g5
   · decide
   · exact EA (g2 a (by simp))
   · exact Ob r (fun b hb=>g2 b (by simp[hb])) z hz
 have hev:∀g a r,kv g=true->g.Atoms=a::r->bJ 32 [] text=hTx g.Head::[105,102]::dD a::mR r->(evs ((bJ 32 [] text).drop 2)).map aS=g.Atoms:=fun g a r ho hA e=>by
   obtain⟨g1,g2,g3,g4,g5⟩:=nI ho
   rw[e]
   show (evs (dD a::mR r)).map aS=_
   rw[Oa,←List.map_cons,←hA,List.map_map]
   conv=>rhs; rw[←List.map_id g.Atoms]
   exact List.map_congr_left fun b hb=>Zm (g2 b hb)
 have hd2:jc ((bJ 32 [] text).drop 2)<=jc (bJ 32 [] text):=by
   have:=List.take_append_drop 2 (bJ 32 [] text)
   conv=>rhs; rw[←this]
   unfold jc
   rw[List.map_append,List.sum_append]; omega
 have hx0:=l2 (bJ 32 [] text)[0] (List.getElem_mem (by omega))
 unfold xH
 rw[uu text 32 hl,Option.bind_some,lh _ 0 0 rfl (by omega),Option.bind_some]
 by_cases hy:(bJ 32 [] text)[0]=[121,101,115]
 · refine⟨true,{Head:=[],Atoms:=(evs ((bJ 32 [] text).drop 2)).map aS},?_,fun g k1 k2=>?_⟩
   · rw[if_neg (by simp[hy])]
     have:=Gz hs text (bJ 32 [] text) l2 l1 (((((bJ 32 [] text).length:Nat):Int)-2).toNat+2) 2 [] (by omega) (by omega) (by simp[dx]; omega) (by simp)
     rw[show (2:Int)=((2:Nat):Int)from rfl]at*
     simpa using this
   · obtain⟨ho,a,r,hA,e⟩:=hsp g k1 k2
     obtain⟨g1,g2,g3,g4,g5⟩:=nI ho
     rw[hev g a r ho hA e]
     simp only[e,List.getElem_cons_zero]at hy
     have hn:g.Head=[]:=by
       by_cases hn:g.Head=[]
       · exact hn
       · unfold hTx at hy
         rw[if_neg hn]at hy
         exact absurd hy (OJ g5 hn)
     exact⟨rfl,by rw[←hn]⟩
 · obtain⟨m2,m1⟩:=yD 44 hx0
   refine⟨true,{Head:=(bJ 44 [] (bJ 32 [] text)[0]).map tS,Atoms:=(evs ((bJ 32 [] text).drop 2)).map aS},?_,fun g k1 k2=>?_⟩
   · rw[if_pos (by simp[hy]),Option.bind_some,uu _ 44 hx0,Option.bind_some,Lp s text _ _ 0 [] m2 (by simp; omega)]
     have:=Gy hs text (bJ 32 [] text) l2 l1 ([]++(bJ 44 [] (bJ 32 [] text)[0]).map tS) (((((bJ 32 [] text).length:Nat):Int)-2).toNat+2) 2 [] (by omega) (by omega) (by simp[dx]; omega) (by simp)
     rw[show (2:Int)=((2:Nat):Int)from rfl]at*
     simpa using this
   · obtain⟨ho,a,r,hA,e⟩:=hsp g k1 k2
     obtain⟨g1,g2,g3,g4,g5⟩:=nI ho
     rw[hev g a r ho hA e]
     simp only[e,List.getElem_cons_zero]at hy ⊢
     have hn:g.Head≠[]:=fun hn=>hy (by unfold hTx; rw[if_pos hn])
     have eh:hTx g.Head=Lib.join (g.Head.map dZ) [44]:=by unfold hTx kF; rw[if_neg hn]
     rw[eh,qK (by simpa using hn) fun z hz=>(wB g5 z hz).1,O4 g5]
     exact⟨trivial,rfl⟩
theorem S9{s:List UInt8}{n:Int}(h:gW s=some (n,true)):Lib.itoa n=s:=by
 unfold gW gX at h
 obtain⟨r1,-,h⟩:=bind_some h
 obtain⟨o,h1,h2⟩:=bind_some h
 dsimp only at h2
 cases o
 · rw[if_neg (by simp)]at h2
   cases h2
   cases hb:r1.2
   · rw[hb]at h1; cases h1
   rw[hb,Bool.not_true,cond_false,Option.bind_some]at h1
   cases hr:(decide (-999999999<=r1.1)&&decide (r1.1<=999999999))
   · rw[hr]at h1; cases h1
   have hr':=hr
   simp only[Bool.and_eq_true,decide_eq_true_eq]at hr'
   rw[hr,Bool.not_true,cond_false,zD _ (by omega),Option.bind_some]at h1
   simpa using h1
 · rw[if_pos rfl]at h2
   simp at h2
theorem Lr(s:List UInt8):∀(m:Nat)(c1 c2 c3 n:Int),oU s 20 m c1 c2 c3=some (n,true)->fM 20 n=some s
 |0,_,_,_,_,h=>by simp[oU]at h
 |m+1,c1,c2,c3,n,h=>by
   have fin:∀(N:Int)(o:Bool),(bif (decide ((9:Int)<c2))then (some true)else (bif (decide ((10:Int)<(s.length:Int)))then (some true)else ((fM 20 N).bind fun kz=>some (!(kz==s)))))=some o->(if o then some ((0:Int),false)else some (N,true))=some (n,true)->fM 20 n=some s:=by
     intro N o h1 h2
     cases o
     · rw[if_neg (by simp)]at h2
       cases h2
       cases ha:decide ((9:Int)<c2)
       · rw[ha,cond_false]at h1
         cases hb:decide ((10:Int)<(s.length:Int))
         · rw[hb,cond_false]at h1
           obtain⟨r,e,h3⟩:=bind_some h1
           have h3':=Option.some.inj h3
           simp only[Bool.not_eq_false',beq_iff_eq]at h3'
           rw[e,h3']
         · rw[hb]at h1; cases h1
       · rw[ha]at h1; cases h1
     · rw[if_pos rfl]at h2
       simp at h2
   unfold oU at h
   split at h
   · obtain⟨⟨a,b⟩,-,h'⟩:=bind_some h
     exact Lr s m a b _ n h'
   · obtain⟨uZ,-,h'⟩:=bind_some h
     dsimp only at h'
     split at h'
     · obtain⟨o,h1,h2⟩:=bind_some h'
       exact fin _ o h1 h2
     · obtain⟨o,h1,h2⟩:=bind_some h'
       exact fin _ o h1 h2
theorem Vs(s:List UInt8)(hl:s.length<=1048576):∃n b n' b',gW s=some (n,b)/\o7 20 s=some (n',b')/\(b&&ay 1 100 n)=(b'&&ay 1 100 n'):=by
 obtain⟨n,b,e1⟩:=nD s hl
 obtain⟨n',b',e2⟩:=zB s hl (((s.length:Int)-0).toNat+2) 0 0 0 (by omega) (by omega) (by omega)
 have e2':o7 20 s=some (n',b'):=e2
 refine⟨n,b,n',b',e1,e2',?_⟩
 have one:(b&&ay 1 100 n)=true->(b'&&ay 1 100 n')=true:=fun h=>by
   simp only[Bool.and_eq_true,ay,decide_eq_true_eq]at h
   obtain⟨rfl,h1,h2⟩:=h
   have ht:=S9 e1
   rw[←ht,(jg (n:=n) (by omega)).2.1]at e2'
   cases e2'
   simp only[Bool.true_and,ay,Bool.and_eq_true,decide_eq_true_eq]; omega
 have two:(b'&&ay 1 100 n')=true->(b&&ay 1 100 n)=true:=fun h=>by
   simp only[Bool.and_eq_true,ay,decide_eq_true_eq]at h
   obtain⟨rfl,h1,h2⟩:=h
   have ht:=Lr s _ _ _ _ _ e2
   rw[(jg (n:=n') (by omega)).2.2.1]at ht
   have ht':=Option.some.inj ht
   rw[←ht',(jg (n:=n') (by omega)).1]at e1
   cases e1
   simp only[Bool.true_and,ay,Bool.and_eq_true,decide_eq_true_eq]; omega
 cases h1:(b&&ay 1 100 n)<;>cases h2:(b'&&ay 1 100 n')
 · rfl
 · exact absurd (two h2) (by simp[h1])
 · exact absurd (one h1) (by simp[h2])
 · rfl
theorem TZ(s:List Int)(hs:s.length<4294967296)(e:Event)(hl:e.Text.length<=1048576):∃b,qH s e=some b/\xZ 20 s e=some b:=by
 obtain⟨m1,rm,m2⟩:=AU (Sm s hs e.Text hl) (Sn s hs e.Text hl)
 obtain⟨r1,rr,r2⟩:=AU (Tw s hs e.Text hl) (Tx s hs e.Text hl)
 obtain⟨f1,rf,f2⟩:=AU (Tu s hs e.Text hl) (Tv s hs e.Text hl)
 obtain⟨q1,rq,q2⟩:=AU (SX s hs e.Text hl) (SY s hs e.Text hl)
 obtain⟨n,b,n',b',w1,w2,w3⟩:=Vs e.Text hl
 rw[m2]at m1
 rw[r2]at r1
 rw[f2]at f1
 rw[q2]at q1
 have wi:((bif b then ((gX n 1 100).bind fun iH=>some iH)else (some false)).bind fun Dp=>match Dp with|c53=>if c53 then some true else some false)=some (b&&ay 1 100 n):=by
   cases b
   · rfl
   · rw[cond_true,l_,Option.bind_some,Option.bind_some]
     cases ay 1 100 n<;>rfl
 have ws:((bif b' then ((dN n' 1 100).bind fun fw=>some fw)else (some false)).bind fun ky=>match ky with|c20=>some c20)=some (b'&&ay 1 100 n'):=by
   cases b'
   · rfl
   · rw[cond_true,iX,Option.bind_some,Option.bind_some]; rfl
 have bb:∀x:Bool,(if x then some true else some false)=some x:=fun x=>by cases x<;>rfl
 unfold qH zG xZ
 by_cases h1:e.Kind=1
 · refine⟨rm.2,?_,?_⟩
   · rw[if_pos (by simp[h1]),m2,Option.bind_some,bb]; rfl
   · rw[if_pos (by simp[h1]),←m1]; rfl
 by_cases h2:e.Kind=2
 · refine⟨rr.2,?_,?_⟩
   · rw[if_neg (by simp[h1]),if_pos (by simp[h2]),r2,Option.bind_some,bb]; rfl
   · rw[if_neg (by simp[h1]),if_pos (by simp[h2]),←r1]; rfl
 by_cases h3:e.Kind=3
 · refine⟨rf.2,?_,?_⟩
   · rw[if_neg (by simp[h1]),if_neg (by simp[h2]),if_pos (by simp[h3]),if_pos (by simp[h3]),f2,Option.bind_some,bb]; rfl
   · rw[if_neg (by simp[h1]),if_neg (by simp[h2]),if_pos (by simp[h3]),if_pos (by simp[h3]),←f1]; rfl
 by_cases h4:e.Kind=4
 · refine⟨rf.2,?_,?_⟩
   · rw[if_neg (by simp[h1]),if_neg (by simp[h2]),if_neg (by simp[h3]),if_pos (by simp[h4]),f2,Option.bind_some,bb]; rfl
   · rw[if_neg (by simp[h1]),if_neg (by simp[h2]),if_neg (by simp[h3]),if_pos (by simp[h4]),←f1]; rfl
 by_cases h5:e.Kind=5
 · refine⟨b&&ay 1 100 n,?_,?_⟩
   · rw[if_neg (by simp[h1]),if_neg (by simp[h2]),if_neg (by simp[h3]),if_neg (by simp[h4]),if_pos (by simp[h5]),w1,Option.bind_some]
     dsimp only at wi ⊢
     rw[wi]; rfl
   · rw[if_neg (by simp[h1]),if_neg (by simp[h2]),if_neg (by simp[h3]),if_neg (by simp[h4]),if_pos (by simp[h5]),w2,Option.bind_some,w3]
     exact ws
 by_cases h6:e.Kind=6
 · refine⟨rq.2,?_,?_⟩
   · rw[if_neg (by simp[h1]),if_neg (by simp[h2]),if_neg (by simp[h3]),if_neg (by simp[h4]),if_neg (by simp[h5]),if_pos (by simp[h6]),q2,Option.bind_some,bb]; rfl
   · rw[if_neg (by simp[h1]),if_neg (by simp[h2]),if_neg (by simp[h3]),if_neg (by simp[h4]),if_neg (by simp[h5]),if_pos (by simp[h6]),←q1]; rfl
 · refine⟨false,?_,?_⟩
   · rw[if_neg (by simp[h1]),if_neg (by simp[h2]),if_neg (by simp[h3]),if_neg (by simp[h4]),if_neg (by simp[h5]),if_neg (by simp[h6])]; rfl
   · rw[if_neg (by simp[h1]),if_neg (by simp[h2]),if_neg (by simp[h3]),if_neg (by simp[h4]),if_neg (by simp[h5]),if_neg (by simp[h6])]
def pW(s:List Int)(e:Event):Bool:=(qH s e).getD false
theorem Nk(s:List Int)(hs:s.length<4294967296)(e:Event)(hl:e.Text.length<=1048576):qH s e=some (pW s e)/\xZ 20 s e=some (pW s e):=by
 obtain⟨b,e1,e2⟩:=TZ s hs e hl
 unfold pW
 rw[e1,e2]
 exact⟨rfl,rfl⟩
theorem NC{s:List Int}{e:Event}(h:pW s e=true):1<=e.Kind/\e.Kind<=6:=by
 by_cases hk:1<=e.Kind/\e.Kind<=6
 · exact hk
 · exfalso
   have:qH s e=some false:=by
     unfold qH zG
     rw[if_neg (by simp; omega),if_neg (by simp; omega),if_neg (by simp; omega),if_neg (by simp; omega),if_neg (by simp; omega),if_neg (by simp; omega)]; rfl
   unfold pW at h
   rw[this]at h
   cases h
def fo(k:Int):List UInt8:=([[],[109,101,116,104,111,100],[114,117,108,101],[97,100,100],[100,114,111,112],[119,97,105,116],[97,115,107]]:List (List UInt8))[k.toNat]?.getD []
def QH(n:Nat):Bool:=decide (zW ((n:Int)+1)=some (fo ((n:Int)+1)))&&(decide (Ab ((n:Int)+1)=some (fo ((n:Int)+1)))&&(decide (qp [[],[109,101,116,104,111,100],[114,117,108,101],[97,100,100],[100,114,111,112],[119,97,105,116],[97,115,107]] (fo ((n:Int)+1))=some ((n:Int)+1))&&(decide ((32:UInt8)∉fo ((n:Int)+1))&&(decide (1<=(fo ((n:Int)+1)).length)&&decide ((fo ((n:Int)+1)).length<=6)))))
theorem WC:(List.range 6).all QH=true:=by decide+kernel
theorem Br{k:Int}(h:1<=k/\k<=6):zW k=some (fo k)/\Ab k=some (fo k)/\qp [[],[109,101,116,104,111,100],[114,117,108,101],[97,100,100],[100,114,111,112],[119,97,105,116],[97,115,107]] (fo k)=some k/\(32:UInt8)∉fo k/\1<=(fo k).length/\(fo k).length<=6:=by
 obtain⟨n,rfl⟩:∃n:Nat,k=(n:Int)+1:=⟨(k-1).toNat,by omega⟩
 have h1:=List.all_eq_true.1 WC n (List.mem_range.2 (by omega))
 simp only[QH,Bool.and_eq_true,decide_eq_true_eq]at h1
 exact h1
def kG(s:List Int)(e:Event):Bool:=pW s e&&!(e.Text==[])
def kw(e:Event):List UInt8:=if ay 1 6 e.Kind&&!(e.Text==[])then fo e.Kind++[32]++e.Text else []
theorem vZ{s:List Int}{e:Event}(h:kG s e=true):pW s e=true/\(1<=e.Kind/\e.Kind<=6)/\e.Text≠[]/\kw e=fo e.Kind++[32]++e.Text:=by
 simp only[kG,Bool.and_eq_true,Bool.not_eq_true',beq_eq_false_iff_ne]at h
 have hk:=NC h.1
 refine⟨h.1,hk,h.2,?_⟩
 unfold kw
 rw[if_pos]
 simp only[ay,Bool.and_eq_true,decide_eq_true_eq,Bool.not_eq_true',beq_eq_false_iff_ne]
 exact⟨hk,h.2⟩
theorem Su{e:Event}(hk:1<=e.Kind/\e.Kind<=6)(hl:e.Text.length<=1048576):zN e=some (kw e):=by
 obtain⟨-,h2,-,-,h5,h6⟩:=Br hk
 have hp:ay 1 6 e.Kind=true:=by simp only[ay,Bool.and_eq_true,decide_eq_true_eq]; omega
 have hne:(fo e.Kind==[])=false:=by
   cases hx:fo e.Kind with
   |nil=>rw[hx]at h5; simp at h5
   |cons _ _=>rfl
 unfold zN kw
 rw[h2,Option.bind_some,hne,hp,Bool.false_or,Bool.true_and]
 cases ht:(e.Text==[])
 · rw[if_neg (by simp),dR (by simp; omega),Option.bind_some,dR (by simp; omega),if_pos (by rfl)]; rfl
 · rfl
theorem ND(v:List UInt8):∀(l:List (List UInt8))(k:Nat),∃n,oM v l k=some n
 |[],k=>⟨_,rfl⟩
 |x::l,k=>by
   unfold oM
   split
   · exact⟨_,rfl⟩
   · exact ND v l _
theorem S_(s:List Int)(hs:s.length<4294967296)(line:List UInt8)(hl:line.length<=1048576):PF (kG s) kw {Kind:=0,Text:=[]} line (xI s line):=by
 obtain⟨h,r,has,e1,l1,l2⟩:=Hy line [32] hl
 obtain⟨n,e2⟩:=ND h [[],[109,101,116,104,111,100],[114,117,108,101],[97,100,100],[100,114,111,112],[119,97,105,116],[97,115,107]] 0
 have e2':qp [[],[109,101,116,104,111,100],[114,117,108,101],[97,100,100],[100,114,111,112],[119,97,105,116],[97,115,107]] h=some n:=e2
 refine⟨true,{Kind:=n,Text:=r},?_,?_⟩
 · unfold xI zR
   rw[e1,Option.bind_some,Option.bind_some]
   dsimp only
   rw[e2',Option.bind_some,(Nk s hs _ (show r.length<=1048576 by omega)).1,Option.bind_some]
   cases hv:pW s {Kind:=n,Text:=r}
   · simp[kG,hv]
   · have hk:=NC hv
     rw[Bool.not_true,cond_false,Su hk (show r.length<=1048576 by omega),Option.bind_some,Option.bind_some]
     cases hf:(kw {Kind:=n,Text:=r}==line)
     · simp
     · have hr:r≠[]:=by
         rintro rfl
         have:line=[]:=by
           rw[beq_iff_eq]at hf
           rw[←hf]; unfold kw; simp
         subst this
         have hh:h=[]:=List.eq_nil_of_length_eq_zero (by simpa using l1)
         subst hh
         have:n=0:=by
           have e3:=e2'
           unfold qp oM at e3
           simpa using e3.symm
         have h1:=hk.1
         dsimp only at h1
         omega
       have ho:kG s {Kind:=n,Text:=r}=true:=by simp[kG,hv,hr]
       simp[ho]
 · intro g h1 h2
   obtain⟨g1,g2,g3,g4⟩:=vZ h1
   obtain⟨-,-,w3,w4,-,-⟩:=Br g2
   rw[←h2,g4]at e1 hl
   rw[AR 32 [] _ _ w4 hl]at e1
   cases e1
   rw[w3]at e2'
   cases e2'
   exact⟨rfl,rfl⟩
theorem Ls(s:List Int)(hs:s.length<4294967296)(line:List UInt8)(hl:line.length<=1048576):∀(m k:Nat),1<=k->k<=7->7-k<m->(∃f,kG s f=true/\kw f=line/\oP s line 20 m (k:Int)=some (f,true))\/(oP s line 20 m (k:Int)=some ({Kind:=0,Text:=[]},false)/\ ∀g,kG s g=true->kw g=line->g.Kind<(k:Int))
 |0,_,_,_,hm=>by omega
 |m+1,k,h1,h7,hm=>by
   unfold oP
   by_cases hk:k<=6
   · obtain⟨w1,-,-,w4,w5,w6⟩:=Br (k:=(k:Int)) (by omega)
     have hx:(fo (k:Int)++[32]).length=(fo (k:Int)).length+1:=by simp
     have next:(∀g,kG s g=true->kw g=line->g.Kind≠(k:Int))->(∃f,kG s f=true/\kw f=line/\oP s line 20 m (IntKind.i64.wrap ((k:Int)+1))=some (f,true))\/(oP s line 20 m (IntKind.i64.wrap ((k:Int)+1))=some ({Kind:=0,Text:=[]},false)/\ ∀g,kG s g=true->kw g=line->g.Kind<(k:Int)):=fun hne=>by
       rw[eY (by omega) (by omega),show (k:Int)+1=((k+1:Nat):Int) by omega]
       rcases Ls s hs line hl m (k+1) (by omega) (by omega) (by omega)with h|⟨h,hg⟩
       · exact .inl h
       · refine .inr ⟨h,fun g a b=>?_⟩
         have:=hg g a b
         have:=hne g a b
         omega
     have pre:∀g,kG s g=true->kw g=line->g.Kind=(k:Int)->line=(fo (k:Int)++[32])++g.Text/\g.Text≠[]/\pW s g=true:=fun g a b c=>by
       obtain⟨g1,g2,g3,g4⟩:=vZ a
       exact⟨by rw[←b,g4,c],g3,g1⟩
     rw[if_pos (by simp only[decide_eq_true_eq]; omega),w1,Option.bind_some,dR (by simp; omega),Option.bind_some]
     by_cases hlt:(fo (k:Int)++[32]).length<line.length
     · rw[decide_eq_true (by omega),cond_true,jf (by simp; simp at hlt; omega),Option.bind_some,Option.bind_some]
       dsimp only
       simp only[Int.toNat_natCast]
       cases ht:(line.take (fo (k:Int)++[32]).length==fo (k:Int)++[32])
       · rw[if_neg (by simp),Option.bind_some]
         refine next fun g a b c=>?_
         have:=(pre g a b c).1
         rw[this,List.take_left]at ht
         simp at ht
       · rw[beq_iff_eq]at ht
         have hd:line=(fo (k:Int)++[32])++line.drop (fo (k:Int)++[32]).length:=by
           conv=>lhs; rw[←List.take_append_drop (fo (k:Int)++[32]).length line,ht]
         rw[if_pos rfl,Option.bind_some,(Nk s hs _ (show (line.drop (fo (k:Int)++[32]).length).length<=1048576 by simp; omega)).2,Option.bind_some]
         cases hv:pW s {Kind:=(k:Int),Text:=line.drop (fo (k:Int)++[32]).length}
         · rw[if_neg (by simp),Option.bind_some]
           refine next fun g a b c=>?_
           obtain⟨p1,p2,p3⟩:=pre g a b c
           have hg:g.Text=line.drop (fo (k:Int)++[32]).length:=by rw[p1,List.drop_left]
           have:g={Kind:=(k:Int),Text:=line.drop (fo (k:Int)++[32]).length}:=by
             cases g; simp only at c hg; rw[c,hg]
           rw[this,hv]at p3
           cases p3
         · rw[if_pos rfl,Option.bind_some]
           have hne:line.drop (fo (k:Int)++[32]).length≠[]:=by
             intro e
             have:=congrArg List.length e
             simp at this hlt
             omega
           have ho:kG s {Kind:=(k:Int),Text:=line.drop (fo (k:Int)++[32]).length}=true:=by
             simp only[kG,hv,Bool.true_and,Bool.not_eq_true',beq_eq_false_iff_ne]; exact hne
           exact .inl ⟨_,ho,by rw[(vZ ho).2.2.2]; exact hd.symm,rfl⟩
     · rw[decide_eq_false (by omega),cond_false,Option.bind_some]
       dsimp only
       rw[if_neg (by simp),Option.bind_some]
       refine next fun g a b c=>?_
       obtain⟨p1,p2,-⟩:=pre g a b c
       apply hlt
       have hz:0<g.Text.length:=List.length_pos_iff.2 p2
       have hy:line.length=(fo (k:Int)++[32]).length+g.Text.length:=by
         conv=>lhs; rw[p1]
         exact List.length_append
       omega
   · rw[if_neg (by simp only[decide_eq_true_eq]; omega)]
     refine .inr ⟨rfl,fun g a _=>?_⟩
     have:=(vZ a).2.1
     omega
theorem Vt{s:List Int}{f g:Event}(hf:kG s f=true)(hg:kG s g=true)(hl:(kw f).length<=1048576)(h:kw f=kw g):f=g:=by
 obtain⟨-,f2,-,f4⟩:=vZ hf
 obtain⟨-,g2,-,g4⟩:=vZ hg
 have a:=Br f2
 have b:=Br g2
 have hl':=hl
 rw[h]at hl'
 rw[f4]at hl
 rw[g4]at hl'
 have c1:=AR 32 [] (fo f.Kind) f.Text a.2.2.2.1 hl
 have c2:=AR 32 [] (fo g.Kind) g.Text b.2.2.2.1 hl'
 have e:fo f.Kind++(32::[])++f.Text=fo g.Kind++(32::[])++g.Text:=by rw[←f4,←g4]; exact h
 rw[e,c2]at c1
 simp only[Option.some.injEq,Prod.mk.injEq,and_true]at c1
 have hk:f.Kind=g.Kind:=by
   have x:=a.2.2.1
   rw[←c1.1,b.2.2.1]at x
   exact (Option.some.inj x).symm
 cases f; cases g
 simp only at hk c1
 rw[hk,c1.2]
theorem Ta(s:List Int)(hs:s.length<4294967296)(line:List UInt8)(hl:line.length<=1048576):PF (kG s) kw {Kind:=0,Text:=[]} line (vJ 20 s line):=by
 rcases Ls s hs line hl (((6:Int)-1).toNat+2) 1 (by omega) (by omega) (by decide)with⟨f,h1,h2,h3⟩|⟨h3,hg⟩
 · refine⟨true,f,?_,fun g a b=>⟨rfl,Vt h1 a (by rw[h2]; exact hl) (h2.trans b.symm)⟩⟩
   rw[h1,h2]
   simpa[vJ]using h3
 · refine⟨false,{Kind:=0,Text:=[]},by simpa[vJ]using h3,fun g a b=>?_⟩
   have h4:=hg g a b
   have h5:=(vZ a).2.1
   simp only[Int.natCast_one]at h4
   omega
theorem Tc(s:List Int)(hs:s.length<4294967296)(line:List UInt8)(hl:line.length<=1048576):∃r,xI s line=some r/\vJ 20 s line=some r:=by
 obtain⟨h1,r,h2⟩:=AU (S_ s hs line hl) (Ta s hs line hl)
 exact⟨r,h2,h1.symm.trans h2⟩
theorem R3{s:List Int}{line:List UInt8}(ws:EQ Ic s){W:Prop}(_:W):∃fuel,DD fuel s line=some true:=by
 refine⟨20,?_⟩
 unfold DD
 by_cases h:(1048576:Int)<(s.length:Int)
 · rw[if_pos (by simpa using h)]
 rw[if_neg (by simpa using h)]
 have hs:s.length<4294967296:=by omega
 have hb:wV yH s:=Ve s hs
 by_cases h2:(1048576:Int)<(line.length:Int)
 · rw[if_pos (by simpa using h2)]
 rw[if_neg (by simpa using h2)]
 obtain⟨r,e1,e2⟩:=Tc s hs line (by omega)
 simp only[VN s hb,e1,e2,Vl,VO,Option.bind_some,beq_self_eq_true,Bool.not_true,cond_false,Bool.false_eq_true,if_false]
end Go.Proofs.YtcjkjmnbdlnojaaGreatDoor
/-
 The row FnExactParseEvent.
-/
set_option maxRecDepth 100000
namespace Go.Proofs.YtcjkjmnbdlnojaaGreatDoor.fnExactParseEvent
open Go Go.Fw Go.ChangeShapes Go.WideShapes Go.ChangeAt Go.RowKit
theorem own:ownKnob Tryz.prog.godebug=none:=by kernel_rfl
theorem Vu(os:Os)(args:Array Value):laidMetH Tryz.prog Rows.fnExactParseEventRow.laid ((World.laidAll Tryz.prog os Rows.fnExactParseEventRow.laid).forCall (fun _ _=>0) ⟨#[],args,[]⟩).memory:=by
 rw[MakeChecks.laidMetH_plain _ _ _ (by kernel_rfl)]
 exact laidMet_laidAll _ (by kernel_rfl) (by kernel_rfl)
theorem abB:Tryz.prog.globalNamed "internal/strconv.uint64pow10" =some 5:=by kernel_rfl
theorem Zn:(Tryz.prog.globals[5]?).map (·.type)=some 311:=by kernel_rfl
theorem Zo:Tryz.prog.globalNamed "strconv.ErrRange" =some 2:=by kernel_rfl
theorem Zp:Tryz.prog.globalNamed "strconv.ErrSyntax" =some 1:=by kernel_rfl
theorem OL:"*" ++ "errors.errorString" = "*errors.errorString":=by decide
theorem O5(u:TypeId)(h:Tryz.prog.typeName? 3 u=some "*errors.errorString"):u=286:=
 typeName_ptr_named (nm:="errors.errorString") (by rw[OL]; kernel_rfl) (by kernel_rfl) (by decide) u (by rw[OL]; exact h)
theorem laidOut:laidOutB Tryz.prog=true:=by kernel_rfl
set_option maxRecDepth 100000 in
theorem lifted(os:Os)(started:os.Started)(H:Type)(enc:TypeId×Value->H):
   ReturnsInHanded {} Tryz.checked os 4 .any (fun w args=>(Rows.fnExactParseEventSpec.pre enc Tryz.prog Tryz.f4 [] false w args/\laidMetH Tryz.prog Rows.fnExactParseEventRow.laid w)/\sizedMet enc Tryz.prog Tryz.f4 (OpenSpec.ofChange Rows.fnExactParseEventSpec) false w args) (Rows.fnExactParseEventSpec.post enc Tryz.prog Tryz.f4 false true false false):=by
 refine R6 (C:=Tryz.checked) (X:=fun w _=>laidMetH Tryz.prog Rows.fnExactParseEventRow.laid w) (fun _ _ _ hh h=>h.of_heap hh) own started (by kernel_rfl) Tryz.func4
   (ChangeSpec.witness_shaped (enc:=enc) (C:=Tryz.checked) (os:=os) (X:=fun w _=>laidMetH Tryz.prog Rows.fnExactParseEventRow.laid w) false (World.laidAll Tryz.prog os Rows.fnExactParseEventRow.laid) #[.slice none 0 0,.string ⟨#[]⟩] 16 rfl (World.shaped_of_ZipB (by kernel_rfl) (by kernel_rfl)) (by kernel_rfl) (by kernel_rfl) (by kernel_rfl) (Vu os _)) ?_
 intro W base args ds gs before hval hW _ hwt hL hsh _
 rw[MakeChecks.laidMetH_plain _ _ _ (by kernel_rfl)]at hL
 have htab:Lib.TabIs Tryz.prog W "internal/strconv.uint64pow10" .u64 Lib.pow10Tab:=Lib.tabIs_of_head abB Zn (show Tryz.prog.underlying 311=some (.array 20 256) by kernel_rfl) (show Tryz.prog.underlying 256=some (.int .u64) by kernel_rfl) (by kernel_rfl) (by kernel_rfl) (laidMet.tail (laidMet.tail hL))
 have abC:∃m,W.cell? ⟨0,0,none⟩=some (.int .i64 m):=Go.Proofs.cell_of_shapedOpen_int (t:=3) (zero:=#[.int .i64 0]) hsh (by decide+kernel) (by kernel_rfl) rfl (by kernel_rfl) (by kernel_rfl) (by kernel_rfl)
 have U0:∃tp p,W.var? Tryz.prog "strconv.ErrRange" =some #[.iface tp p]:=by
   obtain⟨a,_,h,-⟩:=laid_sentinel (tp:=286) (te:=288) (ts:=9) (laidMet.tail (laidMet.tail (laidMet.tail (laidMet.tail hL)))) Zo (by kernel_rfl) (show Tryz.prog.underlying 128=some (.interface (Tryz.prog.methodsAt 128)) by kernel_rfl) O5 (by kernel_rfl) Tryz.underlying288 rfl rfl (by kernel_rfl) (by kernel_rfl) (by kernel_rfl)
   exact⟨_,_,h⟩
 have UI:∃tp p,W.var? Tryz.prog "strconv.ErrSyntax" =some #[.iface tp p]:=by
   obtain⟨a,_,h,-⟩:=laid_sentinel (tp:=286) (te:=288) (ts:=9) (laidMet.tail (laidMet.tail (laidMet.tail (laidMet.tail (laidMet.tail hL))))) Zp (by kernel_rfl) (show Tryz.prog.underlying 128=some (.interface (Tryz.prog.methodsAt 128)) by kernel_rfl) O5 (by kernel_rfl) Tryz.underlying288 rfl rfl (by kernel_rfl) (by kernel_rfl) (by kernel_rfl)
   exact⟨_,_,h⟩
 have hW':=hW
 obtain⟨p,q,K8,hV,rfl,hfz,hnd⟩:=hW
 obtain⟨rfl,rfl⟩:=trodVars_none hV
 have hA:DataW.TrodAll enc Tryz.prog W 0 (fun _=>true) true [22,9] args.toList ds p:=K8
 have hw:∀n∈DataW.weightsEach Tryz.prog [22,9] ds,n<=reachBytes:=fun n hn=>by
   have:=List.all_eq_true.1 hwt n (by rw[List.append_nil]; exact hn)
   simpa using this
 obtain⟨v0,vs0,d0,ds0,p0,ρ0,H0,av0,a0,e0,rfl,K8,hw0,r0,f0,u0,i0,rv0,q0,w0⟩:=Om hA hw (kT.slice (s:=1) (by kernel_rfl) (by kernel_rfl) (by decide) (Nat.lt_of_lt_of_le (by decide) (Nat.le_of_eq (show 8=_ from by kernel_rfl))) (kT.int (by kernel_rfl))) (fun H v a h=>by obtain⟨_,_,rfl⟩:=cZ.len h; kernel_rfl) (r:=.any) (base:=base) (fun v h=>hval 0 22 v rfl (OU h)) (Rel.nil _ W ⟨htab,UI,U0,abC⟩) kS.nil
 obtain⟨v1,vs1,d1,ds1,p1,ρ1,H1,av1,a1,e1,rfl,hA1,hw1,r1,f1,u1,i1,rv1,q1,w1⟩:=Om K8 hw0 (kT.str (by kernel_rfl)) (fun H v a h=>by subst h; kernel_rfl) (r:=.any) (base:=base) (fun v h=>hval 1 9 v rfl (OU (by rw[e0]; exact h))) r0 f0
 obtain⟨en,rfl⟩:=Vb hA1
 subst en
 obtain⟨Rj,Rk,rfl⟩:=cZ.len q0
 obtain rfl:av1=(sv a1):=q1
 have hargs:aT ρ1 [(.slice Rj a0.length Rk),(sv a1)] args.toList:=by
   rw[e0,e1]
   exact (.cons _ _ _ _ (rv0.up u1) (.cons _ _ _ _ rv1 .nil))
 obtain⟨fuel,abD⟩:=R3 w0 w1
 refine ((@RX fuel a0 ⟨Rj,_,Rk⟩ a1 true abD) H1 [] (Ctx.dup (Ctx.start _) (dG.up q0 i1) rfl) ρ1 W args r1 hargs).mono ?_
 rintro e w' ⟨v,r,ρ',H',rfl,h1,h2,h3,x,h5,-⟩
 have h6:r= .bool true:=h5
 subst h6
 refine⟨_,rfl,?_⟩
 rw[h1.bool_inv]
 refine U5 hW' rfl laidOut (by kernel_rfl) rfl (by kernel_rfl) (fun d=>?_) (h3.below f1)
 by_cases hd:d=[d0,d1]
 · subst hd; exact .inl ⟨rfl,rfl,rfl⟩
 · exact .inr (by simpa using hd)
theorem named:Tryz.pinned.checked.prog.funcNamed Rows.fnExactParseEventRow.func=some 4:=by kernel_rfl
set_option maxHeartbeats 10000000 in
theorem closed:joinedFacts Tryz.pinned.checked.prog 4 Tryz.f4 Rows.fnExactParseEventSpec Rows.fnExactParseEventRow=true:=by
 simp only[joinedFacts,Bool.and_eq_true]
 repeat' refine And.intro ?_ ?_
 all_goals (as_aux_lemma=>kernel_rfl)
theorem over:Rows.fnExactParseEventRow.holds Tryz.pinned (OpenSpec.ofChange Rows.fnExactParseEventSpec):=
 OpenClaim.holds_of_wide 4 Tryz.f4 rfl rfl rfl rfl rfl rfl rfl ⟨rfl,rfl,rfl,rfl,rfl⟩ rfl rfl rfl rfl rfl named Tryz.func4 closed
   (of_decide_eq_true (by kernel_rfl)) (by unfold Func.isWrapper; first|(rw[if_pos (by decide+kernel)]; kernel_rfl)|(rw[if_neg (by decide+kernel)]; exact⟨rfl,rfl⟩))
   (fun os started H enc _=>lifted os started H enc)
theorem proved:Rows.FnExactParseEventCardSaid:=
 Claim7.holds_tied_plain_at .later [] [.data,.data,.data,.data,.sentinel,.sentinel,.pinned] true (true,"f5f29142461482cda904e2be373e60663bd88d19b28a0364700a1047fcdb8440") true
   over (fun _ h=>by cases h) (by as_aux_lemma=>kernel_rfl) (fun _ h=>by cases h) fnExactParseEvent_row_tie rfl ⟨rfl,rfl⟩ (by as_aux_lemma=>kernel_rfl) rfl
   (fun f fn hf hfn=>by
     obtain rfl:f=4:=Option.some.inj ((show Tryz.prog.funcNamed "loop.example/g01989/laws.FnExactParseEvent" =some 4 by as_aux_lemma=>kernel_rfl).symm.trans hf) |>.symm
     obtain rfl:fn=Tryz.f4:=(Option.some.inj (Tryz.func4.symm.trans hfn)).symm
     exact⟨by as_aux_lemma=>kernel_rfl,fun j t ht=>by
       have hm:t∈[22,9]:=by simpa using (Array.mem_of_getElem? ht:t∈(#[22,9]:Array TypeId))
       have hall:([22,9].all fun u=>!Tryz.prog.wantsStandIn u)=true:=by as_aux_lemma=>kernel_rfl
       exact (show Tryz.prog.wantsStandIn t=false by simpa using List.all_eq_true.1 hall t hm)⟩)
   (by as_aux_lemma=>kernel_rfl)
end Go.Proofs.YtcjkjmnbdlnojaaGreatDoor.fnExactParseEvent
