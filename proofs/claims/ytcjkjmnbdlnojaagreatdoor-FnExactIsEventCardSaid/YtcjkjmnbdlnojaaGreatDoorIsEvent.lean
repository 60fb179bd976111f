/-
  FnExactIsEvent: the plain law and the row: for all arguments.
-/
import Derived.Test.YtcjkjmnbdlnojaaGreatDoorIsEventG1
import Derived.Test.YtcjkjmnbdlnojaaGreatDoorFc
import Derived.Test.YtcjkjmnbdlnojaaGreatDoorRows
import Derived.Test.YtcjkjmnbdlnojaaGreatDoorTie
import Derived.Test.YtcjkjmnbdlnojaaGreatDoorCards
import Derived.LaidMore
import Derived.OpenShut
import Derived.Stop.Joined
import Derived.Stop.LaidErr
import Derived.SevenTiedAt
import Derived.Lib.LaidTab
import Derived.Lay
import Derived.Shelf.Vars
import Derived.WalkKit
import Derived.KernelRfl
/-
 Plain laws of the helpers. Written by a program.
-/
set_option maxRecDepth 100000
set_option maxHeartbeats 4000000
set_option linter.unusedVariables false
namespace Go.Proofs.YtcjkjmnbdlnojaaGreatDoor
open Go Go.Fw
def aa8(a:Method):Prop:=(wE yc) a.Inputs
def aa9(a:eU):Prop:=(wE yc) a.Map
def aa_(a:Fact):Prop:=(wE yc) a.Values
theorem Vf:∀(a:List Int),(wE yc) a->xG a=some a:=
 UD (fun _=>rfl) (fun _ _=>rfl) (fun x r k c hx hk=>by
   rw[xe]
   simp[kg,hk])
def UJ(_:Event):Prop:=True
theorem UK(a:Event)(h:UJ a):xz a=some a:=by
 simp (disch:=assumption) only[xz]
theorem Vg:∀(a:List Int),DJ a a=some true:=
 UE (fun _ _=>rfl) (fun _ _=>rfl) (fun b x r k h=>by
   rw[xm,lU,h]
   simp)
end Go.Proofs.YtcjkjmnbdlnojaaGreatDoor
/-
 Plain laws.
-/
set_option maxRecDepth 100000
set_option linter.unusedVariables false
namespace Go.Proofs.YtcjkjmnbdlnojaaGreatDoor
open Go Go.Fw
def pF(n:Int):Bool:=decide (1<=n)&&decide (n<=3)
def jX(s:List Int):Bool:=pF (s.length:Int)&&s.all pF
theorem zk(s:List Int):qo s=some (jX s):=by
 unfold qo
 rw[zR (L:=ve s) (f:=fun n=>dL n 1 3) (p:=pF) (e:=pF (s.length:Int)) (fun k=>by simp[ve,dL,pF]) (fun x r k=>rfl) s 0 (fun x _=>rfl),jX,Bool.and_comm]
theorem QZ(l:List Int):yP l=some (l.any fun x=>!pF x):=by
 unfold yP CR
 rw[nk (L:=wR) (f:=fun x=>Dg x) (p:=fun x=>!pF x) (fun k=>rfl) (fun x r k=>rfl) l 0 (fun x hx=>rfl),Option.bind_some,nA]
theorem LV(s:List Int):xw s=some (jX s):=by
 unfold xw
 rw[QZ]
 simp only[gP,Option.bind_some,jX,pF]
 cases hh:(decide (1<=(s.length:Int))&&decide ((s.length:Int)<=3))
 · simp
 · simp[List.all_eq_not_any_not,pF]
theorem Gm{s:List Int}(h:jX s=true):s.length<=3/\ ∀x∈s,1<=x/\x<=3:=by
 simp[jX,pF]at h
 exact⟨by omega,h.2⟩
theorem iR(x lo hi:Int):dL x lo hi=some (ax lo hi x):=rfl
theorem lT(x lo hi:Int):gP x lo hi=some (ax lo hi x):=rfl
def eY(s:List Int)(rel:Int):Bool:=jX s&&ax 0 ((s.length:Int)-1) rel
theorem Dh(s:List Int)(rel:Int)(hs:s.length<4294967296):qw s rel=some (eY s rel):=by
 simp only[qw,LV,lT,Option.bind_some,eY]
 rw[eP (by omega) (by omega)]
 cases jX s<;>rfl
theorem TU{s:List Int}{rel:Int}(h:eY s rel=true):∃x,ix s rel=some x/\1<=x/\x<=3:=by
 simp only[eY,Bool.and_eq_true]at h
 obtain⟨x,h1,h2⟩:=VF h.2
 exact⟨x,h1,(Gm h.1).2 x (List.mem_of_getElem? h2)⟩
def gG(s:List Int)(rel:Int):Int:=(ix s rel).getD 0
theorem kD{s:List Int}{rel:Int}(h:eY s rel=true):ix s rel=some (gG s rel)/\1<=gG s rel/\gG s rel<=3:=by
 obtain⟨x,h1,h2⟩:=TU h
 unfold gG
 rw[h1]; exact⟨rfl,h2⟩
def iU(s:List Int)(m:Method):Bool:=eY s m.Rel&&(ax 0 9 m.Limit&&(ax 0 99 m.Cost&&(ax 1 99 m.Quota&&(gT (fun _=>true) (fun y x=>decide (x<=y)) none m.Inputs&&m.Inputs.all (ax 0 (gG s m.Rel-1))))))
theorem SC(s:List Int)(m:Method)(hs:s.length<4294967296)(hm:m.Inputs.length<4294967296):xq s m=some (iU s m):=by
 simp only[xq,zk,iR,Option.bind_some]
 rw[eP (by omega) (by omega)]
 have hL:eY s m.Rel=true->qh s m m.Inputs 0=some (gT (ax 0 (gG s m.Rel-1)) (fun y x=>decide (x<=y)) none m.Inputs):=fun h=>by
   obtain⟨e1,e2,e3⟩:=kD h
   have:=Ni (L:=qh s m) (P:=fun _=>True) (p:=ax 0 (gG s m.Rel-1)) (q:=fun y x=>decide (x<=y)) (e:=true) m.Inputs (fun _ _=>trivial) hm (fun _=>rfl) (fun x r _=>by
     rw[qh]
     simp only[e1,Option.bind_some,iR,UF]
     rw[eP (by omega) (by omega)]
     cases ax 0 (gG s m.Rel-1) x<;>rfl) (fun x r k y _ _ hy hk=>by
     rw[qh]
     simp only[e1,Option.bind_some,iR,Nj,NL _ k hk,hy]
     rw[eP (by omega) (by omega)]
     cases ax 0 (gG s m.Rel-1) x<;>cases decide (x<=y)<;>rfl)
   simpa using this
 unfold iU
 cases hh:eY s m.Rel
 · simp only[eY]at hh
   cases h1:jX s
   · rfl
   · rw[h1,Bool.true_and]at hh
     simp[hh]
 · rw[hL hh,GG]
   simp only[eY,Bool.and_eq_true]at hh
   rw[hh.1,hh.2]
   cases ax 0 9 m.Limit
   · rfl
   cases ax 0 99 m.Cost
   · rfl
   cases ax 1 99 m.Quota<;>rfl
theorem Lr(l:List Int)(hl:l.length<4294967296):zy l=some (gT (fun _=>true) (fun y x=>decide (x<=y)) none l):=by
 have:=Ni (L:=u6 l) (P:=fun _=>True) (p:=fun _=>true) (q:=fun y x=>decide (x<=y)) (e:=true) l (fun _ _=>trivial) hl (fun _=>rfl) (fun x r _=>rfl) (fun x r k y _ _ hy hk=>by
     rw[u6]
     simp only[Option.bind_some,Nj,NL _ k hk,hy,cond_true]
     cases decide (x<=y)<;>rfl)
 simpa[zy]using this
theorem KE(l:List Int)(a1:Int)(h1:-1000<=a1/\a1<=1000):yN l a1=some (l.any fun x=>!ax 0 (a1-1) x):=by
 unfold yN CP
 rw[nk (L:=wP a1) (f:=fun x=>y7 x a1) (p:=fun x=>!ax 0 (a1-1) x) (fun k=>rfl) (fun x r k=>rfl) l 0 (fun x hx=>by rw[y7,lT,eP (by omega) (by omega)]; rfl),Option.bind_some,nA]
theorem Mt(n:Int):DF n=some (ax 0 99 n):=rfl
theorem SE(s:List Int)(m:Method)(hs:s.length<4294967296)(hm:m.Inputs.length<4294967296):vE s m=some (iU s m):=by
 simp only[vE,Dh _ _ hs,Option.bind_some,iU]
 cases hh:eY s m.Rel
 · rfl
 obtain⟨e1,e2,e3⟩:=kD hh
 simp only[e1,Option.bind_some,wZ,Lr _ hm,KE _ _ (show -1000<=gG s m.Rel/\gG s m.Rel<=1000 by omega),lT,Mt,cond_true,Bool.true_and]
 have e4:(m.Inputs.any fun x=>!ax 0 (gG s m.Rel-1) x)=!(m.Inputs.all (ax 0 (gG s m.Rel-1))):=by simp[List.all_eq_not_any_not]
 rw[e4]
 cases gT (fun _=>true) (fun y x=>decide (x<=y)) none m.Inputs<;>cases m.Inputs.all (ax 0 (gG s m.Rel-1))<;>cases ax 0 9 m.Limit<;>cases ax 0 99 m.Cost<;>cases ax 1 99 m.Quota<;>rfl
def lC(s:List Int)(r:eU):Bool:=eY s r.From&&(eY s r.To&&(((r.Map.length:Int)==gG s r.To)&&r.Map.all (ax 0 (gG s r.From-1))))
theorem TE(s:List Int)(r:eU)(hs:s.length<4294967296):zS s r=some (lC s r):=by
 simp only[zS,zk,iR,Option.bind_some]
 rw[eP (by omega) (by omega)]
 have hL:eY s r.From=true->tK s r r.Map 0=some (r.Map.all (ax 0 (gG s r.From-1))):=fun h=>by
   obtain⟨e1,e2,e3⟩:=kD h
   have:=zR (L:=tK s r) (f:=fun x=>some (ax 0 (gG s r.From-1) x)) (p:=ax 0 (gG s r.From-1)) (e:=true) (fun _=>rfl) (fun x r' k=>by
     rw[tK]
     simp only[e1,Option.bind_some,iR]
     rw[eP (by omega) (by omega)]) r.Map 0 (fun _ _=>rfl)
   simpa using this
 unfold lC
 cases hF:eY s r.From
 · simp only[eY]at hF
   cases h1:jX s
   · rfl
   · rw[h1,Bool.true_and]at hF
     simp[hF]
 · cases hT:eY s r.To
   · simp only[eY]at hT hF
     simp only[Bool.and_eq_true]at hF
     rw[hF.1,Bool.true_and]at hT
     simp[hF,hT]
   · obtain⟨e1,-⟩:=kD hT
     rw[hL hF,e1]
     simp only[eY,Bool.and_eq_true]at hF hT
     simp only[hF,hT,Bool.not_true,cond_false,Option.bind_some,bne]
     cases ((r.Map.length:Int)==gG s r.To)<;>rfl
theorem KD(l:List Int)(a1:Int)(h1:-1000<=a1/\a1<=1000):yM l a1=some (l.any fun x=>!ax 0 (a1-1) x):=by
 unfold yM CL
 rw[nk (L:=wO a1) (f:=fun x=>yZ x a1) (p:=fun x=>!ax 0 (a1-1) x) (fun k=>rfl) (fun x r k=>rfl) l 0 (fun x hx=>by rw[yZ,lT,eP (by omega) (by omega)]; rfl),Option.bind_some,nA]
theorem TF(s:List Int)(r:eU)(hs:s.length<4294967296):zV s r=some (lC s r):=by
 simp only[zV,Dh _ _ hs,Option.bind_some,lC]
 cases hF:eY s r.From
 · rfl
 cases hT:eY s r.To
 · rfl
 obtain⟨e1,e2,e3⟩:=kD hF
 obtain⟨e4,-⟩:=kD hT
 simp only[e1,e4,Option.bind_some,wW,KD _ _ (show -1000<=gG s r.From/\gG s r.From<=1000 by omega),cond_true,Bool.true_and,List.all_eq_not_any_not]
 cases ((r.Map.length:Int)==gG s r.To)<;>rfl
theorem QW(l:List Int):yO l=some (l.any fun x=>!ax 0 9 x):=by
 unfold yO CQ
 rw[nk (L:=wQ) (f:=fun x=>Db x) (p:=fun x=>!ax 0 9 x) (fun k=>rfl) (fun x r k=>rfl) l 0 (fun x hx=>rfl),Option.bind_some,nA]
theorem Ls(l:List Int):xh l=some (l.all (ax 0 9)):=by
 simp only[xh,QW,Option.bind_some,List.all_eq_not_any_not]
def nJ(s:List Int)(f:Fact):Bool:=eY s f.Rel&&(((f.Values.length:Int)==gG s f.Rel)&&f.Values.all (ax 0 9))
theorem TG(s:List Int)(f:Fact)(hs:s.length<4294967296):zT s f=some (nJ s f):=by
 simp only[zT,zk,iR,Option.bind_some]
 rw[eP (by omega) (by omega)]
 have hL:vo f.Values 0=some (f.Values.all (ax 0 9)):=by
   have:=zR (L:=vo) (f:=fun x=>some (ax 0 9 x)) (p:=ax 0 9) (e:=true) (fun _=>rfl) (fun x r' k=>rfl) f.Values 0 (fun _ _=>rfl)
   simpa using this
 unfold nJ
 cases hF:eY s f.Rel
 · simp only[eY]at hF
   cases h1:jX s
   · rfl
   · rw[h1,Bool.true_and]at hF
     simp[hF]
 · obtain⟨e1,-⟩:=kD hF
   rw[hL,e1]
   simp only[eY,Bool.and_eq_true]at hF
   simp only[hF,Bool.not_true,cond_false,Option.bind_some,bne]
   cases ((f.Values.length:Int)==gG s f.Rel)<;>rfl
theorem TH(s:List Int)(f:Fact)(hs:s.length<4294967296):zW s f=some (nJ s f):=by
 simp only[zW,Dh _ _ hs,Option.bind_some,nJ]
 cases hF:eY s f.Rel
 · rfl
 obtain⟨e1,-⟩:=kD hF
 simp only[e1,Option.bind_some,Ls,cond_true,Bool.true_and]
 cases ((f.Values.length:Int)==gG s f.Rel)<;>rfl
def bB(n:Int):List UInt8:=[UInt8.ofNat (48+n.toNat)]
theorem u_{K:Nat}(hK:2<=K)(n:Int)(h:0<=n/\n<=9):fF K n=some (bB n):=by
 obtain⟨k,rfl⟩:∃k,K=k+2:=⟨K-2,by omega⟩
 obtain⟨h0,h1⟩:=h
 have:n=0\/n=1\/n=2\/n=3\/n=4\/n=5\/n=6\/n=7\/n=8\/n=9:=by omega
 rcases this with rfl|rfl|rfl|rfl|rfl|rfl|rfl|rfl|rfl|rfl<;>rfl
theorem UL(n:Int)(h:0<=n/\n<=9):Lib.itoa n=bB n:=by
 unfold Lib.itoa bB
 rw[if_neg (by omega),Lib.decDigits,dif_pos (by omega)]
theorem wX(n:Int)(h:0<=n/\n<=9):iI n=some (bB n):=by
 rw[iI,y9,if_pos (by omega),UL n h]; rfl
theorem TV(x y:List UInt8)(l:List (List UInt8))(sep:List UInt8):Lib.join (x::y::l) sep=x++(sep++Lib.join (y::l) sep):=by
 simp[Lib.join,List.intercalate,List.intersperse]
theorem join_one(x:List UInt8)(sep:List UInt8):Lib.join [x] sep=x:=by
 simp[Lib.join,List.intercalate,List.intersperse]
def rz(sep:List UInt8)(l:List (List UInt8)):List UInt8:=l.flatMap fun x=>sep++x
theorem Dv(x:List UInt8)(sep:List UInt8):∀l:List (List UInt8),Lib.join (x::l) sep=x++rz sep l
 |[]=>by rw[join_one]; simp[rz]
 |y::l=>by rw[TV,Dv y sep l]; simp[rz]
theorem Gz(sep:List UInt8)(n:Nat):∀l:List (List UInt8),(∀x∈l,x.length<=n)->(rz sep l).length<=(sep.length+n)*l.length
 |[],_=>by simp[rz]
 |x::l,h=>by
   have h1:=Gz sep n l fun y hy=>h y (by simp[hy])
   have h2:=h x (by simp)
   simp only[rz,List.flatMap_cons,List.length_append,List.length_cons,Nat.mul_succ]at*
   omega
theorem Lt{K:Nat}(hK:2<=K):∀(l:List Int)(k:Nat)(c:List UInt8),0<k->(∀x∈l,0<=x/\x<=9)->c.length+2*l.length<4294967296->qj K l k c=some (c++rz [44] (l.map bB))
 |[],k,c,_,_,_=>by simp[qj,rz]
 |x::l,k,c,hk,h,hl=>by
   simp only[List.length_cons]at hl
   have e1:aO c [44]=some (c++[44]):=by unfold aO; rw[if_pos (by simp; omega)]
   have e2:aO (c++[44]) (bB x)=some (c++[44]++bB x):=by unfold aO; rw[if_pos (by simp[bB]; omega)]
   unfold qj
   rw[if_pos (by simpa using hk),e1,Option.bind_some,u_ hK x (h x (by simp)),Option.bind_some,e2,Option.bind_some,Option.bind_some]
   dsimp only
   rw[Lt hK l _ _ (by omega) (fun y hy=>h y (by simp[hy])) (by simp[bB]; omega)]
   simp[rz]
theorem Gn{K:Nat}(hK:2<=K)(l:List Int)(h:∀x∈l,0<=x/\x<=9)(hl:l.length<=3):vH K l=some (Lib.join (l.map bB) [44]):=by
 unfold vH
 cases l with
 |nil=>rfl
 |cons x l=>
   simp only[List.length_cons]at hl
   have e2:aO [] (bB x)=some (bB x):=by unfold aO; rw[if_pos (by simp[bB])]; rfl
   unfold qj
   rw[if_neg (by simp),u_ hK x (h x (by simp)),Option.bind_some,e2,Option.bind_some,Option.bind_some]
   dsimp only
   rw[Lt hK l _ _ (by omega) (fun y hy=>h y (by simp[hy])) (by simp[bB]; omega),List.map_cons,Dv]
theorem Lu:∀(l:List Int)(k:Nat)(c:List (List UInt8)),(∀x∈l,0<=x/\x<=9)->c.length+l.length<=3->(∀x∈c,x.length<=1)->tN [44] l k c=some (Lib.join (c++l.map bB) [44])
 |[],k,c,_,hl,hc=>by
   have hj:(Lib.join c [44]).length<=10:=by
     cases c with
     |nil=>simp[Lib.join,List.intercalate]
     |cons x c=>
       rw[Dv,List.length_append]
       have h1:=Gz [44] 1 c fun y hy=>hc y (by simp[hy])
       have h2:=hc x (by simp)
       simp only[List.length_cons,List.length_nil]at h1 hl
       omega
   simp only[List.length_nil,Nat.add_zero]at hl
   unfold tN
   rw[qg,if_pos ⟨by omega,by omega⟩]
   simp
 |x::l,k,c,h,hl,hc=>by
   simp only[List.length_cons]at hl
   unfold tN
   rw[wX x (h x (by simp)),Option.bind_some,vP (by simp; omega),Option.bind_some,Lu l _ _ (fun y hy=>h y (by simp[hy])) (by simp; omega) (fun y hy=>by
     rcases List.mem_append.1 hy with hy|hy
     · exact hc y hy
     · rw[List.mem_singleton.1 hy]; simp[bB])]
   simp
theorem Gp(l:List Int)(h:∀x∈l,0<=x/\x<=9)(hl:l.length<=3):vK l [44]=some (Lib.join (l.map bB) [44]):=by
 rw[vK,Lu l 0 [] h (by simpa using hl) (by simp)]; rfl
theorem xC(l:List Int)(hl:l.length<=3):(Lib.join (l.map bB) [44]).length<=7:=by
 cases l with
 |nil=>simp[Lib.join,List.intercalate]
 |cons x l=>
   rw[List.map_cons,Dv,List.length_append]
   have h1:=Gz [44] 1 (l.map bB) fun y hy=>by
     obtain⟨z,-,rfl⟩:=List.mem_map.1 hy
     simp[bB]
   simp only[List.length_cons,List.length_nil,List.length_map]at h1 hl
   have:(bB x).length=1:=rfl
   omega
theorem M3{l:List Int}(h:l.all (ax 0 9)=true):∀x∈l,0<=x/\x<=9:=by
 simpa only[List.all_eq_true,ax,Bool.and_eq_true,decide_eq_true_eq]using h
theorem Dc(u:Nat):Lib.decDigits u=if u<10 then [UInt8.ofNat (48+u)]else Lib.decDigits (u / 10)++[UInt8.ofNat (48+u % 10)]:=by
 rw[Lib.decDigits]
 by_cases h:u<10
 · rw[dif_pos h,if_pos h]
 · rw[dif_neg h,if_neg h]
theorem LW:∀(m u:Nat),u<10 ^ (m+1)->(Lib.decDigits u).length<=m+1
 |0,u,h=>by rw[Dc,if_pos (by simpa using h)]; simp
 |m+1,u,h=>by
   rw[Dc]
   split
   · simp
   · have:=LW m (u / 10) (by rw[Nat.pow_succ]at h; omega)
     rw[List.length_append,List.length_singleton]; omega
theorem KM:∀(m u:Nat)(n:Int)(c:List UInt8),n.natAbs=u->u<10 ^ m-> -9223372036854775808<=n/\n<=9223372036854775807->c.length+m<4294967296->oF (m+1) n c=some ((if u=0 then []else Lib.decDigits u)++c)
 |0,u,n,c,hu,h,_,_=>by
   have h0:n=0:=by simp at h; omega
   subst h0
   have:u=0:=by simpa using hu.symm
   subst this
   unfold oF
   rw[if_neg (by simp)]; rfl
 |m+1,u,n,c,hu,h,hr,hc=>by
   by_cases h0:u=0
   · have hn:n=0:=by omega
     subst hn
     subst h0
     unfold oF
     rw[if_neg (by simp)]; rfl
   · have hn:n≠0:=by omega
     have hc1:∀b:UInt8,aO [b] c=some (b::c):=fun b=>by unfold aO; rw[if_pos (by simp; omega)]; rfl
     have hd:n.tdiv 10=if n<0 then -((u / 10:Nat):Int)else ((u / 10:Nat):Int):=by
       split
       · have:n= -(u:Int):=by omega
         rw[this,Int.neg_tdiv]; rfl
       · have:n=(u:Int):=by omega
         rw[this]; rfl
     have hm:n.tmod 10=if n<0 then -((u % 10:Nat):Int)else ((u % 10:Nat):Int):=by
       split
       · have:n= -(u:Int):=by omega
         rw[this,Int.neg_tmod]; rfl
       · have:n=(u:Int):=by omega
         rw[this]; rfl
     have hw:IntKind.i64.wrap (n.tdiv 10)=n.tdiv 10:=eP (by rw[hd]; split<;>omega) (by rw[hd]; split<;>omega)
     have Kz:∀r:Nat,r<10->lF (IntKind.i64.wrap (48+(r:Int)))=UInt8.ofNat (48+r):=by
       intro r hr
       have:r=0\/r=1\/r=2\/r=3\/r=4\/r=5\/r=6\/r=7\/r=8\/r=9:=by omega
       rcases this with rfl|rfl|rfl|rfl|rfl|rfl|rfl|rfl|rfl|rfl<;>decide
     have hlt:u % 10<10:=Nat.mod_lt _ (by omega)
     have hgo:=KM m (u / 10) (n.tdiv 10) (UInt8.ofNat (48+u % 10)::c) (by rw[hd]; split<;>omega) (by rw[Nat.pow_succ]at h; omega) (by rw[hd]; split<;>omega) (by simp; omega)
     have hfin:((if u / 10=0 then []else Lib.decDigits (u / 10))++UInt8.ofNat (48+u % 10)::c)=(if u=0 then []else Lib.decDigits u)++c:=by
       rw[if_neg h0,Dc u]
       by_cases h9:u<10
       · rw[if_pos h9,if_pos (by omega),Nat.mod_eq_of_lt h9]; rfl
       · rw[if_neg h9,if_neg (by omega)]; simp
     rw[hfin]at hgo
     unfold oF
     rw[if_pos (by simpa using hn),hw,hm]
     by_cases hneg:n<0
     · rw[if_pos hneg]
       by_cases hz:u % 10=0
       · rw[if_neg (by simp only[decide_eq_true_eq]; omega),show -((u % 10:Nat):Int)=((u % 10:Nat):Int)from by omega,Kz _ hlt,hc1,Option.bind_some]
         exact hgo
       · rw[if_pos (by simp only[decide_eq_true_eq]; omega),show IntKind.i64.wrap (- -((u % 10:Nat):Int))=((u % 10:Nat):Int)from by rw[Int.neg_neg]; exact eP (by omega) (by omega),Kz _ hlt,hc1,Option.bind_some]
         exact hgo
     · rw[if_neg hneg,if_neg (by simp only[decide_eq_true_eq]; omega),Kz _ hlt,hc1,Option.bind_some]
       exact hgo
theorem R4(k:Nat)(n:Int)(hr:-9223372036854775808<=n/\n<=9223372036854775807)(hk:19<=k)(hk2:k<1000):fF (k+1) n=some (Lib.itoa n):=by
 unfold fF Lib.itoa
 by_cases h0:n=0
 · subst h0
   rw[if_pos (by decide),if_neg (by decide),show Int.toNat 0=0 from rfl,Dc]; rfl
 · rw[if_neg (by simpa using h0),KM k n.natAbs n [] rfl (Nat.lt_of_lt_of_le (show n.natAbs<10 ^ 19 by omega) (Nat.pow_le_pow_right (by decide) hk)) hr (by simp; omega),Option.bind_some,if_neg (show ¬ n.natAbs=0 by omega),List.append_nil]
   dsimp only
   by_cases hneg:n<0
   · have:=LW 18 n.natAbs (by omega)
     rw[if_pos (by simpa using hneg),if_pos hneg]
     unfold aO
     rw[if_pos (by simp; omega)]; rfl
   · rw[if_neg (by simpa using hneg),if_neg hneg,show n.natAbs=n.toNat from by omega]
theorem y8(n:Int)(hr:-9223372036854775808<=n/\n<=9223372036854775807):iI n=some (Lib.itoa n):=by
 rw[iI,y9,if_pos hr]; rfl
theorem d_{a b:List UInt8}(h:a.length+b.length<4294967296):aO a b=some (a++b):=by unfold aO; rw[if_pos (by omega)]
def DW(f:Fact):Bool:=ax 0 2 f.Rel&&(ax 1 3 (f.Values.length:Int)&&f.Values.all (ax 0 9))
def nK(f:Fact):List UInt8:=if DW f then [114]++bB f.Rel++[40]++Lib.join (f.Values.map bB) [44]++[41]else []
theorem MH{m v:List UInt8}(hm:m.length<=1)(hv:v.length<=7):(((aO [114] m).bind fun x=>(aO x [40]).bind fun y=>(aO y v).bind fun z=>(aO z [41]).bind fun u=>some u):Option (List UInt8))=some ([114]++m++[40]++v++[41]):=by
 rw[d_ (by simp; omega),Option.bind_some,d_ (by simp; omega),Option.bind_some,d_ (by simp; omega),Option.bind_some,d_ (by simp; omega),Option.bind_some]
theorem KN{K:Nat}(hK:2<=K)(a:Fact)(hm:0<=a.Rel/\a.Rel<=2)(hl:a.Values.length<=3):∀(l:List Int)(k:Nat),(l.all (ax 0 9)=true-> ∀x∈a.Values,0<=x/\x<=9)->sS a K l k=some (if l.all (ax 0 9)then [114]++bB a.Rel++[40]++Lib.join (a.Values.map bB) [44]++[41]else [])
 |[],k,hv=>by
   have hv':=hv rfl
   unfold sS
   rw[u_ hK _ (by omega),Option.bind_some,Gn hK a.Values hv' hl]
   simp only[Option.bind_some]
   rw[if_pos (by rfl)]
   exact MH (by simp[bB]) (xC a.Values hl)
 |x::l,k,hv=>by
   unfold sS
   rw[iR,Option.bind_some]
   cases h:ax 0 9 x
   · simp[h]
   · rw[if_neg (by simp),KN hK a hm hl l _ (fun h'=>hv (by simp[h,h']))]; simp[h]
theorem R5{K:Nat}(hK:2<=K)(a:Fact):zm K a=some (nK a):=by
 unfold zm nK DW
 rw[iR,Option.bind_some]
 cases h1:ax 0 2 a.Rel
 · rfl
 rw[iR,Option.bind_some]
 cases h2:ax 1 3 (a.Values.length:Int)
 · rfl
 have hm:0<=a.Rel/\a.Rel<=2:=by simpa only[ax,Bool.and_eq_true,decide_eq_true_eq]using h1
 have hn:1<=(a.Values.length:Int)/\(a.Values.length:Int)<=3:=by simpa only[ax,Bool.and_eq_true,decide_eq_true_eq]using h2
 simp only[Bool.not_true,cond_false,Option.bind_some,Bool.false_eq_true,if_false,Bool.true_and]
 exact KN hK a hm (by omega) a.Values 0 M3
theorem R6(a:Fact):zo a=some (nK a):=by
 unfold zo nK DW nD
 rw[lT,Option.bind_some,Option.bind_some]
 cases h1:ax 0 2 a.Rel
 · rfl
 rw[lT,Option.bind_some]
 cases h2:ax 1 3 (a.Values.length:Int)
 · rfl
 have hm:0<=a.Rel/\a.Rel<=2:=by simpa only[ax,Bool.and_eq_true,decide_eq_true_eq]using h1
 have hn:1<=(a.Values.length:Int)/\(a.Values.length:Int)<=3:=by simpa only[ax,Bool.and_eq_true,decide_eq_true_eq]using h2
 simp only[Bool.not_true,cond_false,Ls,Option.bind_some,Bool.true_and]
 cases h3:a.Values.all (ax 0 9)
 · rfl
 · simp only[Bool.not_true,Bool.false_eq_true,if_false,if_true]
   rw[wX _ (by omega),Option.bind_some,Gp a.Values (M3 h3) (by omega)]
   simp only[Option.bind_some]
   exact MH (by simp[bB]) (xC a.Values (by omega))
theorem SF{zs:List Int}(h:zs.Pairwise (· <= ·)):∀m,m<=zs.length->
   (Lib.compactUpTo zs.toArray m).Pairwise (· < ·)/\(∀x,x∈Lib.compactUpTo zs.toArray m↔x∈zs.take m)/\(∀x∈Lib.compactUpTo zs.toArray m,∀y,zs[m]?=some y->x<=y):=by
 intro m
 induction m with
 |zero=>intro _; simp[Lib.compactUpTo]
 |succ m ih=>
   intro hm
   obtain⟨i1,i2,i3⟩:=ih (by omega)
   have hlt:m<zs.length:=by omega
   have hg:zs.toArray[m]! =zs[m]:=by simp[hlt]
   have hnext:∀x,x∈zs.take (m+1)-> ∀y,zs[m+1]?=some y->x<=y:=by
     intro x hx y hy
     obtain⟨j,hj,rfl⟩:=List.mem_iff_getElem.1 hx
     obtain⟨hy1,rfl⟩:=List.getElem?_eq_some_iff.1 hy
     rw[List.getElem_take]
     simp only[List.length_take]at hj
     exact List.pairwise_iff_getElem.1 h j (m+1) (by omega) hy1 (by omega)
   rw[Lib.compactUpTo_succ,hg]
   have htake:zs.take (m+1)=zs.take m++[zs[m]]:=by rw[List.take_succ_eq_append_getElem hlt]
   by_cases hk:Lib.keeps zs.toArray m=true
   · rw[if_pos hk]
     have hlow:∀x∈Lib.compactUpTo zs.toArray m,x<zs[m]:=by
       intro x hx
       have hm0:m≠0:=by
         intro e; subst e; simp[Lib.compactUpTo]at hx
       have hpl:m-1<zs.length:=by omega
       have hpm:zs.toArray[m-1]! =zs[m-1]:=by simp[hpl]
       have hne:zs[m]≠zs[m-1]:=by
         simp only[Lib.keeps,decide_eq_true_eq,hg,hpm]at hk
         rcases hk with h0|h0
         · exact absurd h0 hm0
         · exact h0
       have hx1:=(i2 x).1 hx
       obtain⟨j,hj,rfl⟩:=List.mem_iff_getElem.1 hx1
       rw[List.getElem_take]at*
       simp only[List.length_take]at hj
       have a1:zs[j]<=zs[m-1]:=by
         rcases Nat.lt_or_ge j (m-1)with h1|h1
         · exact List.pairwise_iff_getElem.1 h j (m-1) (by omega) hpl h1
         · have:j=m-1:=by omega
           subst this; exact Int.le_refl _
       have a2:zs[m-1]<=zs[m]:=List.pairwise_iff_getElem.1 h (m-1) m hpl hlt (by omega)
       omega
     refine⟨?_,?_,?_⟩
     · rw[List.pairwise_append]
       exact⟨i1,by simp,fun a ha b hb=>by simp at hb; subst hb; exact hlow a ha⟩
     · intro x; rw[htake,List.mem_append,List.mem_append,i2]
     · intro x hx y hy
       apply hnext x _ y hy
       rw[htake,List.mem_append,←i2,←List.mem_append]; exact hx
   · rw[if_neg hk,List.append_nil]
     have hm0:m≠0:=fun e=>hk (by simp[Lib.keeps,e])
     have hpl:m-1<zs.length:=by omega
     have hpm:zs.toArray[m-1]! =zs[m-1]:=by simp[hpl]
     have he:zs[m]=zs[m-1]:=by
       simp only[Lib.keeps,decide_eq_true_eq,hg,hpm]at hk
       exact Classical.byContradiction fun hc=>hk (.inr hc)
     have hin:zs[m]∈zs.take m:=by
       rw[he]
       exact List.mem_iff_getElem.2 ⟨m-1,by simp; omega,by rw[List.getElem_take]⟩
     have hiff:∀x,x∈zs.take (m+1)↔x∈zs.take m:=by
       intro x; rw[htake,List.mem_append,List.mem_singleton]
       exact⟨fun h=>h.elim id fun h=>h ▸ hin,.inl⟩
     refine⟨i1,fun x=>by rw[i2,hiff],fun x hx y hy=>hnext x ((hiff x).2 ((i2 x).1 hx)) y hy⟩
theorem Td{zs:List Int}(h:zs.Pairwise (· <= ·)):(Lib.compact zs).Pairwise (· < ·)/\ ∀x,x∈Lib.compact zs↔x∈zs:=by
 obtain⟨h1,h2,-⟩:=SF h zs.length (Nat.le_refl _)
 exact⟨h1,fun x=>by rw[Lib.compact,h2,List.take_length]⟩
theorem Ot:∀{a b:List Int},a.Pairwise (· < ·)->b.Pairwise (· < ·)->(∀x,x∈a↔x∈b)->a=b
 |[],[],_,_,_=>rfl
 |[],y::b,_,_,h=>absurd ((h y).2 (by simp)) (by simp)
 |x::a,[],_,_,h=>absurd ((h x).1 (by simp)) (by simp)
 |x::a,y::b,ha,hb,h=>by
   rw[List.pairwise_cons]at ha hb
   have e:x=y:=by
     have h1:=(h x).1 (by simp)
     have h2:=(h y).2 (by simp)
     rw[List.mem_cons]at h1 h2
     rcases h1 with h1|h1
     · exact h1
     · rcases h2 with h2|h2
       · exact h2.symm
       · have:=hb.1 x h1; have:=ha.1 y h2; omega
   subst e
   rw[Ot ha.2 hb.2 fun z=>?_]
   constructor
   · intro hz
     have h1:=(h z).1 (by simp[hz])
     have:=ha.1 z hz
     rcases List.mem_cons.1 h1 with h1|h1
     · omega
     · exact h1
   · intro hz
     have h1:=(h z).2 (by simp[hz])
     have:=hb.1 z hz
     rcases List.mem_cons.1 h1 with h1|h1
     · omega
     · exact h1
def lZ(x:Int):List Int->List Int
 |[]=>[x]
 |y::l=>if x<y then x::y::l else y::lZ x l
theorem GH{x:Int}:∀{l:List Int}{y:Int},y∈lZ x l↔y=x\/y∈l
 |[],y=>by simp[lZ]
 |z::l,y=>by
   unfold lZ
   split
   · simp
   · rw[List.mem_cons,GH,List.mem_cons]
     constructor<;>rintro (h|h|h)<;>simp[h]
theorem NU{x:Int}:∀{l:List Int},l.Pairwise (· < ·)->x∉l->(lZ x l).Pairwise (· < ·)
 |[],_,_=>by simp[lZ]
 |z::l,h,hn=>by
   unfold lZ
   rw[List.mem_cons,not_or]at hn
   rw[List.pairwise_cons]at h
   split
   · rename_i hx
     rw[List.pairwise_cons,List.pairwise_cons]
     refine⟨fun a ha=>?_,h⟩
     rcases List.mem_cons.1 ha with rfl|ha
     · exact hx
     · have:=h.1 a ha; omega
   · rename_i hx
     rw[List.pairwise_cons]
     refine⟨fun a ha=>?_,NU h.2 hn.2⟩
     rcases GH.1 ha with rfl|ha
     · omega
     · exact h.1 a ha
theorem Nq{x:Int}:∀{l:List Int},(lZ x l).length=l.length+1
 |[]=>rfl
 |z::l=>by
   unfold lZ
   split
   · rfl
   · simp[Nq]
def jO(l:List Int)(x:Int):List Int:=if x∈l then l else lZ x l
theorem UM{l:List Int}{x y:Int}:y∈jO l x↔y=x\/y∈l:=by
 unfold jO
 split
 · rename_i h; exact⟨.inr,fun h'=>h'.elim (fun e=>e ▸ h) id⟩
 · exact GH
theorem Vh{l:List Int}{x:Int}(h:l.Pairwise (· < ·)):(jO l x).Pairwise (· < ·):=by
 unfold jO
 split
 · exact h
 · exact NU h (by assumption)
theorem Nr{l:List Int}{x:Int}:(jO l x).length<=l.length+1:=by
 unfold jO
 split
 · omega
 · rw[Nq]; exact Nat.le_refl _
theorem GI{y:Int}:∀{v l:List Int},y∈v.foldl jO l↔y∈l\/y∈v
 |[],l=>by simp
 |x::v,l=>by
   rw[List.foldl_cons,GI,UM,List.mem_cons]
   constructor
   · rintro ((h|h)|h)<;>simp[h]
   · rintro (h|h|h)<;>simp[h]
theorem NV:∀{v l:List Int},l.Pairwise (· < ·)->(v.foldl jO l).Pairwise (· < ·)
 |[],_,h=>h
 |x::v,l,h=>NV (v:=v) (Vh h)
theorem Ns:∀{v l:List Int},(v.foldl jO l).length<=l.length+v.length
 |[],_=>Nat.le_refl _
 |x::v,l=>by
   have h1:=Ns (v:=v) (l:=jO l x)
   have h2:=Nr (l:=l) (x:=x)
   simp only[List.foldl_cons,List.length_cons]; omega
theorem Ui(v:List Int):v.foldl jO []=Lib.compact (v.mergeSort fun x y=>decide (x<=y)):=by
 have hs:(v.mergeSort fun x y=>decide (x<=y)).Pairwise (· <= ·):=by
   have:=List.pairwise_mergeSort (le:=fun x y:Int=>decide (x<=y)) (fun a b c h1 h2=>by simp only[decide_eq_true_eq]at*; omega) (fun a b=>by simp only[Bool.or_eq_true,decide_eq_true_eq]; omega) v
   exact this.imp fun h=>by simpa using h
 obtain⟨c1,c2⟩:=Td hs
 exact Ot (NV (by simp)) c1 fun x=>by rw[GI,c2,List.mem_mergeSort]; simp
theorem Gx(x:Int)(l:List Int):um l x=some (decide (x∈l)):=by
 unfold um
 generalize 0=k
 induction l generalizing k with
 |nil=>rfl
 |cons y l ih=>
   unfold xu
   by_cases h:y=x
   · subst h; simp
   · rw[if_neg (by simpa using h),ih]
     congr 1
     simp only[List.mem_cons,decide_eq_decide]
     exact⟨.inr,fun h'=>h'.elim (fun e=>absurd e.symm h) id⟩
theorem De(l:List Int)(x:Int)(hl:l.length<4294967296):∀(m i:Nat)(c:List Int)(b:Bool),i<=l.length->l.length-i<m->c.length+(l.length-i)+(bif b then 0 else 1)<4294967296->vD l x m c b (i:Int)=some (if b then c++l.drop i else c++lZ x (l.drop i))
 |0,_,_,_,_,hm,_=>by omega
 |m+1,i,c,b,hi,hm,h=>by
   unfold vD
   by_cases hlt:i<l.length
   · obtain⟨y,t,hg,hd,ht⟩:∃y t,ix l (i:Int)=some y/\l.drop i=y::t/\l.drop (i+1)=t:=⟨_,_,by rw[lU,List.getElem?_eq_getElem hlt],List.drop_eq_getElem_cons hlt,rfl⟩
     have hw:IntKind.i64.wrap ((i:Int)+1)=((i+1:Nat):Int):=by rw[eP (by omega) (by omega)]; rfl
     rw[if_pos (by simp only[decide_eq_true_eq]; omega)]
     simp only[hg,Option.bind_some,hw]
     cases b
     · simp only[cond_false]at h
       by_cases hx:x<y
       · simp only[Bool.not_false,cond_true,hx,decide_true,if_true,Option.bind_some]
         rw[vP (by simp; omega),Option.bind_some,vP (by simp; omega),Option.bind_some,Option.bind_some]
         dsimp only
         rw[De l x hl m (i+1) _ _ hlt (by omega) (by simp; omega),ht,hd]
         simp[lZ,hx]
       · simp only[Bool.not_false,cond_true,hx,decide_false,Bool.false_eq_true,if_false,Option.bind_some]
         rw[vP (by simp; omega),Option.bind_some,Option.bind_some]
         dsimp only
         rw[De l x hl m (i+1) _ _ hlt (by omega) (by simp; omega),ht,hd]
         simp[lZ,hx]
     · simp only[cond_true]at h
       simp only[Bool.not_true,cond_false,Bool.false_eq_true,if_false,Option.bind_some]
       rw[vP (by simp; omega),Option.bind_some,Option.bind_some]
       dsimp only
       rw[De l x hl m (i+1) _ _ hlt (by omega) (by simp; omega),ht,hd]
       simp
   · have hd:l.drop i=[]:=List.drop_eq_nil_of_le (by omega)
     rw[if_neg (by simp only[decide_eq_true_eq]; omega),hd]
     cases b
     · simp only[cond_false]at h
       rw[if_pos (show (!false)=true from rfl),vP (by simp; omega),if_neg (by simp)]; rfl
     · simp
theorem TW(l:List Int)(x:Int)(h:l.length+1<4294967296):Aa l x=some (jO l x):=by
 unfold Aa jO
 rw[Gx,Option.bind_some]
 by_cases hx:x∈l
 · rw[if_pos (by simpa using hx),if_pos hx]
 · rw[if_neg (by simpa using hx),if_neg hx]
   have:=De l x (by omega) (((l.length:Int)-0).toNat+2) 0 [] false (by omega) (by omega) (by simpa using h)
   rw[show ((0:Nat):Int)=0 from rfl]at this
   rw[this]
   simp
theorem Vi{v:List Int}(h:v.Pairwise (· < ·))(lo:Int)(n:Nat)(hb:∀x∈v,lo<=x/\x<lo+n):v.length<=n:=by
 induction v generalizing lo n with
 |nil=>simp
 |cons x v ih=>
   rw[List.pairwise_cons]at h
   have hx:=hb x (by simp)
   have:=ih h.2 (x+1) (n-(x+1-lo).toNat) (fun y hy=>by
     have a:=h.1 y hy
     have b:=hb y (by simp[hy])
     omega)
   simp only[List.length_cons]; omega
theorem DX:∀(o:Option Int)(l:List Int),gT (fun _=>true) (fun y x=>decide (x<=y)) o l=true↔(∀y,o=some y-> ∀x∈l,y<x)/\l.Pairwise (· < ·)
 |o,[]=>by cases o<;>simp[gT]
 |none,x::l=>by
   rw[gT,Bool.true_and,DX (some x) l,List.pairwise_cons]
   simp
 |some y,x::l=>by
   rw[gT,Bool.and_eq_true,Bool.and_eq_true,DX (some x) l,List.pairwise_cons]
   simp only[List.mem_cons,forall_eq_or_imp,Option.some.injEq,forall_eq',Bool.not_eq_true',decide_eq_false_iff_not,Int.not_le,true_and]
   constructor
   · rintro⟨b,d,e⟩
     exact⟨⟨b,fun z hz=>Int.lt_trans b (d z hz)⟩,d,e⟩
   · rintro⟨⟨b,_⟩,d,e⟩
     exact⟨b,d,e⟩
theorem TI{s:List Int}{m:Method}(h:iU s m=true):m.Inputs.length<=3:=by
 simp only[iU,Bool.and_eq_true,List.all_eq_true]at h
 obtain⟨h1,-,-,-,h2,h3⟩:=h
 have h4:=((DX none _).1 h2).2
 have h5:=kD h1
 refine Vi h4 0 3 fun x hx=>?_
 have:=h3 x hx
 simp only[ax,Bool.and_eq_true,decide_eq_true_eq]at this
 omega
theorem Te(n:Int):zM n=some (ax 0 9 n):=rfl
theorem MI(t:Int):xN t=some (ax 10 17 t):=rfl
theorem MJ(t:Int):xO t=some (ax 10 17 t):=rfl
def fO(t:Int):Bool:=ax 0 9 t||ax 10 17 t
theorem Mv(t:Int):vJ t=some (fO t):=by
 rw[vJ,iR,Option.bind_some,MI,fO]
 cases ax 0 9 t<;>rfl
theorem TJ(t:Int):zY t=some (fO t):=by
 rw[zY,Te,Option.bind_some,MJ,fO]
 cases ax 0 9 t<;>rfl
theorem LX(l:List Int):xx l=some (l.all fO):=by
 unfold xx CO CS
 rw[nk (L:=wS) (f:=zq) (p:=fun x=>!fO x) (fun k=>rfl) (fun x r k=>rfl) l 0 (fun x _=>by rw[zq,TJ]; rfl),Option.bind_some,nA,Option.bind_some]
 simp[List.all_eq_not_any_not]
def lD(s:List Int)(a:aW):Bool:=eY s a.Rel&&(((a.Terms.length:Int)==gG s a.Rel)&&a.Terms.all fO)
theorem TK(s:List Int)(a:aW)(hs:s.length<4294967296):zU s a=some (lD s a):=by
 have hL:vw a.Terms 0=some (a.Terms.all fO):=by
   have:=zR (L:=vw) (f:=vJ) (p:=fO) (e:=true) (fun k=>rfl) (fun x r k=>rfl) a.Terms 0 (fun x _=>Mv x)
   rw[this]; simp
 unfold zU lD
 rw[zk,Option.bind_some]
 cases h1:jX s
 · simp[eY,h1]
 rw[iR,Option.bind_some,eP (by omega) (by omega)]
 cases h2:ax 0 ((s.length:Int)-1) a.Rel
 · simp[eY,h1,h2]
 have hh:eY s a.Rel=true:=by simp[eY,h1,h2]
 rw[(kD hh).1,hL,hh]
 by_cases e:(a.Terms.length:Int)=gG s a.Rel
 · simp[e]
 · simp[e]
theorem TL(s:List Int)(a:aW)(hs:s.length<4294967296):zZ s a=some (lD s a):=by
 unfold zZ lD
 rw[Dh _ _ hs,Option.bind_some]
 cases hh:eY s a.Rel
 · rfl
 rw[(kD hh).1,LX]
 cases e:((a.Terms.length:Int)==gG s a.Rel)<;>simp[e]
def gH(p:Int->Bool)(l:List aW):List Int:=((l.flatMap (·.Terms)).filter p).foldl jO []
def dx(l:List aW):Nat:=(l.flatMap (·.Terms)).length
theorem Uj{p:Int->Bool}{v l:List Int}:((v.filter p).foldl jO l).length<=l.length+v.length:=by
 have h1:=Ns (v:=v.filter p) (l:=l)
 have h2:=List.length_filter_le p v
 omega
theorem Sr(x:aW)(hx:x.Terms.length<4294967296):∀(m i:Nat)(c:List Int),i<=x.Terms.length->x.Terms.length-i<m->c.length+(x.Terms.length-i)<4294967295->tL x m c (i:Int)=some (((x.Terms.drop i).filter (ax 10 17)).foldl jO c):=by
 intro m
 induction m with
 |zero=>intro i c _ h _; omega
 |succ m ih=>
   intro i c hi hm hc
   unfold tL
   by_cases hlt:i<x.Terms.length
   · rw[if_pos (by simpa using hlt),lU,List.getElem?_eq_getElem hlt,Option.bind_some,MI,Option.bind_some,List.drop_eq_getElem_cons hlt,List.filter_cons]
     cases hp:(ax 10 17) x.Terms[i]
     · rw[if_neg (by simp),Option.bind_some,if_neg (by simp)]
       dsimp only
       rw[show IntKind.i64.wrap ((i:Int)+1)=((i+1:Nat):Int)from by rw[eP (by omega) (by omega)]; rfl,ih (i+1) _ (by omega) (by omega) (by omega)]
     · have:=Nr (l:=c) (x:=x.Terms[i])
       rw[if_pos rfl,Option.bind_some,TW _ _ (by omega),Option.bind_some,Option.bind_some,if_pos rfl]
       dsimp only
       rw[show IntKind.i64.wrap ((i:Int)+1)=((i+1:Nat):Int)from by rw[eP (by omega) (by omega)]; rfl,ih (i+1) _ (by omega) (by omega) (by omega),List.foldl_cons]
   · rw[if_neg (by simpa using hlt),List.drop_eq_nil_of_le (by omega)]; rfl
theorem Lv:∀(l:List aW)(k:Nat)(c:List Int),c.length+dx l<4294967295->vv l k c=some (((l.flatMap (·.Terms)).filter (ax 10 17)).foldl jO c)
 |[],k,c,_=>rfl
 |a::l,k,c,h=>by
   simp only[dx,List.flatMap_cons,List.length_append]at h
   have:=Uj (p:=(ax 10 17)) (v:=a.Terms) (l:=c)
   unfold vv
   have e:tL a (a.Terms.length+2) c 0=some (((a.Terms.drop 0).filter (ax 10 17)).foldl jO c):=Sr a (by omega) _ 0 c (by omega) (by omega) (by omega)
   rw[show ((a.Terms.length:Int)-0).toNat+2=a.Terms.length+2 by omega,e,Option.bind_some]
   dsimp only
   rw[List.drop_zero,Lv l _ _ (by simp only[dx]; omega),List.flatMap_cons,List.filter_append,List.foldl_append]
theorem Gq(q:bG)(h:dx q.Atoms<4294967295):vI q=some (gH (ax 10 17) q.Atoms):=by
 rw[vI,Lv _ _ _ (by simpa using h)]; rfl
theorem Rp(l:List Int)(c:List Int)(h:c.length+l.length<4294967296):sK l 0 c=some (c++l.filter (ax 10 17)):=by
 have:=NR (L:=sK) (P:=fun _=>True) (p:=(ax 10 17)) (g:=fun x:Int=>x) (fun _ _=>rfl) (fun x r k c _ hc=>by
   rw[sK,MJ,Option.bind_some]
   cases (ax 10 17) x
   · rw[if_neg (by simp),if_neg (by simp)]; rfl
   · rw[if_pos rfl,app1 hc,if_pos rfl]; rfl) l 0 c (fun _ _=>trivial) h
 rw[this,List.map_id']
theorem KH:∀(l:List aW)(k:Nat)(c:List Int),c.length+dx l<4294967296->sM l k c=some (Lib.compact ((c++(l.flatMap (·.Terms)).filter (ax 10 17)).mergeSort fun x y=>decide (x<=y)))
 |[],k,c,_=>by simp[sM,FZ,FY]
 |a::l,k,c,h=>by
   simp only[dx,List.flatMap_cons,List.length_append]at h
   have:=List.length_filter_le (ax 10 17) a.Terms
   unfold sM
   rw[Rp a.Terms c (by omega),Option.bind_some]
   dsimp only
   rw[KH l _ _ (by simp only[dx,List.length_append]; omega),List.flatMap_cons,List.filter_append,List.append_assoc]
theorem Mw(q:bG)(h:dx q.Atoms<4294967295):zX q=some (gH (ax 10 17) q.Atoms):=by
 rw[zX,CY,KH _ _ _ (by simp; omega),Option.bind_some,List.nil_append,gH,Ui]
theorem Rk(l:List Int)(v:Int):yY l v=some (wF (fun x=>v==x) l 0):=by
 rw[yY]
 exact nk (L:=wT v) (f:=fun x=>some (v==x)) (p:=fun x=>v==x) (fun _=>rfl) (fun _ _ _=>rfl) l 0 (fun _ _=>rfl)
theorem KG(l:List Int)(v:Int):yX l v=some (decide (v∈l)):=by
 rw[yX,Rk,Option.bind_some,nA]
 congr 1
 rw[Bool.eq_iff_iff]
 simp
def kE(s:List Int)(q:bG):Bool:=q.Atoms.all (lD s)&&(q.Head.all (fun t=>decide (t∈gH (ax 10 17) q.Atoms))&&(jX s&&(ax 1 4 (q.Atoms.length:Int)&&decide ((q.Head.length:Int)<=3))))
theorem R7(s:List Int)(q:bG)(v:List Int):∀(l:List Int)(k:Nat),tH s q v l k=some (l.all (fun t=>decide (t∈v))&&(jX s&&(ax 1 4 (q.Atoms.length:Int)&&decide ((q.Head.length:Int)<=3)))):=by
 intro l
 induction l with
 |nil=>
   intro k
   rw[tH,zk,Option.bind_some,iR]
   cases jX s<;>cases ax 1 4 (q.Atoms.length:Int)<;>rfl
 |cons x l ih=>
   intro k
   rw[tH,Gx,Option.bind_some,ih,List.all_cons]
   cases decide (x∈v)<;>rfl
theorem Me(s:List Int)(q:bG)(hs:s.length<4294967296)(h:dx q.Atoms<4294967295):xA s q=some (kE s q):=by
 have key:∀(l:List aW)(k:Nat),tJ s q l k=some (l.all (lD s)&&(q.Head.all (fun t=>decide (t∈gH (ax 10 17) q.Atoms))&&(jX s&&(ax 1 4 (q.Atoms.length:Int)&&decide ((q.Head.length:Int)<=3))))):=by
   intro l
   induction l with
   |nil=>
     intro k
     rw[tJ,Gq q h,Option.bind_some,R7]
     simp
   |cons x l ih=>
     intro k
     rw[tJ,TK s x hs,Option.bind_some,ih,List.all_cons]
     cases lD s x<;>rfl
 rw[xA,key]; rfl
theorem Tf(s:List Int)(q:bG)(hs:s.length<4294967296)(h:dx q.Atoms<4294967295):zN s q=some (kE s q):=by
 have h1:yL q.Atoms s=some (q.Atoms.any fun a=>!lD s a):=by
   unfold yL CK
   rw[nk (L:=wN s) (f:=fun a=>zB a s) (p:=fun a=>!lD s a) (fun k=>rfl) (fun x r k=>rfl) q.Atoms 0 (fun x _=>by rw[zB,TL s x hs]; rfl),Option.bind_some,nA]
 have h2:uU q.Head (gH (ax 10 17) q.Atoms)=some (q.Head.any fun t=>!decide (t∈gH (ax 10 17) q.Atoms)):=by
   unfold uU yQ
   rw[nk (L:=uT _) (f:=fun t=>vz t (gH (ax 10 17) q.Atoms)) (p:=fun t=>!decide (t∈gH (ax 10 17) q.Atoms)) (fun k=>rfl) (fun x r k=>rfl) q.Head 0 (fun x _=>by rw[vz,KG]; rfl),Option.bind_some,nA]
 unfold zN kE
 rw[LV,Option.bind_some,lT,Option.bind_some,h1,Option.bind_some,vG,Mw q h,Option.bind_some,h2]
 have e1:(q.Atoms.any fun a=>!lD s a)=!(q.Atoms.all (lD s)):=by simp[List.all_eq_not_any_not]
 have e2:(q.Head.any fun t=>!decide (t∈gH (ax 10 17) q.Atoms))=!(q.Head.all fun t=>decide (t∈gH (ax 10 17) q.Atoms)):=by simp[List.all_eq_not_any_not]
 rw[e1,e2]
 cases jX s<;>cases ax 1 4 (q.Atoms.length:Int)<;>cases q.Atoms.all (lD s)<;>cases decide ((q.Head.length:Int)<=3)<;>cases (q.Head.all fun t=>decide (t∈gH (ax 10 17) q.Atoms))<;>rfl
theorem NW:∀{l:List aW},(∀a∈l,a.Terms.length<=3)->dx l<=3*l.length
 |[],_=>by simp[dx]
 |a::l,h=>by
   have h1:=h a (by simp)
   have h2:=NW (l:=l) fun x hx=>h x (by simp[hx])
   simp only[dx,List.flatMap_cons,List.length_append,List.length_cons]at*; omega
theorem TM{p:Int->Bool}{l:List aW}{v:Int}:v∈gH p l↔v∈l.flatMap (·.Terms)/\p v=true:=by
 rw[gH,GI,List.mem_filter]; simp
theorem Vj(s p:List UInt8):∃b,uV s p=some b/\(b=true->p.length<=s.length):=by
 unfold uV
 by_cases h:(p.length:Int)<=(s.length:Int)
 · rw[decide_eq_true h,cond_true,jr (by simp),Option.bind_some,Option.bind_some]
   exact⟨_,rfl,fun _=>by omega⟩
 · rw[decide_eq_false h,cond_false,Option.bind_some]
   exact⟨_,rfl,fun h=>by simp at h⟩
theorem z8(s p:List UInt8):∃r,kR s p=some r/\r.length<=s.length:=by
 unfold kR yR
 obtain⟨b,e,h⟩:=Vj s p
 rw[e,Option.bind_some]
 cases b
 · exact⟨s,rfl,Nat.le_refl _⟩
 · have:=h rfl
   rw[if_pos rfl,jr (by simp; omega),Option.bind_some,Option.bind_some]
   exact⟨_,rfl,by simp⟩
theorem NY(s p:List UInt8)(hl:s.length<=1048576):∃b,qb s p=some b/\(b=true->p.length<=s.length):=by
 unfold qb
 by_cases h:(p.length:Int)<=(s.length:Int)
 · rw[decide_eq_true h,cond_true,eP (by omega) (by omega),jr (by simp; omega),Option.bind_some,Option.bind_some]
   exact⟨_,rfl,fun _=>by omega⟩
 · rw[decide_eq_false h,cond_false,Option.bind_some]
   exact⟨_,rfl,fun h=>by simp at h⟩
theorem UN(s p:List UInt8)(hl:s.length<=1048576):∃r,sJ s p=some r/\r.length<=s.length:=by
 unfold sJ yS
 obtain⟨b,e,h⟩:=NY s p hl
 rw[e,Option.bind_some]
 cases b
 · exact⟨s,rfl,Nat.le_refl _⟩
 · have:=h rfl
   rw[if_pos rfl,eP (by omega) (by omega),jr (by simp; omega),Option.bind_some,Option.bind_some]
   exact⟨_,rfl,by simp⟩
theorem MK(sep:List UInt8):∀(k:Nat)(s:List UInt8),(Lib.splitK sep 0 k s).length<=k+1/\ ∀y∈Lib.splitK sep 0 k s,y.length<=s.length
 |0,s=>by simp[Lib.splitK]
 |k+1,s=>by
   rw[Lib.splitK]
   split
   · simp
   · obtain⟨h1,h2⟩:=MK sep k (s.drop ((Lib.index s sep).toNat+sep.length))
     refine⟨by simp only[List.length_cons]; omega,fun y hy=>?_⟩
     rcases List.mem_cons.1 hy with rfl|hy
     · simp; omega
     · have:=h2 y hy
       simp at this; omega
theorem ng(s:List UInt8)(hl:s.length<=1048576):∃n b,gK s=some (n,b):=by
 unfold gK C_ gP
 rw[if_pos (by omega),Option.bind_some]
 cases h1:(ru s).2
 · exact⟨_,_,rfl⟩
 simp only[Bool.not_true,cond_false,Option.bind_some]
 cases h2:(decide (-999999999<=(ru s).1)&&decide ((ru s).1<=999999999))
 · exact⟨_,_,rfl⟩
 simp only[Bool.and_eq_true,decide_eq_true_eq]at h2
 rw[Bool.not_true,cond_false,y8 _ (by omega),Option.bind_some,Option.bind_some]
 split
 · exact⟨_,_,rfl⟩
 · exact⟨_,_,rfl⟩
theorem Gd:∀(l:List (List UInt8))(k:Nat)(c:List Int),(∀y∈l,y.length<=1048576)->c.length+l.length<4294967295-> ∃v b,mg l k c=some (v,b)
 |[],k,c,_,_=>⟨_,_,rfl⟩
 |y::l,k,c,h,hc=>by
   simp only[List.length_cons]at hc
   obtain⟨n,b,e⟩:=ng y (h y (by simp))
   rw[mg,e,Option.bind_some]
   cases b
   · exact⟨_,_,rfl⟩
   · rw[if_neg (by simp),app1 (by omega),Option.bind_some]
     exact Gd l _ _ (fun x hx=>h x (by simp[hx])) (by simp; omega)
def bH(c:UInt8):List UInt8->List UInt8->List (List UInt8)
 |p,[]=>[p]
 |p,b::l=>if b=c then p::bH c [] l else bH c (p++[b]) l
theorem Ab(c:UInt8):∀(l p:List UInt8),1<=(bH c p l).length/\(bH c p l).length<=l.length+1
 |[],p=>by simp[bH]
 |b::l,p=>by
   unfold bH
   split
   · have:=Ab c l []
     simp only[List.length_cons]; omega
   · have:=Ab c l (p++[b])
     simp only[List.length_cons]; omega
theorem D9(c:UInt8):∀(l p:List UInt8),∀y∈bH c p l,y.length<=p.length+l.length
 |[],p,y,hy=>by simp[bH]at hy; subst hy; simp
 |b::l,p,y,hy=>by
   unfold bH at hy
   simp only[List.length_cons]
   split at hy
   · rcases List.mem_cons.1 hy with rfl|hy
     · omega
     · have:=D9 c l [] y hy
       simp at this; omega
   · have:=D9 c l (p++[b]) y hy
     simp at this; omega
theorem tZ(s:List UInt8)(c:UInt8)(hl:s.length<=1048576):oN s c=some (bH c [] s):=by
 have key:∀(r:List UInt8)(i m:Nat)(out:List (List UInt8))(p:List UInt8),s.drop i=r->i<=s.length->r.length<m->out.length+r.length<4294967290->p.length+r.length<4294967290->tT s c m out p (i:Int)=some (out++bH c p r):=by
   intro r
   induction r with
   |nil=>
     intro i m out p h1 h2 h3 h4 h5
     obtain⟨m,rfl⟩:∃k,m=k+1:=⟨m-1,by omega⟩
     have hi:s.length<=i:=List.drop_eq_nil_iff.1 h1
     rw[tT,if_neg (by simp; omega),app1 (by simp at h4; omega),Option.bind_some,bH]
   |cons b r ih=>
     intro i m out p h1 h2 h3 h4 h5
     simp only[List.length_cons]at h3 h4 h5
     obtain⟨m,rfl⟩:∃k,m=k+1:=⟨m-1,by omega⟩
     have hg:s[i]?=some b:=by
       have:(s.drop i)[0]?=some b:=by rw[h1]; rfl
       simpa using this
     have hlt:=(List.getElem?_eq_some_iff.1 hg).1
     have hd:s.drop (i+1)=r:=by rw[←List.drop_drop,h1]; rfl
     have hw:IntKind.i64.wrap ((i:Int)+1)=((i+1:Nat):Int):=by rw[eP (by omega) (by omega)]; rfl
     rw[tT,if_pos (by simp; omega),lU,hg,Option.bind_some,hw]
     unfold bH
     by_cases h:b=c
     · subst h
       rw[if_pos (by simp),app1 (by omega),Option.bind_some,Option.bind_some]
       dsimp only
       rw[ih (i+1) m _ _ hd (by omega) (by omega) (by simp; omega) (by simp; omega),if_pos rfl,List.append_assoc]; rfl
     · have hne:¬ ((b.toNat:Int)==(c.toNat:Int))=true:=by
         rw[beq_iff_eq]; intro e
         exact h (UInt8.toNat_inj.1 (by omega))
       have hsl:(s.take ((i+1:Nat):Int).toNat).drop ((i:Nat):Int).toNat=[b]:=by
         rw[Int.toNat_natCast,Int.toNat_natCast,List.take_add_one,hg,List.drop_append_of_le_length (by simp; omega)]
         simp
       rw[if_neg hne,jr (by simp; omega),Option.bind_some,hsl,d_ (by simp; omega),Option.bind_some,Option.bind_some]
       dsimp only
       rw[ih (i+1) m _ _ hd (by omega) (by omega) (by omega) (by simp; omega),if_neg h]
 exact key s 0 (((s.length:Int)-0).toNat+2) [] [] rfl (by omega) (by omega) (by simp; omega) (by simp; omega)
theorem Nt(n:Int):-9223372036854775808<=IntKind.i64.wrap n/\IntKind.i64.wrap n<=9223372036854775807:=by
 unfold IntKind.wrap
 simp only[IntKind.bits,IntKind.signed]
 simp
 split<;>omega
theorem y5(s:List UInt8)(hl:s.length<=1048576):∀(m i:Nat)(c1 c2:Int),i<=s.length->s.length-i<m-> -9223372036854775808<=c1/\c1<=9223372036854775807-> ∃n b,oG s 20 m c1 c2 (i:Int)=some (n,b)
 |0,_,_,_,_,h,_=>by omega
 |m+1,i,c1,c2,hi,hm,hc=>by
   rw[oG]
   split
   · rename_i hlt
     simp only[Bool.and_eq_true,decide_eq_true_eq]at hlt
     have hi':i<s.length:=by omega
     have hw:IntKind.i64.wrap ((i:Int)+1)=((i+1:Nat):Int):=by rw[eP (by omega) (by omega)]; rfl
     rw[lU,List.getElem?_eq_getElem hi',hw]
     simp only[Option.bind_some]
     cases decide ((48:Int)<=(s[i].toNat:Int))
     · simp only[cond_false,Option.bind_some,Bool.false_eq_true,if_false]
       exact y5 s hl m (i+1) c1 c2 (by omega) (by omega) hc
     · simp only[cond_true,Option.bind_some]
       split
       · simp only[Option.bind_some]
         exact y5 s hl m (i+1) _ _ (by omega) (by omega) (Nt _)
       · simp only[Option.bind_some]
         exact y5 s hl m (i+1) c1 c2 (by omega) (by omega) hc
   · have fin:∀x:Int,-9223372036854775808<=x/\x<=9223372036854775807-> ∃n b,((bif (decide ((9:Int)<c2))then (some true)
           else (bif (decide ((10:Int)<(s.length:Int)))then (some true)
             else ((fF 20 x).bind fun kr=>
               some (!(kr==s))))).bind fun ku=>if ku then some ((0:Int),false)else some (x,true))=some (n,b):=fun x hx=>by
       rw[R4 19 x hx (by omega) (by omega)]
       cases decide ((9:Int)<c2)
       · cases decide ((10:Int)<(s.length:Int))
         · simp only[cond_false,Option.bind_some]
           split
           · exact⟨_,_,rfl⟩
           · exact⟨_,_,rfl⟩
         · exact⟨_,_,rfl⟩
       · exact⟨_,_,rfl⟩
     have tail:∀o:Bool,∃n b,((some o:Option Bool).bind fun uM=>if uM then (
         (bif (decide ((9:Int)<c2))then (some true)
           else (bif (decide ((10:Int)<(s.length:Int)))then (some true)
             else ((fF 20 (IntKind.i64.wrap (-c1))).bind fun kr=>
               some (!(kr==s))))).bind fun ku=>if ku then some ((0:Int),false)else some ((IntKind.i64.wrap (-c1)),true))
       else (
         (bif (decide ((9:Int)<c2))then (some true)
           else (bif (decide ((10:Int)<(s.length:Int)))then (some true)
             else ((fF 20 c1).bind fun uN=>
               some (!(uN==s))))).bind fun jF=>if jF then some (0,false)else some (c1,true)))=some (n,b):=fun o=>by
       cases o
       · rw[Option.bind_some,if_neg (by simp)]; exact fin c1 hc
       · rw[Option.bind_some,if_pos rfl]; exact fin _ (Nt _)
     cases s with
     |nil=>exact tail false
     |cons b l=>
       have hx:ix (b::l) 0=some b:=rfl
       rw[hx]
       have hp:decide ((0:Int)<((b::l).length:Int))=true:=by simp
       rw[hp,cond_true,Option.bind_some]
       exact tail _
theorem ML(s:List UInt8)(hl:s.length<=1048576):∃n,jW 20 s=some n:=by
 obtain⟨n,b,e⟩:=y5 s hl (((s.length:Int)-0).toNat+2) 0 0 0 (by omega) (by omega) (by omega)
 have e':oL 20 s=some (n,b):=e
 rw[jW,e',Option.bind_some]
 cases b
 · exact⟨_,rfl⟩
 · exact⟨_,rfl⟩
theorem GQ{c:UInt8}:∀(x p t:List UInt8),c∉x->bH c p (x++t)=bH c (p++x) t
 |[],p,t,_=>by simp
 |b::x,p,t,h=>by
   rw[List.cons_append,bH,if_neg (fun e=>h (by simp[e])),GQ x _ t (fun hx=>h (by simp[hx]))]
   simp
theorem Nu{c:UInt8}:∀(r:List (List UInt8))(p:List UInt8),(∀y∈r,c∉y)->bH c p (Lib.joinTail [c] r)=p::r
 |[],p,_=>rfl
 |y::r,p,h=>by
   have e:Lib.joinTail [c] (y::r)=c::(y++Lib.joinTail [c] r):=by simp[Lib.joinTail]
   rw[e,bH,if_pos rfl,GQ y [] _ (h y (by simp)),List.nil_append,Nu r y fun z hz=>h z (by simp[hz])]
theorem qx{c:UInt8}{A:List (List UInt8)}(hA:A≠[])(h:∀y∈A,c∉y):bH c [] (Lib.join A [c])=A:=by
 cases A with
 |nil=>exact absurd rfl hA
 |cons x r=>rw[Lib.join_cons,GQ x [] _ (h x (by simp)),List.nil_append,Nu r x fun z hz=>h z (by simp[hz])]
theorem NZ(sep:List UInt8):∀l:List UInt8,Lib.index l sep= -1\/ ∃i:Nat,i+sep.length<=l.length/\Lib.index l sep=(i:Int)
 |[]=>by
   rw[Lib.index]
   cases sep with
   |nil=>exact .inr ⟨0,by simp,rfl⟩
   |cons a b=>exact .inl rfl
 |b::l=>by
   rw[Lib.index]
   split
   · rename_i h
     exact .inr ⟨0,by have:=(List.isPrefixOf_iff_prefix.1 h).length_le; omega,rfl⟩
   · rcases NZ sep l with h|⟨i,h1,h2⟩
     · exact .inl (by rw[h]; rfl)
     · refine .inr ⟨i+1,by simp; omega,?_⟩
       rw[h2,if_neg (by simp)]; rfl
theorem N7(w sep:List UInt8)(hl:w.length<=1048576):∃h r b,tF w sep=some (h,r,b)/\h.length<=w.length/\r.length<=w.length:=by
 unfold tF yV yU
 rw[if_pos (by omega),Option.bind_some]
 rcases NZ sep w with h|⟨i,h1,h2⟩
 · rw[h,if_neg (by simp)]
   exact⟨w,[],false,rfl,by omega,by simp⟩
 · rw[h2,if_pos (by simp)]
   have e:IntKind.i64.wrap ((i:Int)+(sep.length:Int))=((i+sep.length:Nat):Int):=by
     rw[eP (by omega) (by omega)]; simp
   rw[e,jr (by simp; omega),Option.bind_some,jr (by simp; omega),Option.bind_some,Option.bind_some]
   exact⟨_,_,_,rfl,by simp; omega,by simp⟩
theorem DK(x:UInt8)(t r:List UInt8):∀h:List UInt8,x∉h->Lib.index (h++(x::t)++r) (x::t)=(h.length:Int)
 |[],_=>by
   rw[List.nil_append,List.cons_append,Lib.index,if_pos]
   · rfl
   · rw[List.isPrefixOf_iff_prefix,←List.cons_append]; exact List.prefix_append _ _
 |b::h,hx=>by
   have hb:x≠b:=fun e=>hx (by simp[e])
   have ih:=DK x t r h fun e=>hx (by simp[e])
   rw[List.cons_append,List.cons_append,Lib.index,if_neg,ih,if_neg]
   · simp
   · simp
   · simp[List.isPrefixOf,hb]
theorem N8(x:UInt8)(t h r:List UInt8)(hx:x∉h)(hl:(h++(x::t)++r).length<=1048576):tF (h++(x::t)++r) (x::t)=some (h,r,true):=by
 unfold tF yV yU
 rw[if_pos (by omega),Option.bind_some,DK x t r h hx,if_pos (by simp)]
 simp only[List.length_append]at hl
 have e:IntKind.i64.wrap ((h.length:Int)+((x::t).length:Int))=((h.length+(x::t).length:Nat):Int):=by
   rw[eP (by omega) (by omega)]; simp
 rw[e,jr (by simp; omega),Option.bind_some,jr (by simp; omega),Option.bind_some,Option.bind_some]
 simp only[Int.toNat_natCast]
 rw[List.append_assoc,List.take_left,←List.append_assoc,show h.length+(x::t).length=(h++(x::t)).length by simp,List.drop_left]
theorem Uk(s sep:List UInt8)(h1:1<=sep.length):Lib.count s sep<=s.length:=by
 have h:=Lib.countB_le ⟨sep.toArray⟩ (by rw[qz]; exact h1) s.length ⟨s.toArray⟩ (by rw[qz]; exact Nat.le_refl _)
 rw[qz]at h
 have e:Lib.countB ⟨s.toArray⟩ ⟨sep.toArray⟩=Lib.count s sep:=by
   show Lib.count (⟨s.toArray⟩:ByteArray).data.toList (⟨sep.toArray⟩:ByteArray).data.toList=_
   rw[vN,vN]
 omega
theorem uh(s sep:List UInt8)(h1:1<=sep.length)(hl:s.length<=1048576):lS s sep=some (Lib.split s sep)/\(Lib.split s sep).length<=s.length+1/\ ∀y∈Lib.split s sep,y.length<=s.length:=by
 have hc:=Uk s sep h1
 obtain⟨h2,h3⟩:=MK sep (Lib.count s sep) s
 have h2':(Lib.split s sep).length<=Lib.count s sep+1:=h2
 refine⟨?_,by omega,h3⟩
 unfold lS CV
 rw[if_pos ⟨rfl,rfl,by omega,h1,by omega⟩]; rfl
theorem Nv(x:UInt8)(t:List UInt8):∀h:List UInt8,x∉h->Lib.index h (x::t)= -1
 |[],_=>rfl
 |b::h,hx=>by
   have hb:x≠b:=fun e=>hx (by simp[e])
   rw[Lib.index,if_neg (by simp[List.isPrefixOf,hb]),Nv x t h fun e=>hx (by simp[e])]; rfl
theorem Mx(x:UInt8)(t:List UInt8):∀(r:List (List UInt8))(y:List UInt8)(k:Nat),x∉y->(∀z∈r,x∉z)->r.length<=k->Lib.splitK (x::t) 0 k (y++Lib.joinTail (x::t) r)=y::r
 |[],y,k,hy,_,_=>by
   rw[show Lib.joinTail (x::t) []=[]from rfl,List.append_nil]
   cases k with
   |zero=>rfl
   |succ k=>rw[Lib.splitK,Nv x t y hy,if_pos (by rfl)]
 |z::r,y,0,_,_,h=>by simp at h
 |z::r,y,k+1,hy,hr,h=>by
   have e:y++Lib.joinTail (x::t) (z::r)=y++(x::t)++(z++Lib.joinTail (x::t) r):=by
     simp[Lib.joinTail]
   rw[e,Lib.splitK,DK x t _ y hy,if_neg (by simp)]
   simp only[Int.toNat_natCast,Nat.add_zero]
   rw[List.append_assoc,List.take_left,←List.append_assoc,show y.length+(x::t).length=(y++(x::t)).length by simp,List.drop_left]
   rw[Mx x t r z k (hr z (by simp)) (fun w hw=>hr w (by simp[hw])) (by simpa using h)]
theorem Lx(x:UInt8)(t:List UInt8):∀(r:List (List UInt8))(y:List UInt8)(k:Nat),x∉y->(∀z∈r,x∉z)->r.length<=k->r.length<=Lib.countFrom (x::t) k (y++Lib.joinTail (x::t) r)
 |[],_,_,_,_,_=>by simp
 |z::r,y,0,_,_,h=>by simp at h
 |z::r,y,k+1,hy,hr,h=>by
   have e:y++Lib.joinTail (x::t) (z::r)=y++(x::t)++(z++Lib.joinTail (x::t) r):=by
     simp[Lib.joinTail]
   rw[e,Lib.countFrom,DK x t _ y hy,if_neg (by simp)]
   simp only[Int.toNat_natCast]
   rw[show y.length+(x::t).length=(y++(x::t)).length by simp,List.drop_left]
   have:=Lx x t r z k (hr z (by simp)) (fun w hw=>hr w (by simp[hw])) (by simpa using h)
   simp only[List.length_cons]; omega
theorem Mf(sep:List UInt8)(h1:1<=sep.length):∀r:List (List UInt8),r.length<=(Lib.joinTail sep r).length
 |[]=>by simp
 |z::r=>by
   have:=Mf sep h1 r
   have e:Lib.joinTail sep (z::r)=sep++z++Lib.joinTail sep r:=by simp[Lib.joinTail]
   rw[e]; simp; omega
theorem tQ(x:UInt8)(t:List UInt8)(y:List UInt8)(r:List (List UInt8))(hy:x∉y)(hr:∀z∈r,x∉z):Lib.split (Lib.join (y::r) (x::t)) (x::t)=y::r:=by
 rw[Lib.join_cons]
 refine Mx x t r y _ hy hr ?_
 have:=Mf (x::t) (by simp) r
 exact Lx x t r y _ hy hr (by simp; omega)
theorem Vk(p r:List UInt8):uV (p++r) p=some true:=by
 unfold uV
 rw[decide_eq_true (by simp; omega),cond_true,jr (by simp),Option.bind_some,Option.bind_some]
 simp
theorem GJ(p r:List UInt8):kR (p++r) p=some r:=by
 unfold kR yR
 rw[Vk,Option.bind_some,if_pos rfl,jr (by simp; omega),Option.bind_some,Option.bind_some]
 simp
theorem N9(p r:List UInt8)(hl:(r++p).length<=1048576):uX (r++p) p=some true:=by
 unfold uX qb
 have e:IntKind.i64.wrap (((r++p).length:Int)-(p.length:Int))=(r.length:Int):=by
   simp only[List.length_append]at*
   rw[eP (by omega) (by omega)]; omega
 rw[decide_eq_true (by simp; omega),cond_true,e,jr (by simp; omega),Option.bind_some,Option.bind_some]
 simp
theorem UO(p r:List UInt8)(hl:(r++p).length<=1048576):sJ (r++p) p=some r:=by
 have h:=N9 p r hl
 unfold uX at h
 have h':qb (r++p) p=some true:=by
   cases hh:qb (r++p) p with
   |none=>rw[hh]at h; cases h
   |some b=>rw[hh]at h; exact h
 unfold sJ yS
 have e:IntKind.i64.wrap (((r++p).length:Int)-(p.length:Int))=(r.length:Int):=by
   simp only[List.length_append]at*
   rw[eP (by omega) (by omega)]; omega
 rw[h',Option.bind_some,if_pos rfl,e,jr (by simp; omega),Option.bind_some,Option.bind_some]
 simp
def O4(n:Nat):Bool:=decide (gK (Lib.itoa n)=some ((n:Int),true))&&(decide (oL 20 (Lib.itoa n)=some ((n:Int),true))&&(decide (fF 20 (n:Int)=some (Lib.itoa n))&&((Lib.itoa n).all (fun c=>decide (48<=c.toNat)&&decide (c.toNat<=57))&&(decide (1<=(Lib.itoa n).length)&&decide ((Lib.itoa n).length<=3)))))
theorem Vl:(List.range 101).all O4=true:=by decide+kernel
theorem iZ{n:Int}(h:0<=n/\n<=100):gK (Lib.itoa n)=some (n,true)/\oL 20 (Lib.itoa n)=some (n,true)/\fF 20 n=some (Lib.itoa n)/\(∀c∈Lib.itoa n,48<=c.toNat/\c.toNat<=57)/\1<=(Lib.itoa n).length/\(Lib.itoa n).length<=3:=by
 obtain⟨k,rfl⟩:=Int.eq_ofNat_of_zero_le h.1
 have h1:=List.all_eq_true.1 Vl k (List.mem_range.2 (by omega))
 simp only[O4,Bool.and_eq_true,decide_eq_true_eq,List.all_eq_true]at h1
 exact h1
theorem Vm:(List.range 10).all (fun n=>bB n==Lib.itoa n)=true:=by decide+kernel
theorem lV{n:Int}(h:0<=n/\n<=9):bB n=Lib.itoa n:=by
 obtain⟨k,rfl⟩:=Int.eq_ofNat_of_zero_le h.1
 have h1:=List.all_eq_true.1 Vm k (List.mem_range.2 (by omega))
 simpa using h1
theorem oO{n:Int}(h:0<=n/\n<=100){c:UInt8}(hc:c.toNat<48\/57<c.toNat):c∉Lib.itoa n:=fun hm=>by
 have:=(iZ h).2.2.2.1 c hm
 omega
theorem Df:∀(l:List Int)(k:Nat)(c:List Int),(∀x∈l,0<=x/\x<=100)->c.length+l.length<4294967295->mg (l.map Lib.itoa) k c=some (c++l,true)
 |[],k,c,_,_=>by simp[mg]
 |x::l,k,c,h,hc=>by
   simp only[List.length_cons]at hc
   rw[List.map_cons,mg,(iZ (h x (by simp))).1,Option.bind_some,if_neg (by simp),app1 (by omega),Option.bind_some,Df l _ _ (fun y hy=>h y (by simp[hy])) (by simp; omega)]
   simp
theorem LA(w:List UInt8)(hl:w.length<=1048576):∃n ws b,tX [114] w=some (n,ws,b)/\(∀y∈ws,y.length<=1048576)/\ws.length<=1048577:=by
 unfold tX
 obtain⟨h,r,b,e1,l1,l2⟩:=N7 w [40] hl
 obtain⟨t,e2,l3⟩:=z8 h [114]
 obtain⟨n,b2,e3⟩:=ng t (by omega)
 obtain⟨b3,e4,-⟩:=NY r [41] (by omega)
 obtain⟨u,e5,l5⟩:=UN r [41] (by omega)
 obtain⟨e6,l6,l7⟩:=uh u [44] (by simp) (by omega)
 rw[e1,Option.bind_some,e2,Option.bind_some,e3,Option.bind_some,uX,e4]
 dsimp only
 have key:∀o:Bool,∃n' ws b',((if o then some ((0:Int),([]:List (List UInt8)),false)else (sJ r [41]).bind fun gM=>if (gM==[])then some (n,[],true)else (lS gM [44]).bind fun gD=>some (n,gD,true)):Option (Int×List (List UInt8)×Bool))=some (n',ws,b')/\(∀y∈ws,y.length<=1048576)/\ws.length<=1048577:=by
   intro o
   cases o
   · rw[if_neg (by simp),e5,Option.bind_some]
     split
     · exact⟨_,_,_,rfl,by simp,by simp⟩
     · rw[e6,Option.bind_some]
       exact⟨_,_,_,rfl,fun y hy=>by have:=l7 y hy; omega,by omega⟩
   · exact⟨_,_,_,rfl,by simp,by simp⟩
 cases b
 · exact key true
 cases b2
 · exact key true
 cases b3
 · exact key true
 · exact key false
theorem LY{n:Int}(hn:0<=n/\n<=9)(y:List UInt8)(A:List (List UInt8))(hy:y≠[])(kQ:∀z∈y::A,(44:UInt8)∉z)(hl:([114]++bB n++[40]++Lib.join (y::A) [44]++[41]).length<=1048576):tX [114] ([114]++bB n++[40]++Lib.join (y::A) [44]++[41])=some (n,y::A,true):=by
 have hd:=lV hn
 have e:[114]++bB n++[40]++Lib.join (y::A) [44]++[41]=([114]++bB n)++((40:UInt8)::[])++(Lib.join (y::A) [44]++[41]):=by simp
 have hb:Lib.join (y::A) [44]≠[]:=by
   rw[Lib.join_cons]; intro h; exact hy (List.append_eq_nil_iff.1 h).1
 have hl2:(Lib.join (y::A) [44]++[41]).length<=1048576:=by simp only[List.length_append]at*; omega
 have qa:(40:UInt8)∉[114]++bB n:=by
   rw[hd]; intro h
   rcases List.mem_append.1 h with h|h
   · simp at h
   · exact oO ⟨hn.1,by omega⟩ (.inl (by decide)) h
 rw[e]at hl ⊢
 unfold tX
 rw[N8 40 [] _ _ qa hl,Option.bind_some]
 dsimp only
 rw[GJ,Option.bind_some,hd,(iZ ⟨hn.1,by omega⟩).1,Option.bind_some]
 simp only[Bool.not_true,cond_false]
 rw[N9 [41] _ hl2,Option.bind_some,Option.bind_some]
 rw[if_neg (by simp),UO [41] _ hl2,Option.bind_some,if_neg (by simpa using hb),(uh _ [44] (by simp) (by simp only[List.length_append]at hl2; omega)).1,tQ 44 [] y A (kQ y (by simp)) fun z hz=>kQ z (by simp[hz])]
 rfl
def PF{X:Type}(ok:X->Bool)(fmt:X->List UInt8)(z:X)(text:List UInt8)(a:Option (X×Bool)):Prop:=
 ∃(c:Bool)(f:X),a=some (if c&&(ok f&&(fmt f==text))then (f,true)else (z,false))/\ ∀g,ok g=true->fmt g=text->c=true/\f=g
theorem Ou{X:Type}{ok:X->Bool}{fmt:X->List UInt8}{z:X}{text:List UInt8}{a:Option (X×Bool)}(h:PF ok fmt z text a):(∃g,ok g=true/\fmt g=text/\a=some (g,true))\/((¬ ∃g,ok g=true/\fmt g=text)/\a=some (z,false)):=by
 obtain⟨c,f,e,u⟩:=h
 by_cases hg:∃g,ok g=true/\fmt g=text
 · obtain⟨g,h1,h2⟩:=hg
   obtain⟨rfl,rfl⟩:=u g h1 h2
   exact .inl ⟨f,h1,h2,by rw[e,h1,if_pos (by simp[h2])]⟩
 · refine .inr ⟨hg,?_⟩
   rw[e,if_neg]
   intro hc
   simp only[Bool.and_eq_true,beq_iff_eq]at hc
   exact hg ⟨f,hc.2⟩
theorem DY{X:Type}{ok:X->Bool}{fmt:X->List UInt8}{z:X}{text:List UInt8}{a b:Option (X×Bool)}(ha:PF ok fmt z text a)(hb:PF ok fmt z text b):a=b/\ ∃r,a=some r:=by
 rcases Ou ha with⟨g,h1,h2,e⟩|⟨h,e⟩<;>rcases Ou hb with⟨g',h1',h2',e'⟩|⟨h',e'⟩
 · obtain⟨c,f,-,u⟩:=ha
   have:=(u g h1 h2).2.symm.trans (u g' h1' h2').2
   subst this
   exact⟨e.trans e'.symm,_,e⟩
 · exact absurd ⟨g,h1,h2⟩ h'
 · exact absurd ⟨g',h1',h2'⟩ h
 · exact⟨e.trans e'.symm,_,e⟩
theorem M4{s:List Int}{f:Fact}(h:nJ s f=true):(0<=f.Rel/\f.Rel<=2)/\(1<=f.Values.length/\f.Values.length<=3)/\(∀x∈f.Values,0<=x/\x<=9)/\nK f=[114]++bB f.Rel++[40]++Lib.join (f.Values.map bB) [44]++[41]:=by
 simp only[nJ,Bool.and_eq_true,beq_iff_eq,List.all_eq_true]at h
 obtain⟨h1,h2,h3⟩:=h
 have h4:=kD h1
 have h5:0<=f.Rel/\f.Rel<=2:=by
   simp only[eY,ax,Bool.and_eq_true,decide_eq_true_eq]at h1
   have:=(Gm h1.1).1
   omega
 have h6:∀x∈f.Values,0<=x/\x<=9:=fun x hx=>by simpa only[ax,Bool.and_eq_true,decide_eq_true_eq]using h3 x hx
 refine⟨h5,by omega,h6,?_⟩
 unfold nK
 rw[if_pos]
 simp only[DW,Bool.and_eq_true,ax,decide_eq_true_eq,List.all_eq_true]
 exact⟨h5,by omega,fun x hx=>h6 x hx⟩
theorem DL{l:List Int}(h:∀x∈l,0<=x/\x<=9):l.map bB=l.map Lib.itoa:=List.map_congr_left fun x hx=>lV (h x hx)
theorem uo{l:List Int}(h:∀x∈l,0<=x/\x<=9){c:UInt8}(hc:c.toNat<48\/57<c.toNat):∀z∈l.map bB,c∉z:=fun z hz=>by
 obtain⟨x,hx,rfl⟩:=List.mem_map.1 hz
 rw[lV (h x hx)]
 exact oO (by have:=h x hx; omega) hc
theorem Su(s:List Int)(hs:s.length<4294967296)(text:List UInt8)(hl:text.length<=1048576):PF (nJ s) nK {Rel:=0,Values:=[]} text (xk s text):=by
 obtain⟨n,ws,b1,e1,l1,l2⟩:=LA text hl
 obtain⟨v,b2,e2⟩:=Gd ws 0 [] l1 (by simp; omega)
 refine⟨b1&&b2,{Rel:=n,Values:=v},?_,?_⟩
 · unfold xk tV
   rw[e1,Option.bind_some]
   dsimp only
   rw[e2,Option.bind_some]
   cases b1
   · rfl
   cases b2
   · rfl
   simp only[Bool.not_true,cond_false]
   rw[TH _ _ hs,Option.bind_some]
   cases h:nJ s {Rel:=n,Values:=v}
   · rfl
   · rw[Bool.not_true,cond_false,R6,Option.bind_some,Option.bind_some]
     cases h2:(nK {Rel:=n,Values:=v}==text)<;>simp
 · intro g h1 h2
   obtain⟨g1,g2,g3,g4⟩:=M4 h1
   rw[←h2,g4]at e1 hl
   obtain⟨y,A,hA⟩:∃y A,g.Values=y::A:=by
     cases hv:g.Values with
     |nil=>rw[hv]at g2; simp at g2
     |cons y A=>exact⟨y,A,rfl⟩
   have kQ:=uo g3 (c:=44) (.inl (by decide))
   rw[hA,List.map_cons]at e1 hl kQ
   rw[LY ⟨g1.1,by omega⟩ _ _ (by simp[bB]) kQ hl]at e1
   cases e1
   rw[←List.map_cons,←hA,DL g3,Df g.Values 0 [] (fun x hx=>by have:=g3 x hx; omega) (by simp; omega)]at e2
   cases e2
   exact⟨rfl,rfl⟩
theorem YM{u:UInt8}{n:Nat}(hn:n<256)(h:u≠UInt8.ofNat n):((u.toNat:Int)==(n:Int))=false:=by
 rw[beq_eq_false_iff_ne]
 intro e
 apply h
 have:u.toNat=n:=by omega
 rw[←this]; simp
theorem LB(N B:List UInt8)(qa:(40:UInt8)∉N)(hl:(N++[40]++B++[41]).length<=1048576):∀(m i:Nat),i<=N.length->N.length-i<m->oJ (N++[40]++B++[41]) m (i:Int)=some (N,bH 44 [] B)
 |0,_,_,hm=>by omega
 |m+1,i,hi,hm=>by
   have hl':=hl
   simp only[List.length_append,List.length_cons,List.length_nil]at hl'
   have hL:(N++[40]++B++[41]).length=N.length+1+B.length+1:=by simp; omega
   unfold oJ
   rw[if_pos (by rw[hL]; simp only[decide_eq_true_eq]; omega),lU]
   by_cases hlt:i<N.length
   · have e1:(N++[40]++B++[41])[i]?=some N[i]:=by
       rw[List.append_assoc,List.append_assoc,List.getElem?_append_left hlt,List.getElem?_eq_getElem hlt]
     have hne:N[i]≠UInt8.ofNat 40:=fun e=>qa (by have:=List.getElem_mem hlt; rw[e]at this; exact this)
     have hb:=YM (n:=40) (by decide) hne
     rw[e1,Option.bind_some]
     rw[show ((N[i].toNat:Int)==40)=false from hb,cond_false,Option.bind_some]
     dsimp only
     rw[if_neg (by simp),eP (by omega) (by omega),show (i:Int)+1=((i+1:Nat):Int) by omega]
     exact LB N B qa hl m (i+1) hlt (by omega)
   · obtain rfl:i=N.length:=by omega
     have e1:(N++[40]++B++[41])[N.length]?=some 40:=by
       rw[List.append_assoc,List.append_assoc,List.getElem?_append_right (Nat.le_refl _)]; simp
     have e2:IntKind.i64.wrap (((N++[40]++B++[41]).length:Int)-1)=((N.length+1+B.length:Nat):Int):=by
       rw[hL,eP (by omega) (by omega)]; omega
     have e3:(N++[40]++B++[41])[N.length+1+B.length]?=some 41:=by
       rw[List.getElem?_append_right (by simp; omega)]
       simp[show N.length+1+B.length-(N.length+(B.length+1))=0 by omega]
     have e4:IntKind.i64.wrap ((N.length:Int)+1)=((N.length+1:Nat):Int):=by rw[eP (by omega) (by omega)]; omega
     rw[e1,Option.bind_some]
     rw[show (((40:UInt8).toNat:Int)==40)=true from rfl,cond_true,e2,lU,e3,Option.bind_some]
     rw[show (some (((41:UInt8).toNat:Int)==41))=some true from rfl,Option.bind_some]
     dsimp only
     rw[if_pos rfl,jr (by rw[hL]; simp; omega),Option.bind_some,e4,jr (by rw[hL]; simp; omega),Option.bind_some]
     simp only[Int.toNat_natCast]
     have e5:(N++[40]++B++[41]).take (N.length+1+B.length)=N++[40]++B:=by
       rw[show N.length+1+B.length=(N++[40]++B).length by simp; omega,List.take_left]
     have e6:(N++[40]++B).drop (N.length+1)=B:=by
       rw[show N.length+1=(N++[40]).length by simp,List.drop_left]
     have e7:(N++[40]++B++[41]).take N.length=N:=by
       rw[List.append_assoc,List.append_assoc,List.take_left]
     rw[e5,e6,e7,tZ B 44 (by omega)]; rfl
theorem MB(N B:List UInt8)(qa:(40:UInt8)∉N)(hl:(N++[40]++B++[41]).length<=1048576):xH (N++[40]++B++[41])=some (N,bH 44 [] B):=
 LB N B qa hl _ 0 (by omega) (by simp; omega)
theorem LC(T:List UInt8)(hl:T.length<=1048576):∀(m i:Nat),i<=T.length->T.length-i<m-> ∃h ws,oJ T m (i:Int)=some (h,ws)/\h.length<=T.length/\(∀y∈ws,y.length<=1048576)/\ws.length<=T.length+1
 |0,_,_,hm=>by omega
 |m+1,i,hi,hm=>by
   unfold oJ
   by_cases hlt:i<T.length
   · have e2:IntKind.i64.wrap ((T.length:Int)-1)=((T.length-1:Nat):Int):=by rw[eP (by omega) (by omega)]; omega
     rw[if_pos (by simp only[decide_eq_true_eq]; omega),lU,List.getElem?_eq_getElem hlt,Option.bind_some]
     have next:∃h ws,oJ T m (IntKind.i64.wrap ((i:Int)+1))=some (h,ws)/\h.length<=T.length/\(∀y∈ws,y.length<=1048576)/\ws.length<=T.length+1:=by
       rw[eP (by omega) (by omega),show (i:Int)+1=((i+1:Nat):Int) by omega]
       exact LC T hl m (i+1) hlt (by omega)
     cases h1:((T[i].toNat:Int)==40)
     · exact next
     · rw[cond_true,e2,lU,List.getElem?_eq_getElem (show T.length-1<T.length by omega),Option.bind_some,Option.bind_some]
       dsimp only
       cases h2:((T[T.length-1].toNat:Int)==41)
       · exact next
       · have hne:i≠T.length-1:=by
           rintro rfl
           rw[beq_iff_eq]at h1 h2
           omega
         rw[if_pos rfl,jr (by simp; omega),Option.bind_some,eP (by omega) (by omega),show (i:Int)+1=((i+1:Nat):Int) by omega,jr (by simp; omega),Option.bind_some]
         simp only[Int.toNat_natCast]
         have hB:((T.take (T.length-1)).drop (i+1)).length<=T.length:=by simp; omega
         rw[tZ _ 44 (by omega),Option.bind_some]
         have h3:=Ab 44 ((T.take (T.length-1)).drop (i+1)) []
         refine⟨_,_,rfl,by simp; omega,fun y hy=>?_,by have:=h3.2; simp at this ⊢; omega⟩
         have:=D9 44 _ _ y hy
         simp only[List.length_nil]at this; omega
   · rw[if_neg (by simp only[decide_eq_true_eq]; omega)]
     exact⟨_,_,rfl,by simp,by simp,by simp⟩
theorem MC(T:List UInt8)(hl:T.length<=1048576):∃h ws,xH T=some (h,ws)/\h.length<=T.length/\(∀y∈ws,y.length<=1048576)/\ws.length<=T.length+1:=
 LC T hl _ 0 (by omega) (by omega)
theorem zG(s:List UInt8)(hl:s.length<=1048576):∃n,nC 20 s=some n:=by
 unfold nC
 by_cases h:(s.length:Int)<2
 · rw[decide_eq_true h]; exact⟨_,rfl⟩
 · rw[decide_eq_false h,cond_false,show (0:Int)=((0:Nat):Int)from rfl,lU,List.getElem?_eq_getElem (show 0<s.length by omega),Option.bind_some,Option.bind_some]
   dsimp only
   split
   · exact⟨_,rfl⟩
   · obtain⟨n,e⟩:=ML (s.drop ((1:Int)).toNat) (by simp; omega)
     rw[jr (by simp; omega),Option.bind_some,e]
     exact⟨_,rfl⟩
theorem Vn:(List.range 10).all (fun n=>decide (nC 20 ([114]++Lib.itoa n)=some (n:Int)))=true:=by decide+kernel
theorem zH{n:Int}(h:0<=n/\n<=9):nC 20 ([114]++bB n)=some n:=by
 rw[lV h]
 obtain⟨k,rfl⟩:=Int.eq_ofNat_of_zero_le h.1
 have h1:=List.all_eq_true.1 Vn k (List.mem_range.2 (by omega))
 simpa using h1
def nS(y:List UInt8):Int:=(jW 20 y).getD 0
theorem t_{y:List UInt8}(h:y.length<=1048576):jW 20 y=some (nS y):=by
 obtain⟨n,e⟩:=ML y h
 unfold nS; rw[e]; rfl
theorem D_{n:Int}(h:0<=n/\n<=100):nS (Lib.itoa n)=n:=by
 unfold nS jW
 rw[(iZ h).2.1]; rfl
theorem G6{l:List Int}(h:∀x∈l,0<=x/\x<=9):(l.map bB).map nS=l:=by
 rw[DL h,List.map_map]
 conv=>rhs; rw[←List.map_id l]
 exact List.map_congr_left fun x hx=>D_ (by have:=h x hx; omega)
theorem KW(s:List Int)(hs:s.length<4294967296)(text:List UInt8)(r:Int):∀(ws:List (List UInt8))(k:Nat)(c:List Int),(∀y∈ws,y.length<=1048576)->c.length+ws.length<4294967295->tu s text 20 r ws k c=some (if (nJ s {Rel:=r,Values:=c++ws.map nS}&&(nK {Rel:=r,Values:=c++ws.map nS}==text))then (({Rel:=r,Values:=c++ws.map nS}:Fact),true)else ({Rel:=0,Values:=[]},false))
 |[],k,c,_,_=>by
   unfold tu
   rw[List.map_nil,List.append_nil,TG _ _ hs,Option.bind_some]
   cases h:nJ s {Rel:=r,Values:=c}
   · rfl
   · rw[Bool.not_true,cond_false,R5 (by decide),Option.bind_some,Option.bind_some]
     cases h2:(nK {Rel:=r,Values:=c}==text)<;>simp
 |y::ws,k,c,h,hc=>by
   simp only[List.length_cons]at hc
   unfold tu
   rw[t_ (h y (by simp)),Option.bind_some,app1 (by omega),Option.bind_some,KW s hs text r ws _ _ (fun z hz=>h z (by simp[hz])) (by simp; omega)]
   simp
theorem Sw(s:List Int)(hs:s.length<4294967296)(text:List UInt8)(hl:text.length<=1048576):PF (nJ s) nK {Rel:=0,Values:=[]} text (xg 20 s text):=by
 obtain⟨N,ws,e1,l0,l1,l2⟩:=MC text hl
 obtain⟨n,e2⟩:=zG N (by omega)
 refine⟨true,{Rel:=n,Values:=ws.map nS},?_,?_⟩
 · unfold xg
   rw[e1,Option.bind_some]
   dsimp only
   rw[e2,Option.bind_some,KW s hs text n ws 0 [] l1 (by simp; omega)]
   simp
 · intro g h1 h2
   obtain⟨g1,g2,g3,g4⟩:=M4 h1
   rw[←h2,g4]at e1 hl
   have qa:(40:UInt8)∉[114]++bB g.Rel:=by
     rw[lV ⟨g1.1,by omega⟩]; intro h
     rcases List.mem_append.1 h with h|h
     · simp at h
     · exact oO ⟨g1.1,by omega⟩ (.inl (by decide)) h
   rw[MB _ _ qa hl]at e1
   cases e1
   rw[zH ⟨g1.1,by omega⟩]at e2
   cases e2
   rw[qx (by intro h; rw[List.map_eq_nil_iff]at h; rw[h]at g2; simp at g2) (uo g3 (.inl (by decide))),G6 g3]
   exact⟨rfl,rfl⟩
def o5(r:eU):List UInt8:=Lib.join [[114]++bB r.From,[103,105,118,101,115],[114]++bB r.To,Lib.join (r.Map.map bB) [44]] [32]
theorem Dp{s:List Int}{r:Int}(h:eY s r=true):0<=r/\r<=2:=by
 simp only[eY,ax,Bool.and_eq_true,decide_eq_true_eq]at h
 have:=(Gm h.1).1
 omega
theorem zP{s:List Int}{r:eU}(h:lC s r=true):(0<=r.From/\r.From<=2)/\(0<=r.To/\r.To<=2)/\(1<=r.Map.length/\r.Map.length<=3)/\ ∀x∈r.Map,0<=x/\x<=2:=by
 simp only[lC,Bool.and_eq_true,beq_iff_eq,List.all_eq_true,ax,decide_eq_true_eq]at h
 obtain⟨h1,h2,h3,h4⟩:=h
 have a1:=kD h1
 have a2:=kD h2
 exact⟨Dp h1,Dp h2,by omega,fun x hx=>by have:=h4 x hx; omega⟩
theorem M5{a b j:List UInt8}(ha:a.length<=1)(hb:b.length<=1)(hj:j.length<=7):(((aO [114] a).bind fun x=>(aO x [32,103,105,118,101,115,32,114]).bind fun y=>(aO y b).bind fun z=>(aO z [32]).bind fun u=>(aO u j).bind fun v=>some v):Option (List UInt8))=some (Lib.join [[114]++a,[103,105,118,101,115],[114]++b,j] [32]):=by
 rw[d_ (by simp; omega),Option.bind_some,d_ (by simp; omega),Option.bind_some,d_ (by simp; omega),Option.bind_some,d_ (by simp; omega),Option.bind_some,d_ (by simp; omega),Option.bind_some]
 simp[Lib.join_cons,Lib.joinTail]
theorem R8{s:List Int}{r:eU}(h:lC s r=true):zn r=some (o5 r):=by
 obtain⟨h1,h2,h3,h4⟩:=zP h
 have p1:ax 0 2 r.From=true:=by simp only[ax,Bool.and_eq_true,decide_eq_true_eq]; omega
 have p2:ax 0 2 r.To=true:=by simp only[ax,Bool.and_eq_true,decide_eq_true_eq]; omega
 have p3:ax 1 3 (r.Map.length:Int)=true:=by simp only[ax,Bool.and_eq_true,decide_eq_true_eq]; omega
 have p4:(r.Map.any fun x=>!ax 0 (3-1) x)=false:=by
   rw[List.any_eq_false]
   intro x hx
   have:=h4 x hx
   simp[ax]; omega
 unfold zn nD wW
 simp only[lT,p1,p2,p3,p4,KD r.Map 3 (by omega),Option.bind_some,Bool.not_true,Bool.not_false,cond_false,Bool.false_eq_true,if_false]
 rw[wX _ (by omega),Option.bind_some,wX _ (by omega),Gp r.Map (fun x hx=>by have:=h4 x hx; omega) h3.2]
 simp only[Option.bind_some]
 exact M5 (by simp[bB]) (by simp[bB]) (xC r.Map h3.2)
theorem KO{r:eU}(h1:0<=r.From/\r.From<=2)(h2:0<=r.To/\r.To<=2)(h3:r.Map.length<=3)(h4:∀x∈r.Map,0<=x/\x<=2):∀(l:List Int)(k:Nat),(∀x∈l,0<=x/\x<=2)->sQ r 20 l k=some (o5 r)
 |[],k,_=>by
   unfold sQ
   rw[u_ (by decide) _ (by omega),Option.bind_some,u_ (by decide) _ (by omega),Gn (by decide) r.Map (fun x hx=>by have:=h4 x hx; omega) h3]
   simp only[Option.bind_some]
   exact M5 (by simp[bB]) (by simp[bB]) (xC r.Map h3)
 |x::l,k,h=>by
   have:=h x (by simp)
   unfold sQ
   rw[iR,Option.bind_some,show ax 0 2 x=true by simp only[ax,Bool.and_eq_true,decide_eq_true_eq]; omega,if_neg (by simp)]
   exact KO h1 h2 h3 h4 l _ fun y hy=>h y (by simp[hy])
theorem R9{s:List Int}{r:eU}(h:lC s r=true):zl 20 r=some (o5 r):=by
 obtain⟨h1,h2,h3,h4⟩:=zP h
 have p1:ax 0 2 r.From=true:=by simp only[ax,Bool.and_eq_true,decide_eq_true_eq]; omega
 have p2:ax 0 2 r.To=true:=by simp only[ax,Bool.and_eq_true,decide_eq_true_eq]; omega
 have p3:ax 1 3 (r.Map.length:Int)=true:=by simp only[ax,Bool.and_eq_true,decide_eq_true_eq]; omega
 unfold zl
 simp only[iR,p1,p2,p3,Option.bind_some,Bool.not_true,cond_false,Bool.false_eq_true,if_false]
 exact KO h1 h2 h3.2 h4 r.Map 0 h4
theorem Dq{s:List Int}{r:eU}(h:lC s r=true):∀z∈[[114]++bB r.From,[103,105,118,101,115],[114]++bB r.To,Lib.join (r.Map.map bB) [44]],(32:UInt8)∉z:=by
 obtain⟨h1,h2,h3,h4⟩:=zP h
 intro z hz
 have d:∀n:Int,0<=n/\n<=2->(32:UInt8)∉[114]++bB n:=fun n hn hm=>by
   rw[lV ⟨hn.1,by omega⟩]at hm
   rcases List.mem_append.1 hm with hm|hm
   · simp at hm
   · exact oO ⟨hn.1,by omega⟩ (.inl (by decide)) hm
 simp only[List.mem_cons,List.not_mem_nil,or_false]at hz
 rcases hz with rfl|rfl|rfl|rfl
 · exact d _ h1
 · decide
 · exact d _ h2
 · intro hm
   have hn:=uo (l:=r.Map) (c:=32) (fun x hx=>by have:=h4 x hx; omega) (.inl (by decide))
   cases hv:r.Map.map bB with
   |nil=>rw[hv]at hm; simp[Lib.join,List.intercalate]at hm
   |cons y A=>
     rw[hv,Lib.join_cons]at hm
     rw[hv]at hn
     rcases List.mem_append.1 hm with hm|hm
     · exact hn y (by simp) hm
     · simp only[Lib.joinTail,List.mem_flatten,List.mem_map]at hm
       obtain⟨w,⟨a,ha,rfl⟩,hw⟩:=hm
       rcases List.mem_append.1 hw with hw|hw
       · simp at hw
       · exact hn a (by simp[ha]) hw
theorem oP{α:Type}(l:List α)(k:Nat)(h:k<l.length):ix l (k:Int)=some l[k]:=by rw[lU,List.getElem?_eq_getElem h]
theorem Sy(s:List Int)(hs:s.length<4294967296)(text:List UInt8)(hl:text.length<=1048576):PF (lC s) o5 {From:=0,To:=0,Map:=[]} text (zz s text):=by
 obtain⟨e1,l1,l2⟩:=uh text [32] (by simp) hl
 unfold zz
 rw[e1,Option.bind_some]
 by_cases h4:(Lib.split text [32]).length=4
 · have jG:∀k (h:k<(Lib.split text [32]).length),(Lib.split text [32])[k].length<=1048576:=fun k h=>Nat.le_trans (l2 _ (List.getElem_mem h)) hl
   obtain⟨t0,f0,q0⟩:=z8 (Lib.split text [32])[0] [114]
   obtain⟨t2,f2,q2⟩:=z8 (Lib.split text [32])[2] [114]
   have r0:=jG 0 (by omega)
   have r2:=jG 2 (by omega)
   have r3:=jG 3 (by omega)
   obtain⟨n0,b0,g0⟩:=ng t0 (by omega)
   obtain⟨n2,b2,g2⟩:=ng t2 (by omega)
   obtain⟨e3,m1,m2⟩:=uh (Lib.split text [32])[3] [44] (by simp) r3
   obtain⟨v,bv,gv⟩:=Gd (Lib.split (Lib.split text [32])[3] [44]) 0 [] (fun y hy=>Nat.le_trans (m2 y hy) r3) (by simp; omega)
   refine⟨true,{From:=n0,To:=n2,Map:=v},?_,?_⟩
   · rw[if_neg (by simp[h4]),show (0:Int)=((0:Nat):Int)from rfl,oP _ 0 (by omega),Option.bind_some,f0,Option.bind_some,g0,Option.bind_some,show (2:Int)=((2:Nat):Int)from rfl,oP _ 2 (by omega),Option.bind_some,f2,Option.bind_some,g2,Option.bind_some,show (3:Int)=((3:Nat):Int)from rfl,oP _ 3 (by omega),Option.bind_some,e3,Option.bind_some,tV,gv,Option.bind_some,TF _ _ hs,Option.bind_some]
     dsimp only
     cases h:lC s {From:=n0,To:=n2,Map:=v}
     · rfl
     · rw[Bool.not_true,cond_false,R8 h,Option.bind_some,Option.bind_some]
       cases h2:(o5 {From:=n0,To:=n2,Map:=v}==text)<;>simp
   · intro g h1 h2
     obtain⟨k1,k2,k3,k4⟩:=zP h1
     have hw:=Dq h1
     have hsp:Lib.split text [32]=[[114]++bB g.From,[103,105,118,101,115],[114]++bB g.To,Lib.join (g.Map.map bB) [44]]:=by
       rw[←h2]; exact tQ 32 [] _ _ (hw _ (by simp)) fun z hz=>hw z (by simp only[List.mem_cons]at hz ⊢; exact .inr hz)
     simp only[hsp,List.getElem_cons_zero,List.getElem_cons_succ]at f0 f2 gv
     rw[GJ]at f0 f2
     cases f0; cases f2
     rw[lV ⟨k1.1,by omega⟩,(iZ ⟨k1.1,by omega⟩).1]at g0
     rw[lV ⟨k2.1,by omega⟩,(iZ ⟨k2.1,by omega⟩).1]at g2
     cases g0; cases g2
     obtain⟨y,A,hA⟩:∃y A,g.Map=y::A:=by
       cases hv:g.Map with
       |nil=>rw[hv]at k3; simp at k3
       |cons y A=>exact⟨y,A,rfl⟩
     have kQ:=uo (l:=g.Map) (c:=44) (fun x hx=>by have:=k4 x hx; omega) (.inl (by decide))
     have hsp2:Lib.split (Lib.join (g.Map.map bB) [44]) [44]=g.Map.map bB:=by
       rw[hA,List.map_cons]at kQ ⊢
       exact tQ 44 [] _ _ (kQ _ (by simp)) fun z hz=>kQ z (by simp only[List.mem_cons]; exact .inr hz)
     rw[hsp2,DL (fun x hx=>by have:=k4 x hx; omega),Df g.Map 0 [] (fun x hx=>by have:=k4 x hx; omega) (by simp; omega)]at gv
     cases gv
     exact⟨rfl,rfl⟩
 · refine⟨false,{From:=0,To:=0,Map:=[]},?_,?_⟩
   · rw[if_pos (by simp only[bne_iff_ne,ne_eq]; omega)]; rfl
   · intro g h1 h2
     have hw:=Dq h1
     refine absurd ?_ h4
     rw[←h2,o5,tQ 32 [] _ _ (hw _ (by simp)) fun z hz=>hw z (by simp only[List.mem_cons]at hz ⊢; exact .inr hz)]
     rfl
theorem KX(s:List Int)(hs:s.length<4294967296)(text:List UInt8)(a b:Int):∀(ws:List (List UInt8))(k:Nat)(c:List Int),(∀y∈ws,y.length<=1048576)->c.length+ws.length<4294967295->sZ s text 20 a b ws k c=some (if (lC s {From:=a,To:=b,Map:=c++ws.map nS}&&(o5 {From:=a,To:=b,Map:=c++ws.map nS}==text))then (({From:=a,To:=b,Map:=c++ws.map nS}:eU),true)else ({From:=0,To:=0,Map:=[]},false))
 |[],k,c,_,_=>by
   unfold sZ
   rw[List.map_nil,List.append_nil,TE _ _ hs,Option.bind_some]
   cases h:lC s {From:=a,To:=b,Map:=c}
   · rfl
   · rw[Bool.not_true,cond_false,R9 h,Option.bind_some,Option.bind_some]
     cases h2:(o5 {From:=a,To:=b,Map:=c}==text)<;>simp
 |y::ws,k,c,h,hc=>by
   simp only[List.length_cons]at hc
   unfold sZ
   rw[t_ (h y (by simp)),Option.bind_some,app1 (by omega),Option.bind_some,KX s hs text a b ws _ _ (fun z hz=>h z (by simp[hz])) (by simp; omega)]
   simp
theorem xX{text:List UInt8}(c:UInt8)(hl:text.length<=1048576):(∀y∈bH c [] text,y.length<=1048576)/\(bH c [] text).length<=1048577:=by
 refine⟨fun y hy=>?_,by have:=(Ab c text []).2; omega⟩
 have:=D9 c _ _ y hy
 simp only[List.length_nil]at this; omega
theorem Sz(s:List Int)(hs:s.length<4294967296)(text:List UInt8)(hl:text.length<=1048576):PF (lC s) o5 {From:=0,To:=0,Map:=[]} text (zu 20 s text):=by
 obtain⟨l2,l1⟩:=xX 32 hl
 unfold zu
 rw[tZ text 32 hl,Option.bind_some]
 by_cases h4:(bH 32 [] text).length=4
 · have jG:∀k (h:k<(bH 32 [] text).length),(bH 32 [] text)[k].length<=1048576:=fun k h=>l2 _ (List.getElem_mem h)
   have r0:=jG 0 (by omega)
   have r2:=jG 2 (by omega)
   have r3:=jG 3 (by omega)
   obtain⟨n0,g0⟩:=zG (bH 32 [] text)[0] r0
   obtain⟨n2,g2⟩:=zG (bH 32 [] text)[2] r2
   obtain⟨m2,m1⟩:=xX 44 r3
   refine⟨true,{From:=n0,To:=n2,Map:=(bH 44 [] (bH 32 [] text)[3]).map nS},?_,?_⟩
   · rw[if_neg (by simp[h4]),show (0:Int)=((0:Nat):Int)from rfl,oP _ 0 (by omega),Option.bind_some,show (2:Int)=((2:Nat):Int)from rfl,oP _ 2 (by omega),Option.bind_some,g0,Option.bind_some,g2,Option.bind_some,show (3:Int)=((3:Nat):Int)from rfl,oP _ 3 (by omega),Option.bind_some,tZ _ 44 r3,Option.bind_some,KX s hs text n0 n2 _ 0 [] m2 (by simp; omega)]
     simp
   · intro g h1 h2
     obtain⟨k1,k2,k3,k4⟩:=zP h1
     have hw:=Dq h1
     have hsp:bH 32 [] text=[[114]++bB g.From,[103,105,118,101,115],[114]++bB g.To,Lib.join (g.Map.map bB) [44]]:=by
       rw[←h2]; exact qx (by simp) hw
     simp only[hsp,List.getElem_cons_zero,List.getElem_cons_succ]at g0 g2 ⊢
     rw[zH ⟨k1.1,by omega⟩]at g0
     rw[zH ⟨k2.1,by omega⟩]at g2
     cases g0; cases g2
     rw[qx (by intro h; rw[List.map_eq_nil_iff]at h; rw[h]at k3; simp at k3) (uo (l:=g.Map) (fun x hx=>by have:=k4 x hx; omega) (.inl (by decide))),G6 (fun x hx=>by have:=k4 x hx; omega)]
     exact⟨trivial,rfl⟩
 · refine⟨false,{From:=0,To:=0,Map:=[]},?_,?_⟩
   · rw[if_pos (by simp only[bne_iff_ne,ne_eq]; omega)]; rfl
   · intro g h1 h2
     have hw:=Dq h1
     refine absurd ?_ h4
     rw[←h2,o5,qx (by simp) hw]
     rfl
theorem kV{α:Type}(l:List α)(i:Int)(k:Nat)(e:i=(k:Int))(h:k<l.length):ix l i=some l[k]:=by subst e; exact oP l k h
def inT(l:List Int):List UInt8:=if l=[]then [102,114,101,101]else Lib.join (l.map bB) [44]
def ja(m:Method):List (List UInt8):=[[114]++bB m.Rel,[105,110],inT m.Inputs,[108,105,109,105,116],Lib.itoa m.Limit,[99,111,115,116],Lib.itoa m.Cost,[113,117,111,116,97],Lib.itoa m.Quota]
def kH(m:Method):List UInt8:=Lib.join (ja m) [32]
theorem ql{s:List Int}{m:Method}(h:iU s m=true):(0<=m.Rel/\m.Rel<=2)/\(0<=m.Limit/\m.Limit<=9)/\(0<=m.Cost/\m.Cost<=99)/\(1<=m.Quota/\m.Quota<=99)/\m.Inputs.length<=3/\(∀x∈m.Inputs,0<=x/\x<=2)/\m.Inputs.Pairwise (· < ·)/\gT (fun _=>true) (fun y x=>decide (x<=y)) none m.Inputs=true:=by
 have hi:=TI h
 simp only[iU,Bool.and_eq_true,List.all_eq_true,ax,decide_eq_true_eq]at h
 obtain⟨h1,h2,h3,h4,h5,h6⟩:=h
 have a1:=kD h1
 exact⟨Dp h1,h2,h3,h4,hi,fun x hx=>by have:=h6 x hx; omega,((DX none _).1 h5).2,h5⟩
theorem Dw{d t a b c:List UInt8}(hd:d.length<=3)(ht:t.length<=7)(ha:a.length<=3)(hb:b.length<=3)(hc:c.length<=3):
   (((aO [114] d).bind fun mY=>(aO mY [32,105,110,32]).bind fun sw=>(aO sw t).bind fun lL=>(aO lL [32,108,105,109,105,116,32]).bind fun x30=>(some a).bind fun Ct=>(aO x30 Ct).bind fun jo=>(aO jo [32,99,111,115,116,32]).bind fun x41=>(some b).bind fun Cu=>(aO x41 Cu).bind fun rZ=>(aO rZ [32,113,117,111,116,97,32]).bind fun lQ=>(some c).bind fun uR=>(aO lQ uR).bind fun Cv=>some Cv):Option (List UInt8))=some (Lib.join [[114]++d,[105,110],t,[108,105,109,105,116],a,[99,111,115,116],b,[113,117,111,116,97],c] [32]):=by
 simp only[Option.bind_some]
 rw[d_ (by simp; omega),Option.bind_some,d_ (by simp; omega),Option.bind_some,d_ (by simp; omega),Option.bind_some,d_ (by simp; omega),Option.bind_some,d_ (by simp; omega),Option.bind_some,d_ (by simp; omega),Option.bind_some,d_ (by simp; omega),Option.bind_some,d_ (by simp; omega),Option.bind_some,d_ (by simp; omega),Option.bind_some]
 simp[Lib.join_cons,Lib.joinTail]
theorem RF{s:List Int}{m:Method}(h:iU s m=true):u7 m=some (kH m):=by
 obtain⟨h1,h2,h3,h4,h5,h6,h7,h8⟩:=ql h
 have p1:ax 0 2 m.Rel=true:=by simp only[ax,Bool.and_eq_true,decide_eq_true_eq]; omega
 have p2:ax 0 9 m.Limit=true:=by simp only[ax,Bool.and_eq_true,decide_eq_true_eq]; omega
 have p3:ax 0 99 m.Cost=true:=by simp only[ax,Bool.and_eq_true,decide_eq_true_eq]; omega
 have p4:ax 1 99 m.Quota=true:=by simp only[ax,Bool.and_eq_true,decide_eq_true_eq]; omega
 have p5:(m.Inputs.any fun x=>!ax 0 (3-1) x)=false:=by
   rw[List.any_eq_false]
   intro x hx
   have:=h6 x hx
   simp[ax]; omega
 have a1:=(iZ (n:=m.Limit) (by omega)).2.2.2.2.2
 have a2:=(iZ (n:=m.Cost) (by omega)).2.2.2.2.2
 have a3:=(iZ (n:=m.Quota) (by omega)).2.2.2.2.2
 unfold u7 nD wZ
 simp only[lT,Mt,p1,p2,p3,p4,p5,h8,Lr _ (show m.Inputs.length<4294967296 by omega),KE m.Inputs 3 (by omega),Option.bind_some,Bool.not_true,Bool.not_false,cond_false,cond_true,Bool.false_eq_true,if_false]
 rw[wX _ (by omega),y8 m.Limit (by omega),y8 m.Cost (by omega),y8 m.Quota (by omega)]
 simp only[Option.bind_some]
 by_cases hn:m.Inputs=[]
 · rw[if_neg (by simp[hn])]
   have:=Dw (d:=bB m.Rel) (t:=[102,114,101,101]) (by simp[bB]) (by simp) a1 a2 a3
   simp only[Option.bind_some]at this
   rw[this,kH,ja,inT,if_pos hn]
 · have hl:0<m.Inputs.length:=List.length_pos_iff.2 hn
   rw[if_pos (by simp only[decide_eq_true_eq]; omega),Gp m.Inputs (fun x hx=>by have:=h6 x hx; omega) h5,Option.bind_some]
   have:=Dw (d:=bB m.Rel) (t:=Lib.join (m.Inputs.map bB) [44]) (by simp[bB]) (xC _ h5) a1 a2 a3
   simp only[Option.bind_some]at this
   rw[this,kH,ja,inT,if_neg hn]
theorem KI{m:Method}(h1:0<=m.Rel/\m.Rel<=2)(h2:0<=m.Limit/\m.Limit<=9)(h3:0<=m.Cost/\m.Cost<=99)(h4:1<=m.Quota/\m.Quota<=99)(h5:m.Inputs.length<=3)(h6:∀x∈m.Inputs,0<=x/\x<=2)(h7:m.Inputs.Pairwise (· < ·)):∀(l pre:List Int),m.Inputs=pre++l->qc m 20 l pre.length=some (kH m)
 |[],pre,_=>by
   have a1:=(iZ (n:=m.Limit) (by omega)).2.2
   have a2:=(iZ (n:=m.Cost) (by omega)).2.2
   have a3:=(iZ (n:=m.Quota) (by omega)).2.2
   unfold qc
   rw[u_ (by decide) m.Rel (by omega),a1.1,a2.1,a3.1]
   simp only[Option.bind_some]
   by_cases hn:m.Inputs=[]
   · rw[if_neg (by simp[hn])]
     have:=Dw (d:=bB m.Rel) (t:=[102,114,101,101]) (by simp[bB]) (by simp) a1.2.2.2 a2.2.2.2 a3.2.2.2
     simp only[Option.bind_some]at this
     rw[this,kH,ja,inT,if_pos hn]
   · have hl:0<m.Inputs.length:=List.length_pos_iff.2 hn
     rw[if_pos (by simp only[decide_eq_true_eq]; omega),Gn (by decide) m.Inputs (fun x hx=>by have:=h6 x hx; omega) h5,Option.bind_some]
     have:=Dw (d:=bB m.Rel) (t:=Lib.join (m.Inputs.map bB) [44]) (by simp[bB]) (xC _ h5) a1.2.2.2 a2.2.2.2 a3.2.2.2
     simp only[Option.bind_some]at this
     rw[this,kH,ja,inT,if_neg hn]
 |x::l,pre,e=>by
   have hx:=h6 x (by rw[e]; simp)
   have hml:m.Inputs.length=pre.length+(l.length+1):=by rw[e]; simp
   unfold qc
   rw[iR,Option.bind_some,show ax 0 2 x=true by simp only[ax,Bool.and_eq_true,decide_eq_true_eq]; omega,Bool.not_true,cond_false]
   have next:qc m 20 l (pre.length+1)=some (kH m):=by
     have:=KI h1 h2 h3 h4 h5 h6 h7 l (pre++[x]) (by rw[e]; simp)
     simpa using this
   by_cases hp:0<pre.length
   · have hlt:pre.length-1<m.Inputs.length:=by omega
     have ey:m.Inputs[pre.length-1]=pre[pre.length-1]:=by
       simp only[e]; rw[List.getElem_append_left]
     have hy:pre[pre.length-1]<x:=by
       rw[e,List.pairwise_append]at h7
       exact h7.2.2 _ (List.getElem_mem _) x (by simp)
     rw[decide_eq_true (by omega),cond_true,eP (by omega) (by omega),show (pre.length:Int)-1=((pre.length-1:Nat):Int) by omega,oP _ _ hlt,Option.bind_some,ey,show decide (x<=pre[pre.length-1])=false from decide_eq_false (by omega),Option.bind_some]
     exact next
   · rw[decide_eq_false (by omega),cond_false,Option.bind_some]
     exact next
theorem RG{s:List Int}{m:Method}(h:iU s m=true):wV 20 m=some (kH m):=by
 obtain⟨h1,h2,h3,h4,h5,h6,h7,h8⟩:=ql h
 have p1:ax 0 2 m.Rel=true:=by simp only[ax,Bool.and_eq_true,decide_eq_true_eq]; omega
 have p2:ax 0 9 m.Limit=true:=by simp only[ax,Bool.and_eq_true,decide_eq_true_eq]; omega
 have p3:ax 0 99 m.Cost=true:=by simp only[ax,Bool.and_eq_true,decide_eq_true_eq]; omega
 have p4:ax 1 99 m.Quota=true:=by simp only[ax,Bool.and_eq_true,decide_eq_true_eq]; omega
 unfold wV
 simp only[iR,p1,p2,p3,p4,Option.bind_some,Bool.not_true,cond_false,Bool.false_eq_true,if_false]
 exact KI h1 h2 h3 h4 h5 h6 h7 m.Inputs [] rfl
theorem GR{c:UInt8}{A:List (List UInt8)}(h:∀z∈A,c∉z){d:UInt8}(hd:c≠d):c∉Lib.join A [d]:=by
 cases A with
 |nil=>simp[Lib.join,List.intercalate]
 |cons y A=>
   rw[Lib.join_cons]
   intro hm
   rcases List.mem_append.1 hm with hm|hm
   · exact h y (by simp) hm
   · simp only[Lib.joinTail,List.mem_flatten,List.mem_map]at hm
     obtain⟨w,⟨a,ha,rfl⟩,hw⟩:=hm
     rcases List.mem_append.1 hw with hw|hw
     · simp at hw; exact hd hw
     · exact h a (by simp[ha]) hw
theorem Mg{s:List Int}{m:Method}(h:iU s m=true):∀z∈ja m,(32:UInt8)∉z:=by
 obtain⟨h1,h2,h3,h4,h5,h6,-⟩:=ql h
 intro z hz
 simp only[ja,List.mem_cons,List.not_mem_nil,or_false]at hz
 rcases hz with rfl|rfl|rfl|rfl|rfl|rfl|rfl|rfl|rfl
 · intro hm
   rw[lV ⟨h1.1,by omega⟩]at hm
   rcases List.mem_append.1 hm with hm|hm
   · simp at hm
   · exact oO ⟨h1.1,by omega⟩ (.inl (by decide)) hm
 · decide
 · unfold inT
   split
   · decide
   · exact GR (uo (l:=m.Inputs) (fun x hx=>by have:=h6 x hx; omega) (.inl (by decide))) (by decide)
 · decide
 · exact oO (by omega) (.inl (by decide))
 · decide
 · exact oO (by omega) (.inl (by decide))
 · decide
 · exact oO (by omega) (.inl (by decide))
theorem Nw{l:List Int}(h:∀x∈l,0<=x/\x<=9)(hn:l≠[]):inT l≠[102,114,101,101]:=by
 unfold inT
 rw[if_neg hn]
 cases l with
 |nil=>exact absurd rfl hn
 |cons x l=>
   rw[List.map_cons,Lib.join_cons]
   intro e
   have h1:=(iZ (n:=x) (by have:=h x (by simp); omega)).2.2.2.1
   rw[lV (h x (by simp))]at e
   have hl:=(iZ (n:=x) (by have:=h x (by simp); omega)).2.2.2.2.1
   cases hi:Lib.itoa x with
   |nil=>rw[hi]at hl; simp at hl
   |cons c r=>
     rw[hi]at e h1
     have:=h1 c (by simp)
     simp only[List.cons_append,List.cons.injEq]at e
     rw[e.1]at this
     simp at this
theorem LD:∀(l:List (List UInt8))(k:Nat)(c:List Int),(∀y∈l,y.length<=1048576)->c.length+l.length<4294967295-> ∃v b,mg l k c=some (v,b)/\v.length<=c.length+l.length
 |[],k,c,_,_=>⟨_,_,rfl,by simp⟩
 |y::l,k,c,h,hc=>by
   simp only[List.length_cons]at hc
   obtain⟨n,b,e⟩:=ng y (h y (by simp))
   rw[mg,e,Option.bind_some]
   cases b
   · exact⟨_,_,rfl,by simp⟩
   · rw[if_neg (by simp),app1 (by omega),Option.bind_some]
     obtain⟨v,b,e2,h2⟩:=LD l (k+1) (c++[n]) (fun x hx=>h x (by simp[hx])) (by simp; omega)
     exact⟨v,b,e2,by simp at h2 ⊢; omega⟩
theorem w4:IntKind.i64.wrap ((IntKind.i64.wrap (2*0))+4)=((4:Nat):Int):=by decide
theorem w6:IntKind.i64.wrap ((IntKind.i64.wrap (2*(IntKind.i64.wrap (0+1))))+4)=((6:Nat):Int):=by decide
theorem w8:IntKind.i64.wrap ((IntKind.i64.wrap (2*(IntKind.i64.wrap ((IntKind.i64.wrap (0+1))+1))))+4)=((8:Nat):Int):=by decide
theorem KP{s:List Int}(hs:s.length<4294967296)(text:List UInt8)(n0:Int)(b0:Bool)(v:List Int)(hv:v.length<4294967296)(n4 n6 n8:Int):(((bif (!b0)then (some true)
         else ((vE s ({Rel:=n0,Inputs:=v,Limit:=n4,Cost:=n6,Quota:=n8}:Method)).bind fun Cx=>
           bif (!Cx)then (some true)
           else ((u7 ({Rel:=n0,Inputs:=v,Limit:=n4,Cost:=n6,Quota:=n8}:Method)).bind fun sG=>
             some (!(sG==text))))).bind fun Cy=>
       match Cy with
       |c85=>if c85 then (
           some (({Rel:=0,Inputs:=[],Limit:=0,Cost:=0,Quota:=0}:Method),false))
         else (
           some (({Rel:=n0,Inputs:=v,Limit:=n4,Cost:=n6,Quota:=n8}:Method),true))):Option (Method×Bool))=some (if b0&&(iU s {Rel:=n0,Inputs:=v,Limit:=n4,Cost:=n6,Quota:=n8}&&(kH {Rel:=n0,Inputs:=v,Limit:=n4,Cost:=n6,Quota:=n8}==text))then ({Rel:=n0,Inputs:=v,Limit:=n4,Cost:=n6,Quota:=n8},true)else ({Rel:=0,Inputs:=[],Limit:=0,Cost:=0,Quota:=0},false)):=by
 cases b0
 · rfl
 · rw[Bool.not_true,cond_false,SE _ _ hs hv,Option.bind_some]
   cases h:iU s {Rel:=n0,Inputs:=v,Limit:=n4,Cost:=n6,Quota:=n8}
   · rfl
   · rw[Bool.not_true,cond_false,RF h,Option.bind_some,Option.bind_some]
     cases h2:(kH {Rel:=n0,Inputs:=v,Limit:=n4,Cost:=n6,Quota:=n8}==text)<;>simp
theorem RN(s:List Int)(hs:s.length<4294967296)(text:List UInt8)(hl:text.length<=1048576):PF (iU s) kH {Rel:=0,Inputs:=[],Limit:=0,Cost:=0,Quota:=0} text (zf s text):=by
 obtain⟨e1,l1,l2⟩:=uh text [32] (by simp) hl
 unfold zf
 rw[e1,Option.bind_some]
 have hsp:∀g,iU s g=true->kH g=text->Lib.split text [32]=ja g:=fun g h1 h2=>by
   have hw:=Mg h1
   rw[←h2]
   exact tQ 32 [] _ _ (hw _ (by simp[ja])) fun z hz=>hw z (by simp only[ja,List.mem_cons]at hz ⊢; exact .inr hz)
 by_cases h9:(Lib.split text [32]).length=9
 · have jG:∀k (h:k<(Lib.split text [32]).length),(Lib.split text [32])[k].length<=1048576:=fun k h=>Nat.le_trans (l2 _ (List.getElem_mem h)) hl
   obtain⟨t0,f0,q0⟩:=z8 (Lib.split text [32])[0] [114]
   have r0:=jG 0 (by omega)
   have r2:=jG 2 (by omega)
   obtain⟨n0,b0,g0⟩:=ng t0 (by omega)
   obtain⟨n4,b4,g4⟩:=ng _ (jG 4 (by omega))
   obtain⟨n6,b6,g6⟩:=ng _ (jG 6 (by omega))
   obtain⟨n8,b8,g8⟩:=ng _ (jG 8 (by omega))
   have nums:∀g,iU s g=true->Lib.split text [32]=ja g->b0=true/\n0=g.Rel/\n4=g.Limit/\n6=g.Cost/\n8=g.Quota:=fun g h1 hw=>by
     obtain⟨k1,k2,k3,k4,-⟩:=ql h1
     simp only[hw,ja,List.getElem_cons_zero,List.getElem_cons_succ]at f0 g4 g6 g8
     rw[GJ]at f0
     cases f0
     rw[lV ⟨k1.1,by omega⟩,(iZ ⟨k1.1,by omega⟩).1]at g0
     rw[(iZ (by omega)).1]at g4 g6 g8
     cases g0; cases g4; cases g6; cases g8
     exact⟨rfl,rfl,rfl,rfl,rfl⟩
   rw[show (((Lib.split text [32]).length:Int)==9)=true by rw[h9]; rfl,cond_true,kV _ 2 2 rfl (by omega),Option.bind_some,Option.bind_some]
   dsimp only
   by_cases hf:(Lib.split text [32])[2]=[102,114,101,101]
   · refine⟨b0,{Rel:=n0,Inputs:=[],Limit:=n4,Cost:=n6,Quota:=n8},?_,?_⟩
     · rw[if_neg (by simp[hf]),if_neg (by simp),kV _ 0 0 rfl (by omega),Option.bind_some,f0,Option.bind_some,g0,Option.bind_some]
       rw[kV _ _ 4 w4 (by omega),Option.bind_some,g4,Option.bind_some]
       rw[kV _ _ 6 w6 (by omega),Option.bind_some,g6,Option.bind_some]
       rw[kV _ _ 8 w8 (by omega),Option.bind_some,g8,Option.bind_some]
       exact KP hs text n0 b0 [] (by simp) n4 n6 n8
     · intro g h1 h2
       have hw:=hsp g h1 h2
       obtain⟨rfl,rfl,rfl,rfl,rfl⟩:=nums g h1 hw
       obtain⟨-,-,-,-,-,k6,-⟩:=ql h1
       simp only[hw,ja,List.getElem_cons_zero,List.getElem_cons_succ]at hf
       have hn:g.Inputs=[]:=by
         by_cases hn:g.Inputs=[]
         · exact hn
         · exact absurd hf (Nw (fun x hx=>by have:=k6 x hx; omega) hn)
       exact⟨rfl,by rw[←hn]⟩
   · obtain⟨e3,m1,m2⟩:=uh (Lib.split text [32])[2] [44] (by simp) r2
     obtain⟨v,bv,gv,lv⟩:=LD (Lib.split (Lib.split text [32])[2] [44]) 0 [] (fun y hy=>Nat.le_trans (m2 y hy) r2) (by simp; omega)
     refine⟨bv&&b0,{Rel:=n0,Inputs:=v,Limit:=n4,Cost:=n6,Quota:=n8},?_,?_⟩
     · rw[if_pos (by simp[hf]),Option.bind_some,e3,Option.bind_some,tV,gv,Option.bind_some]
       cases bv
       · rfl
       dsimp only
       rw[if_neg (by simp),kV _ 0 0 rfl (by omega),Option.bind_some,f0,Option.bind_some,g0,Option.bind_some]
       rw[kV _ _ 4 w4 (by omega),Option.bind_some,g4,Option.bind_some]
       rw[kV _ _ 6 w6 (by omega),Option.bind_some,g6,Option.bind_some]
       rw[kV _ _ 8 w8 (by omega),Option.bind_some,g8,Option.bind_some]
       exact KP hs text n0 b0 v (by simp at lv; omega) n4 n6 n8
     · intro g h1 h2
       have hw:=hsp g h1 h2
       obtain⟨rfl,rfl,rfl,rfl,rfl⟩:=nums g h1 hw
       obtain⟨-,-,-,-,k5,k6,-⟩:=ql h1
       have CG:∀x∈g.Inputs,0<=x/\x<=9:=fun x hx=>by have:=k6 x hx; omega
       simp only[hw,ja,List.getElem_cons_zero,List.getElem_cons_succ]at hf gv
       have hn:g.Inputs≠[]:=fun hn=>hf (by unfold inT; rw[if_pos hn])
       obtain⟨y,A,hA⟩:=List.exists_cons_of_ne_nil hn
       have kQ:=uo (c:=44) CG (.inl (by decide))
       have hsp2:Lib.split (inT g.Inputs) [44]=g.Inputs.map bB:=by
         unfold inT
         rw[if_neg hn]
         rw[hA,List.map_cons]at kQ ⊢
         exact tQ 44 [] _ _ (kQ _ (by simp)) fun z hz=>kQ z (by simp only[List.mem_cons]; exact .inr hz)
       rw[hsp2,DL CG,Df g.Inputs 0 [] (fun x hx=>by have:=k6 x hx; omega) (by simp; omega)]at gv
       cases gv
       exact⟨rfl,rfl⟩
 · refine⟨false,{Rel:=0,Inputs:=[],Limit:=0,Cost:=0,Quota:=0},?_,?_⟩
   · rw[show (((Lib.split text [32]).length:Int)==9)=false by rw[beq_eq_false_iff_ne]; omega]; rfl
   · intro g h1 h2
     exact absurd (by rw[hsp g h1 h2]; rfl) h9
theorem F3(s:List Int)(hs:s.length<4294967296)(text:List UInt8)(n0 n4 n6 n8:Int):∀(ws:List (List UInt8))(k:Nat)(c:List Int),(∀y∈ws,y.length<=1048576)->c.length+ws.length<4294967295->qd s text 20 n0 n4 n6 n8 ws k c=some (if (iU s {Rel:=n0,Inputs:=c++ws.map nS,Limit:=n4,Cost:=n6,Quota:=n8}&&(kH {Rel:=n0,Inputs:=c++ws.map nS,Limit:=n4,Cost:=n6,Quota:=n8}==text))then (({Rel:=n0,Inputs:=c++ws.map nS,Limit:=n4,Cost:=n6,Quota:=n8}:Method),true)else ({Rel:=0,Inputs:=[],Limit:=0,Cost:=0,Quota:=0},false))
 |[],k,c,_,hc=>by
   unfold qd
   rw[List.map_nil,List.append_nil,SC _ _ hs (by show c.length<_; simp at hc; omega),Option.bind_some]
   cases h:iU s {Rel:=n0,Inputs:=c,Limit:=n4,Cost:=n6,Quota:=n8}
   · rfl
   · rw[Bool.not_true,cond_false,RG h,Option.bind_some,Option.bind_some]
     cases h2:(kH {Rel:=n0,Inputs:=c,Limit:=n4,Cost:=n6,Quota:=n8}==text)<;>simp
 |y::ws,k,c,h,hc=>by
   simp only[List.length_cons]at hc
   unfold qd
   rw[t_ (h y (by simp)),Option.bind_some,app1 (by omega),Option.bind_some,F3 s hs text n0 n4 n6 n8 ws _ _ (fun z hz=>h z (by simp[hz])) (by simp; omega)]
   simp
theorem RO(s:List Int)(hs:s.length<4294967296)(text:List UInt8)(hl:text.length<=1048576):PF (iU s) kH {Rel:=0,Inputs:=[],Limit:=0,Cost:=0,Quota:=0} text (zb 20 s text):=by
 obtain⟨l2,l1⟩:=xX 32 hl
 unfold zb
 rw[tZ text 32 hl,Option.bind_some]
 have hsp:∀g,iU s g=true->kH g=text->bH 32 [] text=ja g:=fun g h1 h2=>by
   rw[←h2]; exact qx (by simp[ja]) (Mg h1)
 by_cases h9:(bH 32 [] text).length=9
 · have jG:∀k (h:k<(bH 32 [] text).length),(bH 32 [] text)[k].length<=1048576:=fun k h=>l2 _ (List.getElem_mem h)
   have r2:=jG 2 (by omega)
   obtain⟨n0,g0⟩:=zG _ (jG 0 (by omega))
   have nums:∀g,iU s g=true->bH 32 [] text=ja g->n0=g.Rel/\nS (bH 32 [] text)[4]=g.Limit/\nS (bH 32 [] text)[6]=g.Cost/\nS (bH 32 [] text)[8]=g.Quota:=fun g h1 hw=>by
     obtain⟨k1,k2,k3,k4,-⟩:=ql h1
     simp only[hw,ja,List.getElem_cons_zero,List.getElem_cons_succ]at g0 ⊢
     rw[zH ⟨k1.1,by omega⟩]at g0
     cases g0
     exact⟨rfl,D_ (by omega),D_ (by omega),D_ (by omega)⟩
   rw[if_neg (by simp[h9]),kV _ 0 0 rfl (by omega),Option.bind_some,kV _ 4 4 rfl (by omega),Option.bind_some,kV _ 6 6 rfl (by omega),Option.bind_some,kV _ 8 8 rfl (by omega),Option.bind_some,g0,Option.bind_some,t_ (jG 4 (by omega)),Option.bind_some,t_ (jG 6 (by omega)),Option.bind_some,t_ (jG 8 (by omega)),Option.bind_some,kV _ 2 2 rfl (by omega),Option.bind_some]
   by_cases hf:(bH 32 [] text)[2]=[102,114,101,101]
   · refine⟨true,{Rel:=n0,Inputs:=[],Limit:=nS (bH 32 [] text)[4],Cost:=nS (bH 32 [] text)[6],Quota:=nS (bH 32 [] text)[8]},?_,?_⟩
     · rw[if_neg (by simp[hf])]
       have:=F3 s hs text n0 (nS (bH 32 [] text)[4]) (nS (bH 32 [] text)[6]) (nS (bH 32 [] text)[8]) [] 0 [] (by simp) (by simp)
       unfold qd at this
       simpa using this
     · intro g h1 h2
       have hw:=hsp g h1 h2
       obtain⟨q1,q2,q3,q4⟩:=nums g h1 hw
       obtain⟨-,-,-,-,-,k6,-⟩:=ql h1
       rw[q1,q2,q3,q4]
       simp only[hw,ja,List.getElem_cons_zero,List.getElem_cons_succ]at hf
       have hn:g.Inputs=[]:=by
         by_cases hn:g.Inputs=[]
         · exact hn
         · exact absurd hf (Nw (fun x hx=>by have:=k6 x hx; omega) hn)
       exact⟨rfl,by rw[←hn]⟩
   · obtain⟨m2,m1⟩:=xX 44 r2
     refine⟨true,{Rel:=n0,Inputs:=(bH 44 [] (bH 32 [] text)[2]).map nS,Limit:=nS (bH 32 [] text)[4],Cost:=nS (bH 32 [] text)[6],Quota:=nS (bH 32 [] text)[8]},?_,?_⟩
     · rw[if_pos (by simp[hf]),Option.bind_some,tZ _ 44 r2,Option.bind_some,F3 s hs text _ _ _ _ _ 0 [] m2 (by simp; omega)]
       simp
     · intro g h1 h2
       have hw:=hsp g h1 h2
       obtain⟨q1,q2,q3,q4⟩:=nums g h1 hw
       obtain⟨-,-,-,-,k5,k6,-⟩:=ql h1
       have CG:∀x∈g.Inputs,0<=x/\x<=9:=fun x hx=>by have:=k6 x hx; omega
       rw[q1,q2,q3,q4]
       simp only[hw,ja,List.getElem_cons_zero,List.getElem_cons_succ]at hf ⊢
       have hn:g.Inputs≠[]:=fun hn=>hf (by unfold inT; rw[if_pos hn])
       have e:inT g.Inputs=Lib.join (g.Inputs.map bB) [44]:=by unfold inT; rw[if_neg hn]
       rw[e,qx (by simpa using hn) (uo CG (.inl (by decide))),G6 CG]
       exact⟨trivial,rfl⟩
 · refine⟨false,{Rel:=0,Inputs:=[],Limit:=0,Cost:=0,Quota:=0},?_,?_⟩
   · rw[if_pos (by simp only[bne_iff_ne,ne_eq]; omega)]; rfl
   · intro g h1 h2
     exact absurd (by rw[hsp g h1 h2]; rfl) h9
def dW(t:Int):List UInt8:=if ax 10 17 t then 120::Lib.itoa (t-10)else Lib.itoa t
def Qf(n:Nat):Bool:=decide (zF n=some (dW n))&&(decide (xI 20 n=some (dW n))&&(decide (oH 20 (dW n)=some (n:Int))&&(((kR (dW n) [120]).bind fun d=>(gK d).bind fun r=>some (r.2&&decide ((if (!(d==dW n))then IntKind.i64.wrap (r.1+10)else r.1)=(n:Int))))==some true&&((dW n).all (fun c=>!(c==44)&&(!(c==40)&&(!(c==41)&&!(c==32))))&&(decide (1<=(dW n).length)&&decide ((dW n).length<=2))))))
theorem VU:(List.range 18).all Qf=true:=by decide+kernel
theorem nL{t:Int}(h:fO t=true):zF t=some (dW t)/\xI 20 t=some (dW t)/\oH 20 (dW t)=some t/\(∃d n,kR (dW t) [120]=some d/\gK d=some (n,true)/\(if d≠dW t then IntKind.i64.wrap (n+10)else n)=t)/\(∀c∈dW t,c≠44/\c≠40/\c≠41/\c≠32)/\1<=(dW t).length/\(dW t).length<=2:=by
 have hr:0<=t/\t<=17:=by
   simp only[fO,ax,Bool.or_eq_true,Bool.and_eq_true,decide_eq_true_eq]at h; omega
 obtain⟨k,rfl⟩:=Int.eq_ofNat_of_zero_le hr.1
 have h1:=List.all_eq_true.1 VU k (List.mem_range.2 (by omega))
 simp only[Qf,Bool.and_eq_true,decide_eq_true_eq,List.all_eq_true,beq_iff_eq,Bool.not_eq_true',beq_eq_false_iff_ne]at h1
 obtain⟨a1,a2,a3,a4,a5,a6,a7⟩:=h1
 refine⟨a1,a2,a3,?_,fun c hc=>a5 c hc,a6,a7⟩
 cases hd:kR (dW (k:Int)) [120]with
 |none=>rw[hd]at a4; cases a4
 |some d=>
   rw[hd,Option.bind_some]at a4
   cases hn:gK d with
   |none=>rw[hn]at a4; cases a4
   |some r=>
     rw[hn,Option.bind_some]at a4
     obtain⟨n,b⟩:=r
     have a4':=Option.some.inj a4
     simp only[Bool.and_eq_true,decide_eq_true_eq]at a4'
     exact⟨d,n,rfl,by rw[hn,a4'.1],a4'.2⟩
def kz(l:List Int):List UInt8:=Lib.join (l.map dW) [44]
theorem vR{l:List Int}(h:∀x∈l,fO x=true):∀z∈l.map dW,(44:UInt8)∉z/\(40:UInt8)∉z/\(41:UInt8)∉z/\(32:UInt8)∉z:=fun z hz=>by
 obtain⟨x,hx,rfl⟩:=List.mem_map.1 hz
 have:=(nL (h x hx)).2.2.2.2.1
 exact⟨fun h=>(this _ h).1 rfl,fun h=>(this _ h).2.1 rfl,fun h=>(this _ h).2.2.1 rfl,fun h=>(this _ h).2.2.2 rfl⟩
theorem xP{l:List Int}(h:∀x∈l,fO x=true)(hl:l.length<=3):(kz l).length<=8:=by
 unfold kz
 cases l with
 |nil=>simp[Lib.join,List.intercalate]
 |cons x l=>
   have h1:=(nL (h x (by simp))).2.2.2.2.2.2
   have key:∀r:List Int,(∀y∈r,fO y=true)->(Lib.joinTail [44] (r.map dW)).length<=3*r.length:=by
     intro r
     induction r with
     |nil=>intro _; simp[Lib.joinTail]
     |cons y r ih=>
       intro hr
       have h2:=(nL (hr y (by simp))).2.2.2.2.2.2
       have h3:=ih fun z hz=>hr z (by simp[hz])
       have e:Lib.joinTail [44] ((y::r).map dW)=[44]++dW y++Lib.joinTail [44] (r.map dW):=by simp[Lib.joinTail]
       rw[e]; simp; omega
   have h2:=key l fun z hz=>h z (by simp[hz])
   rw[List.map_cons,Lib.join_cons,List.length_append]
   simp only[List.length_cons]at hl
   omega
theorem LF{l:List Int}(h:∀x∈l,fO x=true)(hl:l.length<=3):zA l=some (kz l):=by
 have key:∀(r:List Int)(k:Nat)(c:List (List UInt8)),(∀x∈r,fO x=true)->c.length+r.length<=3->(Lib.join (c++r.map dW) [44]).length<=8->tC r k c=some (Lib.join (c++r.map dW) [44]):=by
   intro r
   induction r with
   |nil=>
     intro k c _ hc h8
     rw[tC]
     unfold qg
     rw[List.map_nil,List.append_nil]at h8 ⊢
     rw[if_pos ⟨by simp at hc; omega,by omega⟩]; rfl
   |cons x r ih=>
     intro k c hr hc h8
     simp only[List.length_cons]at hc
     rw[tC,(nL (hr x (by simp))).1,Option.bind_some,app1 (by omega),Option.bind_some,ih _ _ (fun y hy=>hr y (by simp[hy])) (by simp; omega) (by simpa using h8)]
     simp
 exact key l 0 [] h (by simpa using hl) (by simpa[kz]using xP h hl)
theorem Lg:∀(r:List Int)(k:Nat)(c:List UInt8),0<k->(∀x∈r,fO x=true)->c.length+3*r.length<=1000->qi 20 r k c=some (c++Lib.joinTail [44] (r.map dW))
 |[],k,c,_,_,_=>by simp[qi,Lib.joinTail]
 |x::r,k,c,hk,hr,hc=>by
   simp only[List.length_cons]at hc
   have h1:=nL (hr x (by simp))
   have h2:=h1.2.2.2.2.2.2
   unfold qi
   rw[if_pos (by simp only[decide_eq_true_eq]; omega),d_ (by simp; omega),Option.bind_some,h1.2.1,Option.bind_some,d_ (by simp; omega),Option.bind_some,Option.bind_some]
   dsimp only
   rw[Lg r _ _ (by omega) (fun y hy=>hr y (by simp[hy])) (by simp; omega)]
   simp[Lib.joinTail]
theorem Mh{l:List Int}(h:∀x∈l,fO x=true)(hl:l.length<=3):xB 20 l=some (kz l):=by
 unfold xB kz
 cases l with
 |nil=>rfl
 |cons x r=>
   have h1:=nL (h x (by simp))
   have h2:=h1.2.2.2.2.2.2
   simp only[List.length_cons]at hl
   unfold qi
   rw[if_neg (by simp),h1.2.1,Option.bind_some,d_ (by simp; omega),Option.bind_some,Option.bind_some]
   dsimp only
   rw[Lg r _ _ (by omega) (fun y hy=>h y (by simp[hy])) (by simp; omega),List.map_cons,Lib.join_cons]
   simp
def f_(a:aW):Bool:=ax 0 2 a.Rel&&(ax 1 3 (a.Terms.length:Int)&&a.Terms.all fO)
def dB(a:aW):List UInt8:=[114]++bB a.Rel++[40]++kz a.Terms++[41]
def ut(a:aW):List UInt8:=if f_ a then dB a else []
theorem uf{a:aW}(h:f_ a=true):(0<=a.Rel/\a.Rel<=2)/\(1<=a.Terms.length/\a.Terms.length<=3)/\ ∀x∈a.Terms,fO x=true:=by
 simp only[f_,ax,Bool.and_eq_true,decide_eq_true_eq,List.all_eq_true]at h
 exact⟨h.1,by omega,h.2.2⟩
theorem N_{d t:List UInt8}(hd:d.length<=1)(ht:t.length<=8):(((aO [114] d).bind fun x=>(aO x [40]).bind fun y=>(aO y t).bind fun z=>(aO z [41]).bind fun u=>some u):Option (List UInt8))=some ([114]++d++[40]++t++[41]):=by
 rw[d_ (by simp; omega),Option.bind_some,d_ (by simp; omega),Option.bind_some,d_ (by simp; omega),Option.bind_some,d_ (by simp; omega),Option.bind_some]
theorem R_(a:aW):zt a=some (ut a):=by
 unfold zt ut nD
 rw[lT,Option.bind_some,Option.bind_some]
 cases h1:ax 0 2 a.Rel
 · simp[f_,h1]
 rw[lT,Option.bind_some]
 cases h2:ax 1 3 (a.Terms.length:Int)
 · simp[f_,h1,h2]
 simp only[Bool.not_true,cond_false,LX,Option.bind_some]
 cases h3:a.Terms.all fO
 · simp[f_,h1,h2,h3]
 · have ho:f_ a=true:=by simp[f_,h1,h2,h3]
   obtain⟨g1,g2,g3⟩:=uf ho
   simp only[Bool.not_true,Bool.false_eq_true,if_false]
   rw[if_pos ho,wX _ (by omega),Option.bind_some,LF g3 g2.2]
   simp only[Option.bind_some]
   exact N_ (by simp[bB]) (xP g3 g2.2)
theorem KQ{a:aW}(h:f_ a=true):∀(l:List Int)(k:Nat),(∀x∈l,fO x=true)->sU a 20 l k=some (dB a)
 |[],k,_=>by
   obtain⟨g1,g2,g3⟩:=uf h
   unfold sU
   rw[u_ (by decide) _ (by omega),Option.bind_some,Mh g3 g2.2]
   simp only[Option.bind_some]
   exact N_ (by simp[bB]) (xP g3 g2.2)
 |x::l,k,hl=>by
   unfold sU
   rw[Mv,Option.bind_some,hl x (by simp),if_neg (by simp)]
   exact KQ h l _ fun y hy=>hl y (by simp[hy])
theorem C9{a:aW}(h:f_ a=true):w9 20 a=some (dB a):=by
 obtain⟨g1,g2,g3⟩:=uf h
 have p1:ax 0 2 a.Rel=true:=by simp only[ax,Bool.and_eq_true,decide_eq_true_eq]; omega
 have p2:ax 1 3 (a.Terms.length:Int)=true:=by simp only[ax,Bool.and_eq_true,decide_eq_true_eq]; omega
 unfold w9
 simp only[iR,p1,p2,Option.bind_some,Bool.not_true,cond_false,Bool.false_eq_true,if_false]
 exact KQ h a.Terms 0 g3
theorem UQ{s:List Int}{a:aW}(h:lD s a=true):f_ a=true:=by
 simp only[lD,Bool.and_eq_true,beq_iff_eq]at h
 obtain⟨h1,h2,h3⟩:=h
 have a1:=kD h1
 have a2:=Dp h1
 simp only[f_,ax,Bool.and_eq_true,decide_eq_true_eq]
 exact⟨a2,by omega,h3⟩
theorem Ea{a:aW}(h:f_ a=true):(32:UInt8)∉dB a:=by
 obtain⟨g1,g2,g3⟩:=uf h
 unfold dB
 intro hm
 simp only[List.mem_append,List.mem_singleton]at hm
 rcases hm with (((hm|hm)|hm)|hm)|hm
 · exact absurd hm (by decide)
 · rw[lV ⟨g1.1,by omega⟩]at hm
   exact oO ⟨g1.1,by omega⟩ (.inl (by decide)) hm
 · exact absurd hm (by decide)
 · exact GR (fun z hz=>(vR g3 z hz).2.2.2) (by decide) hm
 · exact absurd hm (by decide)
theorem uq{a:aW}(h:f_ a=true):1<=(dB a).length/\(dB a).length<=12:=by
 obtain⟨g1,g2,g3⟩:=uf h
 have:=xP g3 g2.2
 unfold dB
 simp[bB]; omega
theorem F_:∀(l:List (List UInt8))(k:Nat)(c:List Int),(∀y∈l,y.length<=1048576)->c.length+l.length<4294967295-> ∃v b,l_ l k c=some (v,b)/\v.length<=c.length+l.length
 |[],k,c,_,_=>⟨_,_,rfl,by simp⟩
 |y::l,k,c,h,hc=>by
   simp only[List.length_cons]at hc
   obtain⟨d,e1,l1⟩:=z8 y [120]
   obtain⟨n,b,e2⟩:=ng d (by have:=h y (by simp); omega)
   unfold l_
   rw[e1,Option.bind_some,e2,Option.bind_some]
   cases b
   · exact⟨_,_,rfl,by simp⟩
   · have next:∀z,∃v b,l_ l (k+1) (c++[z])=some (v,b)/\v.length<=c.length+(l.length+1):=fun z=>by
       obtain⟨v,b,e,hv⟩:=F_ l (k+1) (c++[z]) (fun x hx=>h x (by simp[hx])) (by simp; omega)
       exact⟨v,b,e,by simp at hv; omega⟩
     rw[if_neg (by simp)]
     split
     · rw[app1 (by omega),Option.bind_some,Option.bind_some]; exact next _
     · rw[app1 (by omega),Option.bind_some,Option.bind_some]; exact next _
theorem Ga:∀(l:List Int)(k:Nat)(c:List Int),(∀x∈l,fO x=true)->c.length+l.length<4294967295->l_ (l.map dW) k c=some (c++l,true)
 |[],k,c,_,_=>by simp[l_]
 |x::l,k,c,h,hc=>by
   simp only[List.length_cons]at hc
   obtain⟨d,n,e1,e2,e3⟩:=(nL (h x (by simp))).2.2.2.1
   rw[List.map_cons]
   unfold l_
   rw[e1,Option.bind_some,e2,Option.bind_some,if_neg (by simp)]
   have next:l_ (l.map dW) (k+1) (c++[x])=some (c++x::l,true):=by
     rw[Ga l _ _ (fun y hy=>h y (by simp[hy])) (by simp; omega)]; simp
   split at e3
   · rename_i hd
     rw[if_pos (by simpa using hd),app1 (by omega),Option.bind_some,Option.bind_some]
     dsimp only
     rw[e3]; exact next
   · rename_i hd
     rw[if_neg (by simpa using hd),app1 (by omega),Option.bind_some,Option.bind_some]
     dsimp only
     rw[e3]; exact next
theorem LZ(w:List UInt8)(hl:w.length<=1048576):∃a b,tY w=some (a,b)/\a.Terms.length<=1048577:=by
 obtain⟨n,ws,b1,e1,l1,l2⟩:=LA w hl
 obtain⟨v,b2,e2,l3⟩:=F_ ws 0 [] l1 (by simp; omega)
 unfold tY tO
 rw[e1,Option.bind_some]
 dsimp only
 rw[e2,Option.bind_some]
 cases b1<;>exact⟨_,_,rfl,by simp at l3; show v.length<=_; omega⟩
theorem L6{a:aW}(h:f_ a=true):tY (dB a)=some (a,true):=by
 obtain⟨g1,g2,g3⟩:=uf h
 have hlen:=(uq h).2
 unfold tY tO dB kz at*
 obtain⟨y,A,hA⟩:∃y A,a.Terms=y::A:=by
   cases hv:a.Terms with
   |nil=>rw[hv]at g2; simp at g2
   |cons y A=>exact⟨y,A,rfl⟩
 have kQ:∀z∈a.Terms.map dW,(44:UInt8)∉z:=fun z hz=>(vR g3 z hz).1
 have hy:dW y≠[]:=by
   have:=(nL (g3 y (by rw[hA]; simp))).2.2.2.2.2.1
   intro e; rw[e]at this; simp at this
 rw[hA,List.map_cons]at kQ hlen ⊢
 rw[LY ⟨g1.1,by omega⟩ _ _ hy kQ (by omega),Option.bind_some]
 dsimp only
 rw[←List.map_cons,←hA,Ga a.Terms 0 [] g3 (by simp; omega)]
 rfl
def hTx(h:List Int):List UInt8:=if h=[]then [121,101,115]else kz h
def ou(q:bG):List UInt8:=hTx q.Head++[32,105,102,32]++Lib.join (q.Atoms.map dB) [32,97,110,100,32]
def j_(q:bG):Bool:=ax 1 4 (q.Atoms.length:Int)&&(q.Atoms.all f_&&(decide ((q.Head.length:Int)<=3)&&q.Head.all fun t=>decide (t∈gH (ax 10 17) q.Atoms)))
def iy(q:bG):List UInt8:=if j_ q then ou q else []
theorem ny{q:bG}(h:j_ q=true):(1<=q.Atoms.length/\q.Atoms.length<=4)/\(∀a∈q.Atoms,f_ a=true)/\q.Head.length<=3/\(∀x∈q.Head,x∈gH (ax 10 17) q.Atoms)/\ ∀x∈q.Head,fO x=true:=by
 simp only[j_,ax,Bool.and_eq_true,decide_eq_true_eq,List.all_eq_true]at h
 obtain⟨h1,h2,h3,h4⟩:=h
 refine⟨by omega,h2,by omega,h4,fun x hx=>?_⟩
 have:=(TM.1 (h4 x hx)).2
 simp[fO,this]
theorem Dr{s:List Int}{q:bG}(h:kE s q=true):j_ q=true:=by
 simp only[kE,Bool.and_eq_true,List.all_eq_true,decide_eq_true_eq]at h
 obtain⟨h1,h2,-,h3,h4⟩:=h
 simp only[j_,Bool.and_eq_true,List.all_eq_true,decide_eq_true_eq]
 exact⟨h3,fun a ha=>UQ (h1 a ha),h4,h2⟩
theorem Vo{A:List (List UInt8)}{m:Nat}(h:∀z∈A,z.length<=m)(sep:List UInt8):(Lib.join A sep).length<=A.length*(m+sep.length):=by
 cases A with
 |nil=>simp[Lib.join,List.intercalate]
 |cons y A=>
   have key:∀r:List (List UInt8),(∀z∈r,z.length<=m)->(Lib.joinTail sep r).length<=r.length*(m+sep.length):=by
     intro r
     induction r with
     |nil=>intro _; simp[Lib.joinTail]
     |cons z r ih=>
       intro hr
       have h1:=hr z (by simp)
       have h2:=ih fun w hw=>hr w (by simp[hw])
       have e:Lib.joinTail sep (z::r)=sep++z++Lib.joinTail sep r:=by simp[Lib.joinTail]
       rw[e,List.length_append,List.length_append,List.length_cons,Nat.succ_mul]; omega
   have h1:=h y (by simp)
   have h2:=key A fun z hz=>h z (by simp[hz])
   rw[Lib.join_cons,List.length_append,List.length_cons,Nat.succ_mul]; omega
theorem Ul{l:List aW}(h:∀a∈l,f_ a=true)(h4:l.length<=4):(Lib.join (l.map dB) [32,97,110,100,32]).length<=68:=by
 have:=Vo (A:=l.map dB) (m:=12) (fun z hz=>by
   obtain⟨a,ha,rfl⟩:=List.mem_map.1 hz
   exact (uq (h a ha)).2) [32,97,110,100,32]
 simp at this; omega
theorem UT(c:List (List UInt8)):yT c []=some (c.any fun x=>x==[]):=by
 unfold yT CU
 rw[nk (L:=uW []) (f:=fun x=>some (x==[])) (p:=fun x=>x==[]) (fun k=>rfl) (fun x r k=>by
   rw[uW,Option.bind_some]
   cases x<;>rfl) c 0 (fun x _=>rfl),Option.bind_some,nA]
theorem Tg(q:bG)(h:dx q.Atoms<4294967295):vG q=some (decide ((q.Head.length:Int)<=3)&&q.Head.all fun t=>decide (t∈gH (ax 10 17) q.Atoms)):=by
 have h2:uU q.Head (gH (ax 10 17) q.Atoms)=some (q.Head.any fun t=>!decide (t∈gH (ax 10 17) q.Atoms)):=by
   unfold uU yQ
   rw[nk (L:=uT _) (f:=fun t=>vz t (gH (ax 10 17) q.Atoms)) (p:=fun t=>!decide (t∈gH (ax 10 17) q.Atoms)) (fun k=>rfl) (fun x r k=>rfl) q.Head 0 (fun x _=>by rw[vz,KG]; rfl),Option.bind_some,nA]
 have e2:(q.Head.any fun t=>!decide (t∈gH (ax 10 17) q.Atoms))=!(q.Head.all fun t=>decide (t∈gH (ax 10 17) q.Atoms)):=by simp[List.all_eq_not_any_not]
 rw[vG,Mw q h,Option.bind_some,h2,e2]
 cases decide ((q.Head.length:Int)<=3)<;>cases (q.Head.all fun t=>decide (t∈gH (ax 10 17) q.Atoms))<;>rfl
theorem C8(q:bG)(ht:dx q.Atoms<4294967295)(ha:q.Atoms.length<=1000):zh q=some (iy q):=by
 have fin:∀(k:Nat),qf q [] k (q.Atoms.map ut)=some (iy q):=by
   intro k
   rw[qf,lT,Option.bind_some,List.length_map]
   unfold iy
   cases h1:ax 1 4 (q.Atoms.length:Int)
   · simp[j_,h1]
   have e3:((q.Atoms.map ut).any fun x=>x==[])=!(q.Atoms.all f_):=by
     rw[List.any_map,List.all_eq_not_any_not,Bool.not_not]
     congr 1
     funext a
     simp only[Function.comp,ut]
     cases h:f_ a
     · simp
     · have:=(uq h).1
       rw[if_pos rfl]
       cases hx:dB a with
       |nil=>rw[hx]at this; simp at this
       |cons _ _=>rfl
   rw[Bool.not_true,cond_false,UT,Option.bind_some,e3]
   cases h2:q.Atoms.all f_
   · simp[j_,h1,h2]
   rw[Bool.not_true,cond_false,Tg q ht,Option.bind_some]
   cases h3:(decide ((q.Head.length:Int)<=3)&&q.Head.all fun t=>decide (t∈gH (ax 10 17) q.Atoms))
   · have:j_ q=false:=by unfold j_; rw[h1,h2,h3]; rfl
     simp[this]
   · have ho:j_ q=true:=by unfold j_; rw[h1,h2,h3]; rfl
     obtain⟨g1,g2,g3,g4,g5⟩:=ny ho
     have em:q.Atoms.map ut=q.Atoms.map dB:=List.map_congr_left fun a h=>by unfold ut; rw[if_pos (g2 a h)]
     have l1:=Ul g2 g1.2
     have l2:=xP g5 g3
     rw[Option.bind_some,em,if_pos ho]
     dsimp only
     rw[if_neg (by simp)]
     unfold qg
     by_cases hn:q.Head=[]
     · rw[if_neg (by simp[hn]),d_ (by simp),Option.bind_some,if_pos ⟨by simp; omega,by omega⟩,Option.bind_some,d_ (by simp; omega),Option.bind_some]
       simp[ou,hTx,hn]
     · have:0<q.Head.length:=List.length_pos_iff.2 hn
       rw[if_pos (by simp only[decide_eq_true_eq]; omega),LF g5 g3,Option.bind_some,d_ (by simp; omega),Option.bind_some,if_pos ⟨by simp; omega,by omega⟩,Option.bind_some,d_ (by simp; omega),Option.bind_some]
       simp[ou,hTx,hn]
 have key:∀(r:List aW)(k:Nat)(c:List aW),c++r=q.Atoms->qf q r k (c.map ut)=some (iy q):=by
   intro r
   induction r with
   |nil=>intro k c e; rw[List.append_nil]at e; subst e; exact fin k
   |cons a r ih=>
     intro k c e
     have hc:c.length+(r.length+1)<=1000:=by rw[←e]at ha; simpa using ha
     rw[qf,R_,Option.bind_some,app1 (by simp; omega),Option.bind_some]
     have:=ih (k+1) (c++[a]) (by simpa using e)
     simpa using this
 exact key q.Atoms 0 [] rfl
theorem KJ:∀(r:List aW)(k:Nat)(c:List UInt8),0<k->(∀a∈r,f_ a=true)->c.length+17*r.length<=10000->oC 20 r k c=some (c++Lib.joinTail [32,97,110,100,32] (r.map dB))
 |[],k,c,_,_,_=>by simp[oC,Lib.joinTail]
 |a::r,k,c,hk,hr,hc=>by
   simp only[List.length_cons]at hc
   have h1:=uq (hr a (by simp))
   have hne:(dB a==[])=false:=by
     cases hx:dB a with
     |nil=>rw[hx]at h1; simp at h1
     |cons _ _=>rfl
   unfold oC
   rw[C9 (hr a (by simp)),Option.bind_some,if_neg (by simp[hne]),if_pos (by simp only[decide_eq_true_eq]; omega),d_ (by simp; omega),Option.bind_some,d_ (by simp; omega),Option.bind_some,Option.bind_some]
   dsimp only
   rw[KJ r _ _ (by omega) (fun b hb=>hr b (by simp[hb])) (by simp; omega)]
   simp[Lib.joinTail]
theorem KL:∀(r:List aW)(k:Nat)(c:List UInt8),0<k->(∀a∈r,f_ a=true)->c.length+17*r.length<=10000->oD 20 r k c=some (c++Lib.joinTail [32,97,110,100,32] (r.map dB))
 |[],k,c,_,_,_=>by simp[oD,Lib.joinTail]
 |a::r,k,c,hk,hr,hc=>by
   simp only[List.length_cons]at hc
   have h1:=uq (hr a (by simp))
   have hne:(dB a==[])=false:=by
     cases hx:dB a with
     |nil=>rw[hx]at h1; simp at h1
     |cons _ _=>rfl
   unfold oD
   rw[C9 (hr a (by simp)),Option.bind_some,if_neg (by simp[hne]),if_pos (by simp only[decide_eq_true_eq]; omega),d_ (by simp; omega),Option.bind_some,d_ (by simp; omega),Option.bind_some,Option.bind_some]
   dsimp only
   rw[KL r _ _ (by omega) (fun b hb=>hr b (by simp[hb])) (by simp; omega)]
   simp[Lib.joinTail]
theorem Rx{l:List aW}(hn:1<=l.length)(h4:l.length<=4)(h:∀a∈l,f_ a=true)(c:List UInt8)(hc:c.length<=100):oC 20 l 0 c=some (c++Lib.join (l.map dB) [32,97,110,100,32]):=by
 cases l with
 |nil=>simp at hn
 |cons a r=>
   have h1:=uq (h a (by simp))
   simp only[List.length_cons]at h4
   have hne:(dB a==[])=false:=by
     cases hx:dB a with
     |nil=>rw[hx]at h1; simp at h1
     |cons _ _=>rfl
   unfold oC
   rw[C9 (h a (by simp)),Option.bind_some,if_neg (by simp[hne]),if_neg (by simp),d_ (by omega),Option.bind_some,Option.bind_some]
   dsimp only
   rw[KJ r _ _ (by omega) (fun b hb=>h b (by simp[hb])) (by simp; omega),List.map_cons,Lib.join_cons]
   simp
theorem Ry{l:List aW}(hn:1<=l.length)(h4:l.length<=4)(h:∀a∈l,f_ a=true)(c:List UInt8)(hc:c.length<=100):oD 20 l 0 c=some (c++Lib.join (l.map dB) [32,97,110,100,32]):=by
 cases l with
 |nil=>simp at hn
 |cons a r=>
   have h1:=uq (h a (by simp))
   simp only[List.length_cons]at h4
   have hne:(dB a==[])=false:=by
     cases hx:dB a with
     |nil=>rw[hx]at h1; simp at h1
     |cons _ _=>rfl
   unfold oD
   rw[C9 (h a (by simp)),Option.bind_some,if_neg (by simp[hne]),if_neg (by simp),d_ (by omega),Option.bind_some,Option.bind_some]
   dsimp only
   rw[KL r _ _ (by omega) (fun b hb=>h b (by simp[hb])) (by simp; omega),List.map_cons,Lib.join_cons]
   simp
theorem La{q:bG}(h:j_ q=true)(ht:dx q.Atoms<4294967295):wY 20 q=some (ou q):=by
 obtain⟨g1,g2,g3,g4,g5⟩:=ny h
 have l2:=xP g5 g3
 have p1:ax 1 4 (q.Atoms.length:Int)=true:=by simp only[ax,Bool.and_eq_true,decide_eq_true_eq]; omega
 have k1:∀(l:List Int)(k:Nat),(∀x∈l,x∈gH (ax 10 17) q.Atoms)->sP q 20 (kz q.Head) (gH (ax 10 17) q.Atoms) l k=some (kz q.Head++[32,105,102,32]++Lib.join (q.Atoms.map dB) [32,97,110,100,32]):=by
   intro l
   induction l with
   |nil=>
     intro k _
     rw[sP,d_ (by simp; omega),Option.bind_some,Rx g1.1 g1.2 g2 _ (by simp; omega)]
   |cons x l ih=>
     intro k hx
     rw[sP,Gx,Option.bind_some,decide_eq_true (hx x (by simp)),if_neg (by simp)]
     exact ih _ fun y hy=>hx y (by simp[hy])
 have k3:∀(k:Nat),uY q 20 (gH (ax 10 17) q.Atoms) [] k=some ([121,101,115]++[32,105,102,32]++Lib.join (q.Atoms.map dB) [32,97,110,100,32]):=by
   intro k
   rw[uY,d_ (by simp),Option.bind_some,Ry g1.1 g1.2 g2 _ (by simp)]
 unfold wY
 rw[iR,Option.bind_some,p1,Bool.not_true,cond_false,Option.bind_some]
 dsimp only
 rw[if_neg (by simp only[decide_eq_true_eq]; omega)]
 unfold ou hTx
 by_cases hn:q.Head=[]
 · rw[if_neg (by simp[hn]),Gq q ht,Option.bind_some,hn,k3,if_pos rfl]
 · have:0<q.Head.length:=List.length_pos_iff.2 hn
   rw[if_pos (by simp only[decide_eq_true_eq]; omega),Mh g5 g3,Option.bind_some,Gq q ht,Option.bind_some,k1 q.Head 0 g4,if_neg hn]
theorem xJ(a b:List aW):dx (a++b)=dx a+dx b:=by simp[dx]
theorem xK(a:aW):dx [a]=a.Terms.length:=by simp[dx]
theorem KY(text:List UInt8)(r9:List Int×Bool):∀(ps:List (List UInt8))(k:Nat)(c:List aW),(∀y∈ps,y.length<=1048576)->c.length<=4->dx c<=1048577*c.length-> ∃(ok:Bool)(q:bG),ma text r9 ps k c=some (if ok then (q,iy q==text)else ({Head:=[],Atoms:=[]},false))/\dx q.Atoms<4294967295
 |[],k,c,_,h4,ht=>by
   rw[ma,C8 _ (show dx c<_ by have:=Nat.mul_le_mul_left 1048577 h4; omega) (show c.length<=1000 by omega),Option.bind_some]
   exact⟨true,{Head:=r9.1,Atoms:=c},rfl,by show dx c<_; have:=Nat.mul_le_mul_left 1048577 h4; omega⟩
 |y::ps,k,c,h,h4,ht=>by
   obtain⟨a,b,e,la⟩:=LZ y (h y (by simp))
   rw[ma,e,Option.bind_some]
   dsimp only
   split
   · exact⟨false,{Head:=[],Atoms:=[]},rfl,by simp[dx]⟩
   · rename_i hc
     simp only[Bool.or_eq_true,beq_iff_eq,not_or]at hc
     have:c.length≠4:=fun h=>hc.2 (by omega)
     rw[app1 (by omega),Option.bind_some]
     exact KY text r9 ps _ _ (fun z hz=>h z (by simp[hz])) (by simp; omega) (by rw[xJ,xK,List.length_append,List.length_singleton,Nat.mul_add]; omega)
theorem KZ(text:List UInt8):∀(ps:List (List UInt8))(k:Nat)(c:List aW),(∀y∈ps,y.length<=1048576)->c.length<=4->dx c<=1048577*c.length-> ∃(ok:Bool)(q:bG),mf text ps k c=some (if ok then (q,iy q==text)else ({Head:=[],Atoms:=[]},false))/\dx q.Atoms<4294967295
 |[],k,c,_,h4,ht=>by
   rw[mf,C8 _ (show dx c<_ by have:=Nat.mul_le_mul_left 1048577 h4; omega) (show c.length<=1000 by omega),Option.bind_some]
   exact⟨true,{Head:=[],Atoms:=c},rfl,by show dx c<_; have:=Nat.mul_le_mul_left 1048577 h4; omega⟩
 |y::ps,k,c,h,h4,ht=>by
   obtain⟨a,b,e,la⟩:=LZ y (h y (by simp))
   rw[mf,e,Option.bind_some]
   dsimp only
   split
   · exact⟨false,{Head:=[],Atoms:=[]},rfl,by simp[dx]⟩
   · rename_i hc
     simp only[Bool.or_eq_true,beq_iff_eq,not_or]at hc
     have:c.length≠4:=fun h=>hc.2 (by omega)
     rw[app1 (by omega),Option.bind_some]
     exact KZ text ps _ _ (fun z hz=>h z (by simp[hz])) (by simp; omega) (by rw[xJ,xK,List.length_append,List.length_singleton,Nat.mul_add]; omega)
theorem K3(text:List UInt8)(r9:List Int×Bool):∀(l:List aW)(k:Nat)(c:List aW),(∀a∈l,f_ a=true)->c.length+l.length<=4->dx (c++l)<4294967295->ma text r9 (l.map dB) k c=some ({Head:=r9.1,Atoms:=c++l},iy {Head:=r9.1,Atoms:=c++l}==text)
 |[],k,c,_,h4,ht=>by
   rw[List.append_nil]at ht ⊢
   rw[List.map_nil,ma,C8 _ ht (show c.length<=1000 by simp at h4; omega),Option.bind_some]
 |a::l,k,c,h,h4,ht=>by
   simp only[List.length_cons]at h4
   rw[List.map_cons,ma,L6 (h a (by simp)),Option.bind_some]
   dsimp only
   rw[if_neg (by simp; omega),app1 (by omega),Option.bind_some,K3 text r9 l _ _ (fun b hb=>h b (by simp[hb])) (by simp; omega) (by simpa using ht)]
   simp
theorem K4(text:List UInt8):∀(l:List aW)(k:Nat)(c:List aW),(∀a∈l,f_ a=true)->c.length+l.length<=4->dx (c++l)<4294967295->mf text (l.map dB) k c=some ({Head:=[],Atoms:=c++l},iy {Head:=[],Atoms:=c++l}==text)
 |[],k,c,_,h4,ht=>by
   rw[List.append_nil]at ht ⊢
   rw[List.map_nil,mf,C8 _ ht (show c.length<=1000 by simp at h4; omega),Option.bind_some]
 |a::l,k,c,h,h4,ht=>by
   simp only[List.length_cons]at h4
   rw[List.map_cons,mf,L6 (h a (by simp)),Option.bind_some]
   dsimp only
   rw[if_neg (by simp; omega),app1 (by omega),Option.bind_some,K4 text l _ _ (fun b hb=>h b (by simp[hb])) (by simp; omega) (by simpa using ht)]
   simp
theorem Oa{l:List Int}(h:∀x∈l,fO x=true)(hn:l≠[]):kz l≠[121,101,115]:=by
 unfold kz
 obtain⟨x,r,rfl⟩:=List.exists_cons_of_ne_nil hn
 rw[List.map_cons,Lib.join_cons]
 intro e
 have h1:=(nL (h x (by simp))).2.2.2.2.2.1
 have h2:∀c∈(dW x).head?,c≠121:=by
   have hx:=h x (by simp)
   unfold dW
   split
   · simp
   · intro c hc
     have hr:0<=x/\x<=100:=by
       simp only[fO,ax,Bool.or_eq_true,Bool.and_eq_true,decide_eq_true_eq]at hx; omega
     have:=(iZ hr).2.2.2.1 c (List.mem_of_mem_head? hc)
     rintro rfl
     simp at this
 cases hp:dW x with
 |nil=>rw[hp]at h1; simp at h1
 |cons c r=>
   rw[hp]at e h2
   simp only[List.cons_append,List.cons.injEq]at e
   exact h2 c rfl e.1
theorem Ov{h:List Int}(hh:∀x∈h,fO x=true):(32:UInt8)∉hTx h:=by
 unfold hTx
 split
 · decide
 · exact GR (fun z hz=>(vR hh z hz).2.2.2) (by decide)
theorem Sa(s:List Int)(hs:s.length<4294967296)(text:List UInt8)(hl:text.length<=1048576):PF (kE s) iy {Head:=[],Atoms:=[]} text (vg s text):=by
 have fin:∀(ok:Bool)(q:bG),dx q.Atoms<4294967295->oK text=some (if ok then (q,iy q==text)else ({Head:=[],Atoms:=[]},false))->vg s text=some (if ok&&(kE s q&&(iy q==text))then (q,true)else ({Head:=[],Atoms:=[]},false)):=by
   intro ok q hq e
   unfold vg
   rw[e,Option.bind_some]
   cases ok
   · rfl
   · rw[if_pos rfl]
     dsimp only
     cases h1:(iy q==text)
     · simp
     · rw[Bool.not_true,cond_false,Tf s q hs hq,Option.bind_some]
       cases h2:kE s q<;>simp
 obtain⟨h,r,has,e1,l1,l2⟩:=N7 text [32,105,102,32] hl
 have cut:∀g,kE s g=true->iy g=text->j_ g=true/\h=hTx g.Head/\r=Lib.join (g.Atoms.map dB) [32,97,110,100,32]/\has=true:=fun g h1 h2=>by
   have ho:=Dr h1
   obtain⟨g1,g2,g3,g4,g5⟩:=ny ho
   unfold iy at h2
   rw[if_pos ho]at h2
   rw[←h2]at e1 hl
   unfold ou at e1 hl
   rw[N8 32 [105,102,32] _ _ (Ov g5) hl]at e1
   cases e1
   exact⟨ho,rfl,rfl,rfl⟩
 have parts:∀g,kE s g=true->j_ g=true->r=Lib.join (g.Atoms.map dB) [32,97,110,100,32]->Lib.split r [32,97,110,100,32]=g.Atoms.map dB/\dx g.Atoms<4294967295:=fun g h1 ho hr=>by
   obtain⟨g1,g2,g3,g4,g5⟩:=ny ho
   have ht:=NW (l:=g.Atoms) fun a ha=>(uf (g2 a ha)).2.1.2
   refine⟨?_,by omega⟩
   subst hr
   cases hA:g.Atoms with
   |nil=>rw[hA]at g1; simp at g1
   |cons a A=>
     rw[hA]at g2
     exact tQ 32 [97,110,100,32] _ _ (Ea (g2 a (by simp))) fun z hz=>by
       obtain⟨b,hb,rfl⟩:=List.mem_map.1 hz
       exact Ea (g2 b (by simp[hb]))
 cases has
 · refine⟨false,{Head:=[],Atoms:=[]},?_,fun g h1 h2=>?_⟩
   · refine fin false {Head:=[],Atoms:=[]} (by simp[dx]) ?_
     unfold oK
     rw[e1]; rfl
   · have:=(cut g h1 h2).2.2.2
     cases this
 obtain⟨e3,m1,m2⟩:=uh r [32,97,110,100,32] (by simp) (by omega)
 have QN:∀y∈Lib.split r [32,97,110,100,32],y.length<=1048576:=fun y hy=>by have:=m2 y hy; omega
 by_cases hy:h=[121,101,115]
 · obtain⟨ok,q,eq,tq⟩:=KZ text (Lib.split r [32,97,110,100,32]) 0 [] QN (by simp) (by simp[dx])
   have KA:oK text=mf text (Lib.split r [32,97,110,100,32]) 0 []:=by
     unfold oK
     rw[e1,Option.bind_some]
     dsimp only
     rw[if_neg (by simp),if_neg (by simp[hy]),e3,Option.bind_some]
   refine⟨ok,q,fin ok q tq (by rw[KA,eq]),fun g h1 h2=>?_⟩
   obtain⟨ho,c1,c2,-⟩:=cut g h1 h2
   obtain⟨p1,p2⟩:=parts g h1 ho c2
   obtain⟨g1,g2,g3,g4,g5⟩:=ny ho
   have hn:g.Head=[]:=by
     by_cases hn:g.Head=[]
     · exact hn
     · rw[hy]at c1
       unfold hTx at c1
       rw[if_neg hn]at c1
       exact absurd c1.symm (Oa g5 hn)
   rw[p1,K4 text g.Atoms 0 [] g2 (by simpa using g1.2) (by simpa using p2)]at eq
   have hg:({Head:=[],Atoms:=[]++g.Atoms}:bG)=g:=by rw[←hn]; rfl
   rw[hg,h2]at eq
   cases ok
   · simp at eq
   · simp only[if_true,Option.some.injEq,Prod.mk.injEq]at eq
     exact⟨rfl,eq.1.symm⟩
 · obtain⟨e4,n1,n2⟩:=uh h [44] (by simp) (by omega)
   obtain⟨hd,bh,e5,n3⟩:=F_ (Lib.split h [44]) 0 [] (fun y hy=>by have:=n2 y hy; omega) (by simp; omega)
   have Ow:∀g,j_ g=true->h=hTx g.Head->hd=g.Head/\bh=true:=fun g ho c1=>by
     obtain⟨g1,g2,g3,g4,g5⟩:=ny ho
     have hn:g.Head≠[]:=fun hn=>hy (by rw[c1]; unfold hTx; rw[if_pos hn])
     have e:h=Lib.join (g.Head.map dW) [44]:=by rw[c1]; unfold hTx kz; rw[if_neg hn]
     have hsp:Lib.split h [44]=g.Head.map dW:=by
       rw[e]
       obtain⟨x,l,hx⟩:=List.exists_cons_of_ne_nil hn
       rw[hx]at g5 ⊢
       exact tQ 44 [] _ _ (vR g5 _ (by simp)).1 fun z hz=>(vR g5 z (by simp only[List.map_cons,List.mem_cons]; exact .inr hz)).1
     rw[hsp,Ga g.Head 0 [] g5 (by simp; omega)]at e5
     cases e5
     exact⟨rfl,rfl⟩
   cases bh
   · refine⟨false,{Head:=[],Atoms:=[]},?_,fun g h1 h2=>?_⟩
     · refine fin false {Head:=[],Atoms:=[]} (by simp[dx]) ?_
       unfold oK tO
       rw[e1,Option.bind_some]
       dsimp only
       rw[if_neg (by simp),if_pos (by simp[hy]),e4,Option.bind_some,e5]; rfl
     · obtain⟨ho,c1,c2,-⟩:=cut g h1 h2
       have:=(Ow g ho c1).2
       cases this
   · obtain⟨ok,q,eq,tq⟩:=KY text (hd,true) (Lib.split r [32,97,110,100,32]) 0 [] QN (by simp) (by simp[dx])
     have KA:oK text=ma text (hd,true) (Lib.split r [32,97,110,100,32]) 0 []:=by
       unfold oK tO
       rw[e1,Option.bind_some]
       dsimp only
       rw[if_neg (by simp),if_pos (by simp[hy]),e4,Option.bind_some,e5,Option.bind_some]
       dsimp only
       rw[if_neg (by simp),e3,Option.bind_some]
     refine⟨ok,q,fin ok q tq (by rw[KA,eq]),fun g h1 h2=>?_⟩
     obtain⟨ho,c1,c2,-⟩:=cut g h1 h2
     obtain⟨p1,p2⟩:=parts g h1 ho c2
     obtain⟨g1,g2,g3,g4,g5⟩:=ny ho
     obtain⟨rfl,-⟩:=Ow g ho c1
     rw[p1,K3 text _ g.Atoms 0 [] g2 (by simpa using g1.2) (by simpa using p2)]at eq
     have hg:({Head:=g.Head,Atoms:=[]++g.Atoms}:bG)=g:=rfl
     rw[hg,h2]at eq
     cases ok
     · simp at eq
     · simp only[if_true,Option.some.injEq,Prod.mk.injEq]at eq
       exact⟨rfl,eq.1.symm⟩
def iX(l:List (List UInt8)):Nat:=(l.map fun y=>y.length+1).sum
theorem Dx(x:List UInt8)(r:List (List UInt8)):iX (x::r)=(x.length+1)+iX r:=by simp[iX]
theorem GU(c:UInt8):∀(l p:List UInt8),iX (bH c p l)=p.length+l.length+1
 |[],p=>by simp[bH,iX]
 |b::l,p=>by
   unfold bH
   split
   · have:=GU c l []
     unfold iX at*
     rw[List.map_cons,List.sum_cons,this]; simp; omega
   · rw[GU c l (p++[b])]; simp; omega
theorem RP(y:List UInt8)(hl:y.length<=1048576):∃n,oH 20 y=some n:=by
 have last:∃n,((jW 20 y).bind fun mV=>(dL mV 0 9).bind fun ib=>if (!ib)then some (-1)else some mV)=some n:=by
   rw[t_ hl,Option.bind_some,iR,Option.bind_some]
   split<;>exact⟨_,rfl⟩
 unfold oH
 by_cases h:(1:Int)<(y.length:Int)
 · rw[decide_eq_true h,cond_true,show (0:Int)=((0:Nat):Int)from rfl,lU,List.getElem?_eq_getElem (show 0<y.length by omega),Option.bind_some,Option.bind_some]
   dsimp only
   split
   · rw[jr (by simp; omega),Option.bind_some,t_ (by simp; omega),Option.bind_some,iR,Option.bind_some]
     split<;>exact⟨_,rfl⟩
   · exact last
 · rw[decide_eq_false h]
   exact last
def tS(y:List UInt8):Int:=(oH 20 y).getD 0
theorem Lb{y:List UInt8}(h:y.length<=1048576):oH 20 y=some (tS y):=by
 obtain⟨n,e⟩:=RP y h
 unfold tS; rw[e]; rfl
theorem YN{t:Int}(h:fO t=true):tS (dW t)=t:=by unfold tS; rw[(nL h).2.2.1]; rfl
theorem Ox{l:List Int}(h:∀x∈l,fO x=true):(l.map dW).map tS=l:=by
 rw[List.map_map]
 conv=>rhs; rw[←List.map_id l]
 exact List.map_congr_left fun x hx=>YN (h x hx)
theorem F6(r:Int):∀(ws:List (List UInt8))(k:Nat)(c:List Int),(∀y∈ws,y.length<=1048576)->c.length+ws.length<4294967295->sO 20 r ws k c=some {Rel:=r,Terms:=c++ws.map tS}
 |[],k,c,_,_=>by simp[sO]
 |y::ws,k,c,h,hc=>by
   simp only[List.length_cons]at hc
   unfold sO
   rw[Lb (h y (by simp)),Option.bind_some,app1 (by omega),Option.bind_some,F6 r ws _ _ (fun z hz=>h z (by simp[hz])) (by simp; omega)]
   simp
def aS(y:List UInt8):aW:=(oI 20 y).getD {Rel:=0,Terms:=[]}
theorem RQ(y:List UInt8)(hl:y.length<=1048576):∃a,oI 20 y=some a/\a.Terms.length<=y.length+1:=by
 obtain⟨N,ws,e1,l0,l1,l2⟩:=MC y hl
 obtain⟨n,e2⟩:=zG N (by omega)
 unfold oI
 rw[e1,Option.bind_some]
 dsimp only
 rw[e2,Option.bind_some,F6 n ws 0 [] l1 (by simp; omega)]
 exact⟨_,rfl,by simp; omega⟩
theorem Lc{y:List UInt8}(h:y.length<=1048576):oI 20 y=some (aS y)/\(aS y).Terms.length<=y.length+1:=by
 obtain⟨a,e,hl⟩:=RQ y h
 unfold aS
 rw[e]
 exact⟨rfl,hl⟩
theorem YO{a:aW}(h:f_ a=true):aS (dB a)=a:=by
 obtain⟨g1,g2,g3⟩:=uf h
 have hlen:=(uq h).2
 have qa:(40:UInt8)∉[114]++bB a.Rel:=by
   rw[lV ⟨g1.1,by omega⟩]; intro h
   rcases List.mem_append.1 h with h|h
   · simp at h
   · exact oO ⟨g1.1,by omega⟩ (.inl (by decide)) h
 have e:oI 20 (dB a)=some a:=by
   unfold oI
   have hc:=MB ([114]++bB a.Rel) (kz a.Terms) qa (by unfold dB at hlen; omega)
   unfold dB
   rw[hc,Option.bind_some]
   dsimp only
   rw[zH ⟨g1.1,by omega⟩,Option.bind_some]
   have hsp:bH 44 [] (kz a.Terms)=a.Terms.map dW:=qx (by intro h; rw[List.map_eq_nil_iff]at h; rw[h]at g2; simp at g2) fun z hz=>(vR g3 z hz).1
   rw[hsp,F6 a.Rel (a.Terms.map dW) 0 [] (fun y hy=>by
     obtain⟨x,hx,rfl⟩:=List.mem_map.1 hy
     have:=(nL (g3 x hx)).2.2.2.2.2.2
     omega) (by simp; omega),Ox g3]
   rfl
 unfold aS
 rw[e]; rfl
def evs:List (List UInt8)->List (List UInt8)
 |[]=>[]
 |[x]=>[x]
 |x::_::r=>x::evs r
theorem KR(s:List Int)(text:List UInt8)(w:List (List UInt8)):∀(ws:List (List UInt8))(k:Nat)(c:List Int),(∀y∈ws,y.length<=1048576)->c.length+ws.length<4294967295->sW s text w 20 ws k c=sV s text w 20 (c++ws.map tS) (((w.length:Int)-2).toNat+2) [] 2
 |[],k,c,_,_=>by simp[sW]
 |y::ws,k,c,h,hc=>by
   simp only[List.length_cons]at hc
   unfold sW
   rw[Lb (h y (by simp)),Option.bind_some,app1 (by omega),Option.bind_some,KR s text w ws _ _ (fun z hz=>h z (by simp[hz])) (by simp; omega)]
   simp
section
variable{s:List Int}(hs:s.length<4294967296)(text:List UInt8)(w:List (List UInt8))(hw:∀y∈w,y.length<=1048576)(hwl:w.length<=1048577)
include hs hw hwl
theorem F8(hd:List Int):∀(m i:Nat)(c:List aW),i<=w.length+1->w.length-i<m->dx c+iX (w.drop i)<4294967295->c.length<=i->sV s text w 20 hd m c (i:Int)=some (if (kE s {Head:=hd,Atoms:=c++(evs (w.drop i)).map aS}&&(iy {Head:=hd,Atoms:=c++(evs (w.drop i)).map aS}==text))then (({Head:=hd,Atoms:=c++(evs (w.drop i)).map aS}:bG),true)else ({Head:=[],Atoms:=[]},false))
 |0,_,_,_,hm,_,_=>by omega
 |m+1,i,c,hi,hm,ht,hc=>by
   unfold sV
   by_cases hlt:i<w.length
   · have hx:=hw w[i] (List.getElem_mem hlt)
     have ha:=Lc hx
     rw[if_pos (by simp only[decide_eq_true_eq]; omega),oP _ _ hlt,Option.bind_some,ha.1,Option.bind_some,app1 (by omega),Option.bind_some,eP (by omega) (by omega),show (i:Int)+2=((i+2:Nat):Int) by omega]
     have ed:w.drop i=w[i]::w.drop (i+1):=List.drop_eq_getElem_cons hlt
     by_cases h2:i+1<w.length
     · have oz:w.drop (i+1)=w[i+1]::w.drop (i+2):=List.drop_eq_getElem_cons h2
       have e2:iX (w.drop i)=(w[i].length+1)+((w[i+1].length+1)+iX (w.drop (i+2))):=by rw[ed,oz,Dx,Dx]
       rw[F8 hd m (i+2) (c++[aS w[i]]) (by omega) (by omega) (by rw[xJ,xK]; omega) (by simp; omega)]
       rw[ed,oz]
       simp[evs]
     · have oz:w.drop (i+1)=[]:=List.drop_eq_nil_of_le (by omega)
       have CJ:w.drop (i+2)=[]:=List.drop_eq_nil_of_le (by omega)
       have e2:iX (w.drop i)=w[i].length+1:=by rw[ed,oz]; simp[iX]
       rw[F8 hd m (i+2) (c++[aS w[i]]) (by omega) (by omega) (by rw[xJ,xK,CJ]; simp[iX]; omega) (by simp; omega)]
       rw[ed,oz,CJ]
       simp[evs]
   · have ed:w.drop i=[]:=List.drop_eq_nil_of_le (by omega)
     rw[if_neg (by simp only[decide_eq_true_eq]; omega),ed]
     have e0:(evs ([]:List (List UInt8))).map aS=[]:=rfl
     rw[e0,List.append_nil,Me s _ hs (by show dx c<_; omega),Option.bind_some]
     cases h:kE s {Head:=hd,Atoms:=c}
     · rfl
     · have ho:=Dr h
       rw[Bool.not_true,cond_false,La ho (by show dx c<_; omega),Option.bind_some,Option.bind_some]
       have ef:iy {Head:=hd,Atoms:=c}=ou {Head:=hd,Atoms:=c}:=by unfold iy; rw[if_pos ho]
       rw[ef]
       cases h2:(ou {Head:=hd,Atoms:=c}==text)<;>simp
theorem F9:∀(m i:Nat)(c:List aW),i<=w.length+1->w.length-i<m->dx c+iX (w.drop i)<4294967295->c.length<=i->uZ s text w 20 m c (i:Int)=some (if (kE s {Head:=[],Atoms:=c++(evs (w.drop i)).map aS}&&(iy {Head:=[],Atoms:=c++(evs (w.drop i)).map aS}==text))then (({Head:=[],Atoms:=c++(evs (w.drop i)).map aS}:bG),true)else ({Head:=[],Atoms:=[]},false))
 |0,_,_,_,hm,_,_=>by omega
 |m+1,i,c,hi,hm,ht,hc=>by
   unfold uZ
   by_cases hlt:i<w.length
   · have hx:=hw w[i] (List.getElem_mem hlt)
     have ha:=Lc hx
     rw[if_pos (by simp only[decide_eq_true_eq]; omega),oP _ _ hlt,Option.bind_some,ha.1,Option.bind_some,app1 (by omega),Option.bind_some,eP (by omega) (by omega),show (i:Int)+2=((i+2:Nat):Int) by omega]
     have ed:w.drop i=w[i]::w.drop (i+1):=List.drop_eq_getElem_cons hlt
     by_cases h2:i+1<w.length
     · have oz:w.drop (i+1)=w[i+1]::w.drop (i+2):=List.drop_eq_getElem_cons h2
       have e2:iX (w.drop i)=(w[i].length+1)+((w[i+1].length+1)+iX (w.drop (i+2))):=by rw[ed,oz,Dx,Dx]
       rw[F9 m (i+2) (c++[aS w[i]]) (by omega) (by omega) (by rw[xJ,xK]; omega) (by simp; omega)]
       rw[ed,oz]
       simp[evs]
     · have oz:w.drop (i+1)=[]:=List.drop_eq_nil_of_le (by omega)
       have CJ:w.drop (i+2)=[]:=List.drop_eq_nil_of_le (by omega)
       have e2:iX (w.drop i)=w[i].length+1:=by rw[ed,oz]; simp[iX]
       rw[F9 m (i+2) (c++[aS w[i]]) (by omega) (by omega) (by rw[xJ,xK,CJ]; simp[iX]; omega) (by simp; omega)]
       rw[ed,oz,CJ]
       simp[evs]
   · have ed:w.drop i=[]:=List.drop_eq_nil_of_le (by omega)
     rw[if_neg (by simp only[decide_eq_true_eq]; omega),ed]
     have e0:(evs ([]:List (List UInt8))).map aS=[]:=rfl
     rw[e0,List.append_nil,Me s _ hs (by show dx c<_; omega),Option.bind_some]
     cases h:kE s {Head:=[],Atoms:=c}
     · rfl
     · have ho:=Dr h
       rw[Bool.not_true,cond_false,La ho (by show dx c<_; omega),Option.bind_some,Option.bind_some]
       have ef:iy {Head:=[],Atoms:=c}=ou {Head:=[],Atoms:=c}:=by unfold iy; rw[if_pos ho]
       rw[ef]
       cases h2:(ou {Head:=[],Atoms:=c}==text)<;>simp
end
def mG:List aW->List (List UInt8)
 |[]=>[]
 |a::r=>[97,110,100]::dB a::mG r
theorem MM:∀r:List aW,Lib.joinTail [32,97,110,100,32] (r.map dB)=Lib.joinTail [32] (mG r)
 |[]=>rfl
 |a::r=>by
   have ih:=MM r
   simp only[Lib.joinTail,mG,List.map_cons,List.flatten_cons]at*
   rw[ih]; simp
theorem Ny:∀(r:List aW)(a:aW),evs (dB a::mG r)=dB a::r.map dB
 |[],a=>rfl
 |b::r,a=>by simp[mG,evs,Ny r b]
theorem Nz:∀r:List aW,(∀a∈r,f_ a=true)-> ∀z∈mG r,(32:UInt8)∉z
 |[],_,z,hz=>by simp[mG]at hz
 |a::r,h,z,hz=>by
   simp only[mG,List.mem_cons]at hz
   rcases hz with rfl|rfl|hz
   · decide
   · exact Ea (h a (by simp))
   · exact Nz r (fun b hb=>h b (by simp[hb])) z hz
theorem Sb(s:List Int)(hs:s.length<4294967296)(text:List UInt8)(hl:text.length<=1048576):PF (kE s) iy {Head:=[],Atoms:=[]} text (w_ 20 s text):=by
 obtain⟨l2,l1⟩:=xX 32 hl
 have hsum:=GU 32 text []
 have h1:=(Ab 32 text []).1
 simp only[List.length_nil]at hsum
 have hsp:∀g,kE s g=true->iy g=text->j_ g=true/\ ∃a r,g.Atoms=a::r/\bH 32 [] text=hTx g.Head::[105,102]::dB a::mG r:=fun g k1 k2=>by
   have ho:=Dr k1
   obtain⟨g1,g2,g3,g4,g5⟩:=ny ho
   unfold iy at k2
   rw[if_pos ho]at k2
   obtain⟨a,r,hA⟩:∃a r,g.Atoms=a::r:=by
     cases hA:g.Atoms with
     |nil=>rw[hA]at g1; simp at g1
     |cons a r=>exact⟨a,r,rfl⟩
   refine⟨ho,a,r,hA,?_⟩
   have e:text=Lib.join (hTx g.Head::[105,102]::dB a::mG r) [32]:=by
     rw[←k2]
     unfold ou
     rw[hA,List.map_cons,Lib.join_cons,MM,Lib.join_cons]
     simp[Lib.joinTail]
   rw[e]
   refine qx (by simp) fun z hz=>?_
   rw[hA]at g2
   simp only[List.mem_cons]at hz
   rcases hz with rfl|rfl|rfl|hz
   · exact Ov g5
   · decide
   · exact Ea (g2 a (by simp))
   · exact Nz r (fun b hb=>g2 b (by simp[hb])) z hz
 have hev:∀g a r,j_ g=true->g.Atoms=a::r->bH 32 [] text=hTx g.Head::[105,102]::dB a::mG r->(evs ((bH 32 [] text).drop 2)).map aS=g.Atoms:=fun g a r ho hA e=>by
   obtain⟨g1,g2,g3,g4,g5⟩:=ny ho
   rw[e]
   show (evs (dB a::mG r)).map aS=_
   rw[Ny,←List.map_cons,←hA,List.map_map]
   conv=>rhs; rw[←List.map_id g.Atoms]
   exact List.map_congr_left fun b hb=>YO (g2 b hb)
 have hd2:iX ((bH 32 [] text).drop 2)<=iX (bH 32 [] text):=by
   have:=List.take_append_drop 2 (bH 32 [] text)
   conv=>rhs; rw[←this]
   unfold iX
   rw[List.map_append,List.sum_append]; omega
 have hx0:=l2 (bH 32 [] text)[0] (List.getElem_mem (by omega))
 unfold w_
 rw[tZ text 32 hl,Option.bind_some,kV _ 0 0 rfl (by omega),Option.bind_some]
 by_cases hy:(bH 32 [] text)[0]=[121,101,115]
 · refine⟨true,{Head:=[],Atoms:=(evs ((bH 32 [] text).drop 2)).map aS},?_,fun g k1 k2=>?_⟩
   · rw[if_neg (by simp[hy])]
     have:=F9 hs text (bH 32 [] text) l2 l1 (((((bH 32 [] text).length:Nat):Int)-2).toNat+2) 2 [] (by omega) (by omega) (by simp[dx]; omega) (by simp)
     rw[show (2:Int)=((2:Nat):Int)from rfl]at*
     simpa using this
   · obtain⟨ho,a,r,hA,e⟩:=hsp g k1 k2
     obtain⟨g1,g2,g3,g4,g5⟩:=ny ho
     rw[hev g a r ho hA e]
     simp only[e,List.getElem_cons_zero]at hy
     have hn:g.Head=[]:=by
       by_cases hn:g.Head=[]
       · exact hn
       · unfold hTx at hy
         rw[if_neg hn]at hy
         exact absurd hy (Oa g5 hn)
     exact⟨rfl,by rw[←hn]⟩
 · obtain⟨m2,m1⟩:=xX 44 hx0
   refine⟨true,{Head:=(bH 44 [] (bH 32 [] text)[0]).map tS,Atoms:=(evs ((bH 32 [] text).drop 2)).map aS},?_,fun g k1 k2=>?_⟩
   · rw[if_pos (by simp[hy]),Option.bind_some,tZ _ 44 hx0,Option.bind_some,KR s text _ _ 0 [] m2 (by simp; omega)]
     have:=F8 hs text (bH 32 [] text) l2 l1 ([]++(bH 44 [] (bH 32 [] text)[0]).map tS) (((((bH 32 [] text).length:Nat):Int)-2).toNat+2) 2 [] (by omega) (by omega) (by simp[dx]; omega) (by simp)
     rw[show (2:Int)=((2:Nat):Int)from rfl]at*
     simpa using this
   · obtain⟨ho,a,r,hA,e⟩:=hsp g k1 k2
     obtain⟨g1,g2,g3,g4,g5⟩:=ny ho
     rw[hev g a r ho hA e]
     simp only[e,List.getElem_cons_zero]at hy ⊢
     have hn:g.Head≠[]:=fun hn=>hy (by unfold hTx; rw[if_pos hn])
     have eh:hTx g.Head=Lib.join (g.Head.map dW) [44]:=by unfold hTx kz; rw[if_neg hn]
     rw[eh,qx (by simpa using hn) fun z hz=>(vR g5 z hz).1,Ox g5]
     exact⟨trivial,rfl⟩
theorem Sc{s:List UInt8}{n:Int}(h:gK s=some (n,true)):Lib.itoa n=s:=by
 unfold gK gP at h
 obtain⟨r1,-,h⟩:=bind_some h
 obtain⟨o,h1,h2⟩:=bind_some h
 dsimp only at h2
 cases o
 · rw[if_neg (by simp)]at h2
   cases h2
   cases hb:r1.2
   · rw[hb]at h1; cases h1
   rw[hb,Bool.not_true,cond_false,Option.bind_some]at h1
   cases hr:(decide (-999999999<=r1.1)&&decide (r1.1<=999999999))
   · rw[hr]at h1; cases h1
   have hr':=hr
   simp only[Bool.and_eq_true,decide_eq_true_eq]at hr'
   rw[hr,Bool.not_true,cond_false,y8 _ (by omega),Option.bind_some]at h1
   simpa using h1
 · rw[if_pos rfl]at h2
   simp at h2
theorem KS(s:List UInt8):∀(m:Nat)(c1 c2 c3 n:Int),oG s 20 m c1 c2 c3=some (n,true)->fF 20 n=some s
 |0,_,_,_,_,h=>by simp[oG]at h
 |m+1,c1,c2,c3,n,h=>by
   have fin:∀(N:Int)(o:Bool),(bif (decide ((9:Int)<c2))then (some true)else (bif (decide ((10:Int)<(s.length:Int)))then (some true)else ((fF 20 N).bind fun kr=>some (!(kr==s)))))=some o->(if o then some ((0:Int),false)else some (N,true))=some (n,true)->fF 20 n=some s:=by
     intro N o h1 h2
     cases o
     · rw[if_neg (by simp)]at h2
       cases h2
       cases ha:decide ((9:Int)<c2)
       · rw[ha,cond_false]at h1
         cases hb:decide ((10:Int)<(s.length:Int))
         · rw[hb,cond_false]at h1
           obtain⟨r,e,h3⟩:=bind_some h1
           have h3':=Option.some.inj h3
           simp only[Bool.not_eq_false',beq_iff_eq]at h3'
           rw[e,h3']
         · rw[hb]at h1; cases h1
       · rw[ha]at h1; cases h1
     · rw[if_pos rfl]at h2
       simp at h2
   unfold oG at h
   split at h
   · obtain⟨⟨a,b⟩,-,h'⟩:=bind_some h
     exact KS s m a b _ n h'
   · obtain⟨uM,-,h'⟩:=bind_some h
     dsimp only at h'
     split at h'
     · obtain⟨o,h1,h2⟩:=bind_some h'
       exact fin _ o h1 h2
     · obtain⟨o,h1,h2⟩:=bind_some h'
       exact fin _ o h1 h2
theorem UU(s:List UInt8)(hl:s.length<=1048576):∃n b n' b',gK s=some (n,b)/\oL 20 s=some (n',b')/\(b&&ax 1 100 n)=(b'&&ax 1 100 n'):=by
 obtain⟨n,b,e1⟩:=ng s hl
 obtain⟨n',b',e2⟩:=y5 s hl (((s.length:Int)-0).toNat+2) 0 0 0 (by omega) (by omega) (by omega)
 have e2':oL 20 s=some (n',b'):=e2
 refine⟨n,b,n',b',e1,e2',?_⟩
 have one:(b&&ax 1 100 n)=true->(b'&&ax 1 100 n')=true:=fun h=>by
   simp only[Bool.and_eq_true,ax,decide_eq_true_eq]at h
   obtain⟨rfl,h1,h2⟩:=h
   have ht:=Sc e1
   rw[←ht,(iZ (n:=n) (by omega)).2.1]at e2'
   cases e2'
   simp only[Bool.true_and,ax,Bool.and_eq_true,decide_eq_true_eq]; omega
 have two:(b'&&ax 1 100 n')=true->(b&&ax 1 100 n)=true:=fun h=>by
   simp only[Bool.and_eq_true,ax,decide_eq_true_eq]at h
   obtain⟨rfl,h1,h2⟩:=h
   have ht:=KS s _ _ _ _ _ e2
   rw[(iZ (n:=n') (by omega)).2.2.1]at ht
   have ht':=Option.some.inj ht
   rw[←ht',(iZ (n:=n') (by omega)).1]at e1
   cases e1
   simp only[Bool.true_and,ax,Bool.and_eq_true,decide_eq_true_eq]; omega
 cases h1:(b&&ax 1 100 n)<;>cases h2:(b'&&ax 1 100 n')
 · rfl
 · exact absurd (two h2) (by simp[h1])
 · exact absurd (one h1) (by simp[h2])
 · rfl
theorem Ti(s:List Int)(hs:s.length<4294967296)(e:Event)(hl:e.Text.length<=1048576):∃b,zO s e=some b/\zL 20 s e=some b:=by
 obtain⟨m1,rm,m2⟩:=DY (RN s hs e.Text hl) (RO s hs e.Text hl)
 obtain⟨r1,rr,r2⟩:=DY (Sy s hs e.Text hl) (Sz s hs e.Text hl)
 obtain⟨f1,rf,f2⟩:=DY (Su s hs e.Text hl) (Sw s hs e.Text hl)
 obtain⟨q1,rq,q2⟩:=DY (Sa s hs e.Text hl) (Sb s hs e.Text hl)
 obtain⟨n,b,n',b',w1,w2,w3⟩:=UU e.Text hl
 rw[m2]at m1
 rw[r2]at r1
 rw[f2]at f1
 rw[q2]at q1
 have wi:((bif b then ((gP n 1 100).bind fun iq=>some iq)else (some false)).bind fun CE=>match CE with|c53=>if c53 then some true else some false)=some (b&&ax 1 100 n):=by
   cases b
   · rfl
   · rw[cond_true,lT,Option.bind_some,Option.bind_some]
     cases ax 1 100 n<;>rfl
 have ws:((bif b' then ((dL n' 1 100).bind fun fo=>some fo)else (some false)).bind fun ko=>match ko with|c20=>some c20)=some (b'&&ax 1 100 n'):=by
   cases b'
   · rfl
   · rw[cond_true,iR,Option.bind_some,Option.bind_some]; rfl
 have bb:∀x:Bool,(if x then some true else some false)=some x:=fun x=>by cases x<;>rfl
 unfold zO Da zL
 by_cases h1:e.Kind=1
 · refine⟨rm.2,?_,?_⟩
   · rw[if_pos (by simp[h1]),m2,Option.bind_some,bb]; rfl
   · rw[if_pos (by simp[h1]),←m1]; rfl
 by_cases h2:e.Kind=2
 · refine⟨rr.2,?_,?_⟩
   · rw[if_neg (by simp[h1]),if_pos (by simp[h2]),r2,Option.bind_some,bb]; rfl
   · rw[if_neg (by simp[h1]),if_pos (by simp[h2]),←r1]; rfl
 by_cases h3:e.Kind=3
 · refine⟨rf.2,?_,?_⟩
   · rw[if_neg (by simp[h1]),if_neg (by simp[h2]),if_pos (by simp[h3]),if_pos (by simp[h3]),f2,Option.bind_some,bb]; rfl
   · rw[if_neg (by simp[h1]),if_neg (by simp[h2]),if_pos (by simp[h3]),if_pos (by simp[h3]),←f1]; rfl
 by_cases h4:e.Kind=4
 · refine⟨rf.2,?_,?_⟩
   · rw[if_neg (by simp[h1]),if_neg (by simp[h2]),if_neg (by simp[h3]),if_pos (by simp[h4]),f2,Option.bind_some,bb]; rfl
   · rw[if_neg (by simp[h1]),if_neg (by simp[h2]),if_neg (by simp[h3]),if_pos (by simp[h4]),←f1]; rfl
 by_cases h5:e.Kind=5
 · refine⟨b&&ax 1 100 n,?_,?_⟩
   · rw[if_neg (by simp[h1]),if_neg (by simp[h2]),if_neg (by simp[h3]),if_neg (by simp[h4]),if_pos (by simp[h5]),w1,Option.bind_some]
     dsimp only at wi ⊢
     rw[wi]; rfl
   · rw[if_neg (by simp[h1]),if_neg (by simp[h2]),if_neg (by simp[h3]),if_neg (by simp[h4]),if_pos (by simp[h5]),w2,Option.bind_some,w3]
     exact ws
 by_cases h6:e.Kind=6
 · refine⟨rq.2,?_,?_⟩
   · rw[if_neg (by simp[h1]),if_neg (by simp[h2]),if_neg (by simp[h3]),if_neg (by simp[h4]),if_neg (by simp[h5]),if_pos (by simp[h6]),q2,Option.bind_some,bb]; rfl
   · rw[if_neg (by simp[h1]),if_neg (by simp[h2]),if_neg (by simp[h3]),if_neg (by simp[h4]),if_neg (by simp[h5]),if_pos (by simp[h6]),←q1]; rfl
 · refine⟨false,?_,?_⟩
   · rw[if_neg (by simp[h1]),if_neg (by simp[h2]),if_neg (by simp[h3]),if_neg (by simp[h4]),if_neg (by simp[h5]),if_neg (by simp[h6])]; rfl
   · rw[if_neg (by simp[h1]),if_neg (by simp[h2]),if_neg (by simp[h3]),if_neg (by simp[h4]),if_neg (by simp[h5]),if_neg (by simp[h6])]
theorem Rz{s:List Int}{e:Event}(ws:Es Ei s)(we:Pn e):∃fuel,CZ fuel s e=some true:=by
 refine⟨20,?_⟩
 unfold CZ
 by_cases h:(1048576:Int)<(s.length:Int)
 · rw[if_pos (by simpa using h)]
 rw[if_neg (by simpa using h)]
 have hs:s.length<4294967296:=by omega
 have hb:wE yc s:=UC s hs
 have hw:e.Text.length<=140737488351232:=we.2
 unfold Du
 rw[eP (by omega) (by omega)]
 by_cases h2:(1048576:Int)-(e.Text.length:Int)<0
 · rw[if_pos (by simpa using h2),Option.bind_some,if_pos (by decide)]
 rw[if_neg (by simpa using h2),Option.bind_some,if_neg (by simpa using h2)]
 obtain⟨b,e1,e2⟩:=Ti s hs e (by omega)
 simp only[Vf s hb,UK e trivial,e1,e2,Vg,Option.bind_some,beq_self_eq_true,Bool.not_true,Bool.false_eq_true,if_false]
end Go.Proofs.YtcjkjmnbdlnojaaGreatDoor
/-
 The row FnExactIsEvent.
-/
set_option maxRecDepth 100000
namespace Go.Proofs.YtcjkjmnbdlnojaaGreatDoor.fnExactIsEvent
open Go Go.Fw Go.ChangeShapes Go.WideShapes Go.ChangeAt Go.RowKit
theorem own:ownKnob Tryz.prog.godebug=none:=by kernel_rfl
theorem UV(os:Os)(args:Array Value):laidMetH Tryz.prog Rows.fnExactIsEventRow.laid ((World.laidAll Tryz.prog os Rows.fnExactIsEventRow.laid).forCall (fun _ _=>0) ⟨#[],args,[]⟩).memory:=by
 rw[MakeChecks.laidMetH_plain _ _ _ (by kernel_rfl)]
 exact laidMet_laidAll _ (by kernel_rfl) (by kernel_rfl)
theorem aa5:Tryz.prog.globalNamed "internal/strconv.uint64pow10" =some 5:=by kernel_rfl
theorem YP:(Tryz.prog.globals[5]?).map (·.type)=some 311:=by kernel_rfl
theorem YQ:Tryz.prog.globalNamed "strconv.ErrRange" =some 2:=by kernel_rfl
theorem YR:Tryz.prog.globalNamed "strconv.ErrSyntax" =some 1:=by kernel_rfl
theorem Ob:"*" ++ "errors.errorString" = "*errors.errorString":=by decide
theorem Oy(u:TypeId)(h:Tryz.prog.typeName? 3 u=some "*errors.errorString"):u=286:=
 typeName_ptr_named (nm:="errors.errorString") (by rw[Ob]; kernel_rfl) (by kernel_rfl) (by decide) u (by rw[Ob]; exact h)
theorem laidOut:laidOutB Tryz.prog=true:=by kernel_rfl
set_option maxRecDepth 100000 in
theorem lifted(os:Os)(started:os.Started)(H:Type)(enc:TypeId×Value->H):
   ReturnsInHanded {} Tryz.checked os 3 .any (fun w args=>(Rows.fnExactIsEventSpec.pre enc Tryz.prog Tryz.f3 [] false w args/\laidMetH Tryz.prog Rows.fnExactIsEventRow.laid w)/\sizedMet enc Tryz.prog Tryz.f3 (OpenSpec.ofChange Rows.fnExactIsEventSpec) false w args) (Rows.fnExactIsEventSpec.post enc Tryz.prog Tryz.f3 false true false false):=by
 refine Rv (C:=Tryz.checked) (X:=fun w _=>laidMetH Tryz.prog Rows.fnExactIsEventRow.laid w) (fun _ _ _ hh h=>h.of_heap hh) own started (by kernel_rfl) Tryz.func3
   (ChangeSpec.witness_shaped (enc:=enc) (C:=Tryz.checked) (os:=os) (X:=fun w _=>laidMetH Tryz.prog Rows.fnExactIsEventRow.laid w) false (World.laidAll Tryz.prog os Rows.fnExactIsEventRow.laid) #[.slice none 0 0,.agg #[.int .i64 0,.string ⟨#[]⟩]] 16 rfl (World.shaped_of_ZipB (by kernel_rfl) (by kernel_rfl)) (by kernel_rfl) (by kernel_rfl) (by kernel_rfl) (UV os _)) ?_
 intro W base args ds gs before hval hW _ hwt hL hsh _
 rw[MakeChecks.laidMetH_plain _ _ _ (by kernel_rfl)]at hL
 have htab:Lib.TabIs Tryz.prog W "internal/strconv.uint64pow10" .u64 Lib.pow10Tab:=Lib.tabIs_of_head aa5 YP (show Tryz.prog.underlying 311=some (.array 20 256) by kernel_rfl) (show Tryz.prog.underlying 256=some (.int .u64) by kernel_rfl) (by kernel_rfl) (by kernel_rfl) (laidMet.tail (laidMet.tail hL))
 have aa6:∃m,W.cell? ⟨0,0,none⟩=some (.int .i64 m):=Go.Proofs.cell_of_shapedOpen_int (t:=3) (zero:=#[.int .i64 0]) hsh (by decide+kernel) (by kernel_rfl) rfl (by kernel_rfl) (by kernel_rfl) (by kernel_rfl)
 have Um:∃tp p,W.var? Tryz.prog "strconv.ErrRange" =some #[.iface tp p]:=by
   obtain⟨a,_,h,-⟩:=laid_sentinel (tp:=286) (te:=288) (ts:=9) (laidMet.tail (laidMet.tail (laidMet.tail (laidMet.tail hL)))) YQ (by kernel_rfl) (show Tryz.prog.underlying 128=some (.interface (Tryz.prog.methodsAt 128)) by kernel_rfl) Oy (by kernel_rfl) Tryz.underlying288 rfl rfl (by kernel_rfl) (by kernel_rfl) (by kernel_rfl)
   exact⟨_,_,h⟩
 have TZ:∃tp p,W.var? Tryz.prog "strconv.ErrSyntax" =some #[.iface tp p]:=by
   obtain⟨a,_,h,-⟩:=laid_sentinel (tp:=286) (te:=288) (ts:=9) (laidMet.tail (laidMet.tail (laidMet.tail (laidMet.tail (laidMet.tail hL))))) YR (by kernel_rfl) (show Tryz.prog.underlying 128=some (.interface (Tryz.prog.methodsAt 128)) by kernel_rfl) Oy (by kernel_rfl) Tryz.underlying288 rfl rfl (by kernel_rfl) (by kernel_rfl) (by kernel_rfl)
   exact⟨_,_,h⟩
 have hW':=hW
 obtain⟨p,q,KC,hV,rfl,hfz,hnd⟩:=hW
 obtain⟨rfl,rfl⟩:=trodVars_none hV
 have hA:DataW.TrodAll enc Tryz.prog W 0 (fun _=>true) true [22,24] args.toList ds p:=KC
 have hw:∀n∈DataW.weightsEach Tryz.prog [22,24] ds,n<=reachBytes:=fun n hn=>by
   have:=List.all_eq_true.1 hwt n (by rw[List.append_nil]; exact hn)
   simpa using this
 obtain⟨v0,vs0,d0,ds0,p0,ρ0,H0,Qn,a0,e0,rfl,KC,hw0,r0,f0,u0,i0,rv0,q0,w0⟩:=NI hA hw (jE.slice (s:=1) (by kernel_rfl) (by kernel_rfl) (by decide) (Nat.lt_of_lt_of_le (by decide) (Nat.le_of_eq (show 8=_ from by kernel_rfl))) (jE.int (by kernel_rfl))) (fun H v a h=>by obtain⟨_,_,rfl⟩:=cO.len h; kernel_rfl) (r:=.any) (base:=base) (fun v h=>hval 0 22 v rfl (Oi h)) (Rel.nil _ W ⟨htab,TZ,Um,aa6⟩) jQ.nil
 obtain⟨v1,vs1,d1,ds1,p1,ρ1,H1,JE,a1,e1,rfl,hA1,hw1,r1,f1,u1,i1,rv1,q1,w1⟩:=NI KC hw0 Zw Zv (r:=.any) (base:=base) (fun v h=>hval 1 24 v rfl (Oi (by rw[e0]; exact h))) r0 f0
 obtain⟨en,rfl⟩:=UA hA1
 subst en
 obtain⟨QO,QP,rfl⟩:=cO.len q0
 obtain rfl:JE=(.agg [(.int .i64 a1.Kind),(sv a1.Text)].toArray):=q1
 have hargs:aQ ρ1 [(.slice QO a0.length QP),(.agg [(.int .i64 a1.Kind),(sv a1.Text)].toArray)] args.toList:=by
   rw[e0,e1]
   exact (.cons _ _ _ _ (rv0.up u1) (.cons _ _ _ _ rv1 .nil))
 obtain⟨fuel,aa7⟩:=Rz w0 w1
 refine ((@Ru fuel a0 ⟨QO,_,QP⟩ a1 true aa7) H1 [] (Ctx.dup (Ctx.start _) (dD.up q0 i1) rfl) ρ1 W args r1 hargs).mono ?_
 rintro e w' ⟨v,r,ρ',H',rfl,h1,h2,h3,x,h5,-⟩
 have h6:r= .bool true:=h5
 subst h6
 refine⟨_,rfl,?_⟩
 rw[h1.bool_inv]
 refine Ut hW' rfl laidOut (by kernel_rfl) rfl (by kernel_rfl) (fun d=>?_) (h3.below f1)
 by_cases hd:d=[d0,d1]
 · subst hd; exact .inl ⟨rfl,rfl,rfl⟩
 · exact .inr (by simpa using hd)
theorem named:Tryz.pinned.checked.prog.funcNamed Rows.fnExactIsEventRow.func=some 3:=by kernel_rfl
set_option maxHeartbeats 10000000 in
theorem closed:joinedFacts Tryz.pinned.checked.prog 3 Tryz.f3 Rows.fnExactIsEventSpec Rows.fnExactIsEventRow=true:=by
 simp only[joinedFacts,Bool.and_eq_true]
 repeat' refine And.intro ?_ ?_
 all_goals (as_aux_lemma=>kernel_rfl)
theorem over:Rows.fnExactIsEventRow.holds Tryz.pinned (OpenSpec.ofChange Rows.fnExactIsEventSpec):=
 OpenClaim.holds_of_wide 3 Tryz.f3 rfl rfl rfl rfl rfl rfl rfl ⟨rfl,rfl,rfl,rfl,rfl⟩ rfl rfl rfl rfl rfl named Tryz.func3 closed
   (of_decide_eq_true (by kernel_rfl)) (by unfold Func.isWrapper; first|(rw[if_pos (by decide+kernel)]; kernel_rfl)|(rw[if_neg (by decide+kernel)]; exact⟨rfl,rfl⟩))
   (fun os started H enc _=>lifted os started H enc)
theorem proved:Rows.FnExactIsEventCardSaid:=
 Claim7.holds_tied_plain_at .later [] [.data,.data,.data,.data,.sentinel,.sentinel,.pinned] true (true,"f5f29142461482cda904e2be373e60663bd88d19b28a0364700a1047fcdb8440") true
   over (fun _ h=>by cases h) (by as_aux_lemma=>kernel_rfl) (fun _ h=>by cases h) fnExactIsEvent_row_tie rfl ⟨rfl,rfl⟩ (by as_aux_lemma=>kernel_rfl) rfl
   (fun f fn hf hfn=>by
     obtain rfl:f=3:=Option.some.inj ((show Tryz.prog.funcNamed "loop.example/g01989/laws.FnExactIsEvent" =some 3 by as_aux_lemma=>kernel_rfl).symm.trans hf) |>.symm
     obtain rfl:fn=Tryz.f3:=(Option.some.inj (Tryz.func3.symm.trans hfn)).symm
     exact⟨by as_aux_lemma=>kernel_rfl,fun j t ht=>by
       have hm:t∈[22,24]:=by simpa using (Array.mem_of_getElem? ht:t∈(#[22,24]:Array TypeId))
       have hall:([22,24].all fun u=>!Tryz.prog.wantsStandIn u)=true:=by as_aux_lemma=>kernel_rfl
       exact (show Tryz.prog.wantsStandIn t=false by simpa using List.all_eq_true.1 hall t hm)⟩)
   (by as_aux_lemma=>kernel_rfl)
end Go.Proofs.YtcjkjmnbdlnojaaGreatDoor.fnExactIsEvent
