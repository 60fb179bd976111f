/-
  FnExactParseLog: the plain law and the row: for all arguments.
-/
import Derived.Test.YtmmlepaliceaiaaDoorParseLogG0
import Derived.Test.YtmmlepaliceaiaaDoorFc
import Derived.Test.YtmmlepaliceaiaaDoorRows
import Derived.Test.YtmmlepaliceaiaaDoorTie
import Derived.Test.YtmmlepaliceaiaaDoorCards
import Derived.LaidMore
import Derived.OpenShut
import Derived.Stop.Joined
import Derived.Stop.LaidErr
import Derived.Lay
import Derived.SevenTiedAt
import Derived.Lib.LaidTab
import Derived.WalkKit
import Derived.KernelRfl
/-
 Plain laws of the helpers. Written by a program.
-/
set_option maxRecDepth 100000
set_option maxHeartbeats 4000000
set_option linter.unusedVariables false
namespace Go.Proofs.YtmmlepaliceaiaaDoor
open Go Go.Fw
def pQ(a:ak):Prop:=(fI lK) a.Values
theorem CO:∀(a:List Int),pV a a=some true:=
 wZ (fun _ _=>rfl) (fun _ _=>rfl) (fun b x r k h=>by
   rw[kY,gM,h]
   simp)
theorem Bv(a:ak):mQ a a=some true:=by simp[mQ,CO]
theorem wh:∀(a:List ak),mK a a=some true:=
 wZ (fun _ _=>rfl) (fun _ _=>rfl) (fun b x r k h=>by
   rw[kV,gM,h]
   simp[Bv])
theorem Bw:∀(a:List Int)(k:Int),(fI lK) a->0<=k->k+(bR (fun _=>1) a:Int)<4611686018427387904->pJ a k=some (k+bR (fun _=>1) a,fo (fun _ k=>k) (fun _=>1) k a):=
 vV (fun _ _=>rfl) (fun m c k j h=>by rw[jT,if_neg (by simp; omega)]) (fun m c k j x e hl hj hp hk hm=>by
   rw[jT,if_pos (by simp; omega)]
   simp (disch:=first|omega|assumption|(simp only[List.length_set]; omega)) only[gK (show (decide (0<=(j:Int))&&decide ((j:Int)<(c.length:Int)))=true by simp; omega),ek,Int.toNat_natCast,Option.bind_some,Int.natCast_add,Int.cast_ofNat_Int])
def fB(a:ak):Nat:=1+bR (fun _=>1) a.Values
def pM(a:ak)(k:Int):ak:={Method:=k,Values:=fo (fun _ k=>k) (fun _=>1) (k+1) a.Values}
theorem AB:∀(a:List ak)(k:Int),(fI pQ) a->0<=k->k+(bR fB a:Int)<4611686018427387904->pE a k=some (k+bR fB a,fo pM fB k a):=
 vV (fun _ _=>rfl) (fun m c k j h=>by rw[jN,if_neg (by simp; omega)]) (fun m c k j x e hl hj hp hk hm=>by
   have e':ix c (j:Int)=some x:=by rw[gM,e]
   have Be:(fI lK) x.Values:=hp
   simp only[fB,Int.natCast_add,Int.cast_ofNat_Int]at hm ⊢
   rw[jN,if_pos (by simp; omega)]
   simp (disch:=first|omega|assumption|(simp only[List.length_set]; omega)) only[e',Bw,pM,Eh,List.set_set,ek,Int.toNat_natCast,Option.bind_some,Int.add_assoc])
theorem Bz:∀(a:List Int)(k:Int),(fI lK) a->0<=k->k+(bR (fun _=>1) a:Int)<4611686018427387904->pK (fo (fun _ k=>k) (fun _=>1) k a) k=some (k+bR (fun _=>1) a):=
 vW (fun _ _=>rfl) (fun _ _=>rfl) (fun x r n k hp hk hm=>by
   simp (disch:=first|omega|assumption) only[kW,ek,bne_self_eq_false,Bool.false_eq_true,if_false,Int.cast_ofNat_Int])
theorem AJ:∀(a:List ak)(k:Int),(fI pQ) a->0<=k->k+(bR fB a:Int)<4611686018427387904->mH (fo pM fB k a) k=some (k+bR fB a):=
 vW (fun _ _=>rfl) (fun _ _=>rfl) (fun x r n k hp hk hm=>by
   have Be:(fI lK) x.Values:=hp
   simp only[fB,Int.natCast_add,Int.cast_ofNat_Int]at hm ⊢
   simp (disch:=first|omega|assumption) only[kU,pM,Bz,ek,bne_self_eq_false,Bool.false_eq_true,if_false,Dp,Option.bind_some,Int.add_assoc])
end Go.Proofs.YtmmlepaliceaiaaDoor
/-
 Plain laws.
-/
set_option maxRecDepth 100000
set_option linter.unusedVariables false
namespace Go.Proofs.YtmmlepaliceaiaaDoor
open Go Go.Fw
theorem wM(x lo hi:Int):nu x lo hi=some (dO lo hi x):=rfl
theorem AX(x lo hi:Int):jX x lo hi=some (dO lo hi x):=rfl
theorem zu(l:List Int):mh l=some (l.any fun x=>!dO 0 9 x):=by
 unfold mh oQ
 rw[vX (L:=kR) (f:=fun x=>pu x) (p:=fun x=>!dO 0 9 x) (fun k=>rfl) (fun x r k=>rfl) l 0 (fun x hx=>rfl),Option.bind_some,xA]
theorem Ad(l:List Int):mJ l=some (l.all (dO 0 9)):=by
 simp only[mJ,zu,Option.bind_some,List.all_eq_not_any_not]
def bC(n:Int):List UInt8:=[UInt8.ofNat (48+n.toNat)]
theorem qW{K:Nat}(hK:2<=K)(n:Int)(h:0<=n/\n<=9):fA K n=some (bC n):=by
 obtain⟨k,rfl⟩:∃k,K=k+2:=⟨K-2,by omega⟩
 obtain⟨h0,h1⟩:=h
 have:n=0\/n=1\/n=2\/n=3\/n=4\/n=5\/n=6\/n=7\/n=8\/n=9:=by omega
 rcases this with rfl|rfl|rfl|rfl|rfl|rfl|rfl|rfl|rfl|rfl<;>rfl
theorem BZ(n:Int)(h:0<=n/\n<=9):Lib.itoa n=bC n:=by
 unfold Lib.itoa bC
 rw[if_neg (by omega),Lib.decDigits,dif_pos (by omega)]
theorem vB(n:Int)(h:0<=n/\n<=9):ig n=some (bC n):=by
 rw[ig,mD,if_pos (by omega),BZ n h]; rfl
theorem Bf(x y:List UInt8)(l:List (List UInt8))(sep:List UInt8):Lib.join (x::y::l) sep=x++(sep++Lib.join (y::l) sep):=by
 simp[Lib.join,List.intercalate,List.intersperse]
theorem join_one(x:List UInt8)(sep:List UInt8):Lib.join [x] sep=x:=by
 simp[Lib.join,List.intercalate,List.intersperse]
def fT(sep:List UInt8)(l:List (List UInt8)):List UInt8:=l.flatMap fun x=>sep++x
theorem mU(x:List UInt8)(sep:List UInt8):∀l:List (List UInt8),Lib.join (x::l) sep=x++fT sep l
 |[]=>by rw[join_one]; simp[fT]
 |y::l=>by rw[Bf,mU y sep l]; simp[fT]
theorem rE(sep:List UInt8)(n:Nat):∀l:List (List UInt8),(∀x∈l,x.length<=n)->(fT sep l).length<=(sep.length+n)*l.length
 |[],_=>by simp[fT]
 |x::l,h=>by
   have h1:=rE sep n l fun y hy=>h y (by simp[hy])
   have h2:=h x (by simp)
   simp only[fT,List.flatMap_cons,List.length_append,List.length_cons,Nat.mul_succ]at*
   omega
theorem vC{K:Nat}(hK:2<=K):∀(l:List Int)(k:Nat)(c:List UInt8),0<k->(∀x∈l,0<=x/\x<=9)->c.length+2*l.length<4294967296->ic K l k c=some (c++fT [44] (l.map bC))
 |[],k,c,_,_,_=>by simp[ic,fT]
 |x::l,k,c,hk,h,hl=>by
   simp only[List.length_cons]at hl
   have e1:aI c [44]=some (c++[44]):=by unfold aI; rw[if_pos (by simp; omega)]
   have e2:aI (c++[44]) (bC x)=some (c++[44]++bC x):=by unfold aI; rw[if_pos (by simp[bC]; omega)]
   unfold ic
   rw[if_pos (by simpa using hk),e1,Option.bind_some,qW hK x (h x (by simp)),Option.bind_some,e2,Option.bind_some,Option.bind_some]
   dsimp only
   rw[vC hK l _ _ (by omega) (fun y hy=>h y (by simp[hy])) (by simp[bC]; omega)]
   simp[fT]
theorem AY{K:Nat}(hK:2<=K)(l:List Int)(h:∀x∈l,0<=x/\x<=9)(hl:l.length<=3):mW K l=some (Lib.join (l.map bC) [44]):=by
 unfold mW
 cases l with
 |nil=>rfl
 |cons x l=>
   simp only[List.length_cons]at hl
   have e2:aI [] (bC x)=some (bC x):=by unfold aI; rw[if_pos (by simp[bC])]; rfl
   unfold ic
   rw[if_neg (by simp),qW hK x (h x (by simp)),Option.bind_some,e2,Option.bind_some,Option.bind_some]
   dsimp only
   rw[vC hK l _ _ (by omega) (fun y hy=>h y (by simp[hy])) (by simp[bC]; omega),List.map_cons,mU]
theorem vD:∀(l:List Int)(k:Nat)(c:List (List UInt8)),(∀x∈l,0<=x/\x<=9)->c.length+l.length<=3->(∀x∈c,x.length<=1)->jh [44] l k c=some (Lib.join (c++l.map bC) [44])
 |[],k,c,_,hl,hc=>by
   have hj:(Lib.join c [44]).length<=10:=by
     cases c with
     |nil=>simp[Lib.join,List.intercalate]
     |cons x c=>
       rw[mU,List.length_append]
       have h1:=rE [44] 1 c fun y hy=>hc y (by simp[hy])
       have h2:=hc x (by simp)
       simp only[List.length_cons,List.length_nil]at h1 hl
       omega
   simp only[List.length_nil,Nat.add_zero]at hl
   unfold jh
   rw[pq,if_pos ⟨by omega,by omega⟩]
   simp
 |x::l,k,c,h,hl,hc=>by
   simp only[List.length_cons]at hl
   unfold jh
   rw[vB x (h x (by simp)),Option.bind_some,xN (by simp; omega),Option.bind_some,vD l _ _ (fun y hy=>h y (by simp[hy])) (by simp; omega) (fun y hy=>by
     rcases List.mem_append.1 hy with hy|hy
     · exact hc y hy
     · rw[List.mem_singleton.1 hy]; simp[bC])]
   simp
theorem AZ(l:List Int)(h:∀x∈l,0<=x/\x<=9)(hl:l.length<=3):mX l [44]=some (Lib.join (l.map bC) [44]):=by
 rw[mX,vD l 0 [] h (by simpa using hl) (by simp)]; rfl
def fQ(a:ak):Bool:=dO 0 4 a.Method&&(!decide ((3:Int)<(a.Values.length:Int))&&a.Values.all (dO 0 9))
def bA(a:ak):List UInt8:=if fQ a then [109]++bC a.Method++[40]++Lib.join (a.Values.map bC) [44]++[41]else []
theorem rF(l:List Int)(hl:l.length<=3):(Lib.join (l.map bC) [44]).length<=7:=by
 cases l with
 |nil=>simp[Lib.join,List.intercalate]
 |cons x l=>
   rw[List.map_cons,mU,List.length_append]
   have h1:=rE [44] 1 (l.map bC) fun y hy=>by
     obtain⟨z,-,rfl⟩:=List.mem_map.1 hy
     simp[bC]
   simp only[List.length_cons,List.length_nil,List.length_map]at h1 hl
   have:(bC x).length=1:=rfl
   omega
theorem q8{a:ak}(h:fQ a=true):(0<=a.Method/\a.Method<=4)/\a.Values.length<=3/\ ∀x∈a.Values,0<=x/\x<=9:=by
 simp only[fQ,Bool.and_eq_true,Bool.not_eq_true',decide_eq_false_iff_not,List.all_eq_true,dO,decide_eq_true_eq]at h
 exact⟨h.1,by omega,h.2.2⟩
theorem wm{m v:List UInt8}(hm:m.length<=1)(hv:v.length<=7):(((aI [109] m).bind fun x=>(aI x [40]).bind fun y=>(aI y v).bind fun z=>aI z [41]):Option (List UInt8))=some ([109]++m++[40]++v++[41]):=by
 have e1:aI [109] m=some ([109]++m):=by unfold aI; rw[if_pos (by simp; omega)]
 have e2:aI ([109]++m) [40]=some ([109]++m++[40]):=by unfold aI; rw[if_pos (by simp; omega)]
 have e3:aI ([109]++m++[40]) v=some ([109]++m++[40]++v):=by unfold aI; rw[if_pos (by simp; omega)]
 have e4:aI ([109]++m++[40]++v) [41]=some ([109]++m++[40]++v++[41]):=by unfold aI; rw[if_pos (by simp; omega)]
 rw[e1,Option.bind_some,e2,Option.bind_some,e3,Option.bind_some,e4]
theorem uX{K:Nat}(hK:2<=K)(a:ak)(hm:0<=a.Method/\a.Method<=4)(hl:a.Values.length<=3):∀(l:List Int)(k:Nat),(l.all (dO 0 9)=true-> ∀x∈a.Values,0<=x/\x<=9)->jd a K l k=some (if l.all (dO 0 9)then [109]++bC a.Method++[40]++Lib.join (a.Values.map bC) [44]++[41]else [])
 |[],k,hv=>by
   have hv':=hv rfl
   have hj:=rF a.Values hl
   have:=wm (m:=bC a.Method) (v:=Lib.join (a.Values.map bC) [44]) (by simp[bC]) hj
   unfold jd
   rw[qW hK _ (by omega),Option.bind_some,AY hK a.Values hv' hl]
   simp only[Option.bind_some]at this ⊢
   rw[if_pos (by rfl),←this]
   cases aI [109] (bC a.Method)with
   |none=>rfl
   |some x=>
     simp only[Option.bind_some]
     cases aI x [40]with
     |none=>rfl
     |some y=>
       simp only[Option.bind_some]
       cases aI y (Lib.join (a.Values.map bC) [44])with
       |none=>rfl
       |some z=>
         simp only[Option.bind_some]
         cases aI z [41]<;>rfl
 |x::l,k,hv=>by
   unfold jd
   rw[wM,Option.bind_some]
   cases h:dO 0 9 x
   · simp[h]
   · rw[if_neg (by simp),uX hK a hm hl l _ (fun h'=>hv (by simp[h,h']))]; simp[h]
theorem wN{l:List Int}(h:l.all (dO 0 9)=true):∀x∈l,0<=x/\x<=9:=by
 simpa only[List.all_eq_true,dO,Bool.and_eq_true,decide_eq_true_eq]using h
theorem u6{K:Nat}(hK:2<=K)(a:ak):mr K a=some (bA a):=by
 unfold mr bA fQ
 rw[wM,Option.bind_some]
 cases h1:dO 0 4 a.Method
 · rfl
 by_cases h2:(3:Int)<(a.Values.length:Int)
 · simp[h2]
 · have hm:0<=a.Method/\a.Method<=4:=by simpa only[dO,Bool.and_eq_true,decide_eq_true_eq]using h1
   simp only[h2,Bool.not_true,cond_false,decide_false,Option.bind_some,Bool.false_eq_true,if_false,Bool.not_false,Bool.true_and]
   exact uX hK a hm (by omega) a.Values 0 wN
theorem zQ(a:ak):mE a=some (bA a):=by
 unfold mE bA fQ
 rw[AX,Option.bind_some]
 cases h1:dO 0 4 a.Method
 · rfl
 by_cases h2:(3:Int)<(a.Values.length:Int)
 · simp[h2]
 · have hm:0<=a.Method/\a.Method<=4:=by simpa only[dO,Bool.and_eq_true,decide_eq_true_eq]using h1
   simp only[h2,Bool.not_true,cond_false,decide_false,Ad,Option.bind_some,Bool.not_false,Bool.true_and]
   cases h3:a.Values.all (dO 0 9)
   · rfl
   · have hl:a.Values.length<=3:=by omega
     have:=wm (m:=bC a.Method) (v:=Lib.join (a.Values.map bC) [44]) (by simp[bC]) (rF a.Values hl)
     simp only[Bool.not_true,Bool.false_eq_true,if_false,if_true]
     rw[vB _ (by omega),Option.bind_some,AZ a.Values (wN h3) hl]
     simp only[Option.bind_some]at this ⊢
     rw[←this]
     cases aI [109] (bC a.Method)with
     |none=>rfl
     |some x=>
       simp only[Option.bind_some]
       cases aI x [40]with
       |none=>rfl
       |some y=>
         simp only[Option.bind_some]
         cases aI y (Lib.join (a.Values.map bC) [44])with
         |none=>rfl
         |some z=>
           simp only[Option.bind_some]
           cases aI z [41]<;>rfl
theorem wO(a:ak):(bA a).length<=11:=by
 unfold bA
 split
 · rename_i h
   have:=rF a.Values (q8 h).2.1
   simp[bC]; omega
 · simp
def lW(log:List ak):List UInt8:=if log=[]then [110,111,110,101]else if log.any (fun a=>bA a==[])then []else Lib.join (log.map bA) [32]
theorem u7{K:Nat}(hK:2<=K):∀(l:List ak)(k:Nat)(c:List UInt8),0<k->c≠[]->c.length+12*l.length<4611686018427387904->h_ K l k c=some (if l.any (fun a=>bA a==[])then []else c++fT [32] (l.map bA))
 |[],k,c,_,hc,_=>by
   unfold h_
   rw[if_neg (by simpa using hc)]; simp[fT]
 |a::l,k,c,hk,hc,hl=>by
   simp only[List.length_cons]at hl
   have h11:=wO a
   unfold h_
   rw[u6 hK,Option.bind_some]
   cases he:bA a==[]
   · have e1:aI c [32]=some (c++[32]):=by unfold aI; rw[if_pos (by simp; omega)]
     have e2:aI (c++[32]) (bA a)=some (c++[32]++bA a):=by unfold aI; rw[if_pos (by simp; omega)]
     rw[if_neg (by simp),if_pos (by simpa using hk),e1,Option.bind_some,e2,Option.bind_some,Option.bind_some]
     dsimp only
     rw[u7 hK l _ _ (by omega) (by simp) (by simp; omega)]
     have hne:bA a≠[]:=by simpa using he
     simp[hne,fT]
   · rw[if_pos rfl,Option.bind_some]
     have hE:bA a=[]:=by simpa using he
     simp[hE]
theorem pF(u:Nat):Lib.decDigits u=if u<10 then [UInt8.ofNat (48+u)]else Lib.decDigits (u / 10)++[UInt8.ofNat (48+u % 10)]:=by
 rw[Lib.decDigits]
 by_cases h:u<10
 · rw[dif_pos h,if_pos h]
 · rw[dif_neg h,if_neg h]
theorem vI:∀(m u:Nat),u<10 ^ (m+1)->(Lib.decDigits u).length<=m+1
 |0,u,h=>by rw[pF,if_pos (by simpa using h)]; simp
 |m+1,u,h=>by
   rw[pF]
   split
   · simp
   · have:=vI m (u / 10) (by rw[Nat.pow_succ]at h; omega)
     rw[List.length_append,List.length_singleton]; omega
theorem uZ:∀(m u:Nat)(n:Int)(c:List UInt8),n.natAbs=u->u<10 ^ m-> -9223372036854775808<=n/\n<=9223372036854775807->c.length+m<4294967296->gH (m+1) n c=some ((if u=0 then []else Lib.decDigits u)++c)
 |0,u,n,c,hu,h,_,_=>by
   have h0:n=0:=by simp at h; omega
   subst h0
   have:u=0:=by simpa using hu.symm
   subst this
   unfold gH
   rw[if_neg (by simp)]; rfl
 |m+1,u,n,c,hu,h,hr,hc=>by
   by_cases h0:u=0
   · have hn:n=0:=by omega
     subst hn
     subst h0
     unfold gH
     rw[if_neg (by simp)]; rfl
   · have hn:n≠0:=by omega
     have hc1:∀b:UInt8,aI [b] c=some (b::c):=fun b=>by unfold aI; rw[if_pos (by simp; omega)]; rfl
     have hd:n.tdiv 10=if n<0 then -((u / 10:Nat):Int)else ((u / 10:Nat):Int):=by
       split
       · have:n= -(u:Int):=by omega
         rw[this,Int.neg_tdiv]; rfl
       · have:n=(u:Int):=by omega
         rw[this]; rfl
     have hm:n.tmod 10=if n<0 then -((u % 10:Nat):Int)else ((u % 10:Nat):Int):=by
       split
       · have:n= -(u:Int):=by omega
         rw[this,Int.neg_tmod]; rfl
       · have:n=(u:Int):=by omega
         rw[this]; rfl
     have hw:IntKind.i64.wrap (n.tdiv 10)=n.tdiv 10:=ek (by rw[hd]; split<;>omega) (by rw[hd]; split<;>omega)
     have uU:∀r:Nat,r<10->eU (IntKind.i64.wrap (48+(r:Int)))=UInt8.ofNat (48+r):=by
       intro r hr
       have:r=0\/r=1\/r=2\/r=3\/r=4\/r=5\/r=6\/r=7\/r=8\/r=9:=by omega
       rcases this with rfl|rfl|rfl|rfl|rfl|rfl|rfl|rfl|rfl|rfl<;>decide
     have hlt:u % 10<10:=Nat.mod_lt _ (by omega)
     have hgo:=uZ m (u / 10) (n.tdiv 10) (UInt8.ofNat (48+u % 10)::c) (by rw[hd]; split<;>omega) (by rw[Nat.pow_succ]at h; omega) (by rw[hd]; split<;>omega) (by simp; omega)
     have hfin:((if u / 10=0 then []else Lib.decDigits (u / 10))++UInt8.ofNat (48+u % 10)::c)=(if u=0 then []else Lib.decDigits u)++c:=by
       rw[if_neg h0,pF u]
       by_cases h9:u<10
       · rw[if_pos h9,if_pos (by omega),Nat.mod_eq_of_lt h9]; rfl
       · rw[if_neg h9,if_neg (by omega)]; simp
     rw[hfin]at hgo
     unfold gH
     rw[if_pos (by simpa using hn),hw,hm]
     by_cases hneg:n<0
     · rw[if_pos hneg]
       by_cases hz:u % 10=0
       · rw[if_neg (by simp only[decide_eq_true_eq]; omega),show -((u % 10:Nat):Int)=((u % 10:Nat):Int)from by omega,uU _ hlt,hc1,Option.bind_some]
         exact hgo
       · rw[if_pos (by simp only[decide_eq_true_eq]; omega),show IntKind.i64.wrap (- -((u % 10:Nat):Int))=((u % 10:Nat):Int)from by rw[Int.neg_neg]; exact ek (by omega) (by omega),uU _ hlt,hc1,Option.bind_some]
         exact hgo
     · rw[if_neg hneg,if_neg (by simp only[decide_eq_true_eq]; omega),uU _ hlt,hc1,Option.bind_some]
       exact hgo
theorem zW(k:Nat)(n:Int)(hr:-9223372036854775808<=n/\n<=9223372036854775807)(hk:19<=k)(hk2:k<1000):fA (k+1) n=some (Lib.itoa n):=by
 unfold fA Lib.itoa
 by_cases h0:n=0
 · subst h0
   rw[if_pos (by decide),if_neg (by decide),show Int.toNat 0=0 from rfl,pF]; rfl
 · rw[if_neg (by simpa using h0),uZ k n.natAbs n [] rfl (Nat.lt_of_lt_of_le (show n.natAbs<10 ^ 19 by omega) (Nat.pow_le_pow_right (by decide) hk)) hr (by simp; omega),Option.bind_some,if_neg (show ¬ n.natAbs=0 by omega),List.append_nil]
   dsimp only
   by_cases hneg:n<0
   · have:=vI 18 n.natAbs (by omega)
     rw[if_pos (by simpa using hneg),if_pos hneg]
     unfold aI
     rw[if_pos (by simp; omega)]; rfl
   · rw[if_neg (by simpa using hneg),if_neg hneg,show n.natAbs=n.toNat from by omega]
theorem zX(n:Int)(hr:-9223372036854775808<=n/\n<=9223372036854775807):ig n=some (Lib.itoa n):=by
 rw[ig,mD,if_pos hr]; rfl
theorem Dx{a b:List UInt8}(h:a.length+b.length<4294967296):aI a b=some (a++b):=by unfold aI; rw[if_pos (by omega)]
theorem xG(c:UInt8):∀l:List UInt8,Lib.indexByte l c= -1\/ ∃i:Nat,i<l.length/\Lib.indexByte l c=(i:Int)
 |[]=>.inl rfl
 |b::l=>by
   rw[Lib.indexByte]
   split
   · exact .inr ⟨0,by simp,rfl⟩
   · rcases xG c l with h|⟨i,h1,h2⟩
     · exact .inl (by rw[h]; rfl)
     · refine .inr ⟨i+1,by simp; omega,?_⟩
       rw[h2,if_neg (by simp)]; rfl
theorem Dy(w:List UInt8)(c:UInt8)(hl:w.length<=1048576):∃h r b,mG w [c]=some (h,r,b)/\h.length<=w.length/\r.length<=w.length:=by
 unfold mG oZ oW
 simp only[Option.bind_some]
 rcases xG c w with h|⟨i,h1,h2⟩
 · rw[h,if_neg (by simp)]
   exact⟨w,[],false,rfl,by omega,by simp⟩
 · rw[h2,if_pos (by simp)]
   have e:IntKind.i64.wrap ((i:Int)+([c].length:Int))=((i+1:Nat):Int):=by
     rw[ek (by simp; omega) (by simp; omega)]; simp
   rw[e,gK (by simp; omega),Option.bind_some,gK (by simp; omega),Option.bind_some,Option.bind_some]
   exact⟨_,_,_,rfl,by simp; omega,by simp⟩
theorem CP(s p:List UInt8):∃b,mi s p=some b/\(b=true->p.length<=s.length):=by
 unfold mi
 by_cases h:(p.length:Int)<=(s.length:Int)
 · rw[decide_eq_true h,cond_true,gK (by simp),Option.bind_some,Option.bind_some]
   exact⟨_,rfl,fun _=>by omega⟩
 · rw[decide_eq_false h,cond_false,Option.bind_some]
   exact⟨_,rfl,fun h=>by simp at h⟩
theorem B_(s p:List UInt8):∃r,mo s p=some r/\r.length<=s.length:=by
 unfold mo oU
 obtain⟨b,e,h⟩:=CP s p
 rw[e,Option.bind_some]
 cases b
 · exact⟨s,rfl,Nat.le_refl _⟩
 · have:=h rfl
   rw[if_pos rfl,gK (by simp; omega),Option.bind_some,Option.bind_some]
   exact⟨_,rfl,by simp⟩
theorem xH(s p:List UInt8)(hl:s.length<=1048576):∃b,kS s p=some b/\(b=true->p.length<=s.length):=by
 unfold kS
 by_cases h:(p.length:Int)<=(s.length:Int)
 · rw[decide_eq_true h,cond_true,ek (by omega) (by omega),gK (by simp; omega),Option.bind_some,Option.bind_some]
   exact⟨_,rfl,fun _=>by omega⟩
 · rw[decide_eq_false h,cond_false,Option.bind_some]
   exact⟨_,rfl,fun h=>by simp at h⟩
theorem Cb(s p:List UInt8)(hl:s.length<=1048576):∃r,kT s p=some r/\r.length<=s.length:=by
 unfold kT oV
 obtain⟨b,e,h⟩:=xH s p hl
 rw[e,Option.bind_some]
 cases b
 · exact⟨s,rfl,Nat.le_refl _⟩
 · have:=h rfl
   rw[if_pos rfl,ek (by omega) (by omega),gK (by simp; omega),Option.bind_some,Option.bind_some]
   exact⟨_,rfl,by simp⟩
theorem wo(sep:List UInt8):∀(k:Nat)(s:List UInt8),(Lib.splitK sep 0 k s).length<=k+1/\ ∀y∈Lib.splitK sep 0 k s,y.length<=s.length
 |0,s=>by simp[Lib.splitK]
 |k+1,s=>by
   rw[Lib.splitK]
   split
   · simp
   · obtain⟨h1,h2⟩:=wo sep k (s.drop ((Lib.index s sep).toNat+sep.length))
     refine⟨by simp only[List.length_cons]; omega,fun y hy=>?_⟩
     rcases List.mem_cons.1 hy with rfl|hy
     · simp; omega
     · have:=h2 y hy
       simp at this; omega
theorem w_(s:List UInt8)(c:UInt8)(hl:s.length<=1048576):jO s [c]=some (Lib.split s [c])/\(Lib.split s [c]).length<=s.length+1/\ ∀y∈Lib.split s [c],y.length<=s.length:=by
 have hc:Lib.count s [c]<=s.length:=by rw[Lib.count_one]; exact List.count_le_length
 obtain⟨h1,h2⟩:=wo [c] (Lib.count s [c]) s
 have h1':(Lib.split s [c]).length<=Lib.count s [c]+1:=h1
 refine⟨?_,by omega,h2⟩
 unfold jO o6
 dsimp only
 rw[if_pos ⟨rfl,rfl,by omega,by omega⟩]; rfl
theorem vJ(s:List UInt8)(hl:s.length<=1048576):∃n b,kZ s=some (n,b):=by
 unfold kZ pg jX
 rw[if_pos (by omega),Option.bind_some]
 cases h1:(iJ s).2
 · exact⟨_,_,rfl⟩
 simp only[Bool.not_true,cond_false,Option.bind_some]
 cases h2:(decide (-999999999<=(iJ s).1)&&decide ((iJ s).1<=999999999))
 · exact⟨_,_,rfl⟩
 simp only[Bool.and_eq_true,decide_eq_true_eq]at h2
 rw[Bool.not_true,cond_false,zX _ (by omega),Option.bind_some,Option.bind_some]
 split
 · exact⟨_,_,rfl⟩
 · exact⟨_,_,rfl⟩
theorem vK:∀(l:List (List UInt8))(k:Nat)(c:List Int),(∀y∈l,y.length<=1048576)->c.length+l.length<4294967295-> ∃v b,jS l k c=some (v,b)
 |[],k,c,_,_=>⟨_,_,rfl⟩
 |y::l,k,c,h,hc=>by
   simp only[List.length_cons]at hc
   obtain⟨n,b,e⟩:=vJ y (h y (by simp))
   rw[jS,e,Option.bind_some]
   cases b
   · exact⟨_,_,rfl⟩
   · rw[if_neg (by simp),app1 (by omega),Option.bind_some]
     exact vK l _ _ (fun x hx=>h x (by simp[hx])) (by simp; omega)
theorem Ap(w:List UInt8)(hl:w.length<=1048576):∃n ws b,mP [109] w=some (n,ws,b)/\(∀y∈ws,y.length<=1048576)/\ws.length<=1048577:=by
 unfold mP
 obtain⟨h,r,b,e1,l1,l2⟩:=Dy w 40 hl
 obtain⟨t,e2,l3⟩:=B_ h [109]
 obtain⟨n,b2,e3⟩:=vJ t (by omega)
 obtain⟨b3,e4,-⟩:=xH r [41] (by omega)
 obtain⟨u,e5,l5⟩:=Cb r [41] (by omega)
 obtain⟨e6,l6,l7⟩:=w_ u 44 (by omega)
 rw[e1,Option.bind_some,e2,Option.bind_some,e3,Option.bind_some,o5,e4]
 dsimp only
 have key:∀o:Bool,∃n' ws b',((if o then some ((0:Int),([]:List (List UInt8)),false)else (kT r [41]).bind fun kN=>if (kN==[])then some (n,[],true)else (jO kN [44]).bind fun jM=>some (n,jM,true)):Option (Int×List (List UInt8)×Bool))=some (n',ws,b')/\(∀y∈ws,y.length<=1048576)/\ws.length<=1048577:=by
   intro o
   cases o
   · rw[if_neg (by simp),e5,Option.bind_some]
     split
     · exact⟨_,_,_,rfl,by simp,by simp⟩
     · rw[e6,Option.bind_some]
       exact⟨_,_,_,rfl,fun y hy=>by have:=l7 y hy; omega,by omega⟩
   · exact⟨_,_,_,rfl,by simp,by simp⟩
 cases b
 · exact key true
 cases b2
 · exact key true
 cases b3
 · exact key true
 · exact key false
theorem zY(w:List UInt8)(hl:w.length<=1048576):∃a b,ib w=some (a,b)/\(b=true->bA a=w):=by
 obtain⟨n,ws,b,e1,l1,l2⟩:=Ap w hl
 obtain⟨v,b2,e2⟩:=vK ws 0 [] l1 (by simp; omega)
 unfold ib pI
 rw[e1,Option.bind_some]
 dsimp only
 rw[e2,Option.bind_some,zQ]
 cases b
 · exact⟨_,_,rfl,by simp⟩
 cases b2
 · exact⟨_,_,rfl,by simp⟩
 · exact⟨_,_,rfl,by simp⟩
def aL(c:UInt8):List UInt8->List UInt8->List (List UInt8)
 |p,[]=>[p]
 |p,b::l=>if b=c then p::aL c [] l else aL c (p++[b]) l
def kz(p:List UInt8):List (List UInt8)->List (List UInt8)
 |[]=>[]
 |h::t=>(p++h)::t
theorem rW(c:UInt8):∀(l p:List UInt8),aL c p l=kz p (aL c [] l)
 |[],p=>by simp[aL,kz]
 |b::l,p=>by
   unfold aL
   split
   · simp[kz]
   · rw[rW c l (p++[b]),List.nil_append,rW c l [b]]
     cases aL c [] l<;>simp[kz]
theorem lw(c:UInt8):∀(l p:List UInt8),1<=(aL c p l).length/\(aL c p l).length<=l.length+1
 |[],p=>by simp[aL]
 |b::l,p=>by
   unfold aL
   split
   · have:=lw c l []
     simp only[List.length_cons]; omega
   · have:=lw c l (p++[b])
     simp only[List.length_cons]; omega
theorem xQ(c:UInt8):∀(l p:List UInt8),c∉p-> ∀y∈aL c p l,c∉y
 |[],p,h,y,hy=>by simp[aL]at hy; subst hy; exact h
 |b::l,p,h,y,hy=>by
   unfold aL at hy
   split at hy
   · rcases List.mem_cons.1 hy with rfl|hy
     · exact h
     · exact xQ c l [] (by simp) y hy
   · rename_i hb
     exact xQ c l (p++[b]) (by simp[h]; exact fun e=>hb e.symm) y hy
theorem qb(c:UInt8):∀(l p:List UInt8),∀y∈aL c p l,y.length<=p.length+l.length
 |[],p,y,hy=>by simp[aL]at hy; subst hy; simp
 |b::l,p,y,hy=>by
   unfold aL at hy
   simp only[List.length_cons]
   split at hy
   · rcases List.mem_cons.1 hy with rfl|hy
     · omega
     · have:=qb c l [] y hy
       simp at this; omega
   · have:=qb c l (p++[b]) y hy
     simp at this; omega
theorem Bg{c b:UInt8}(hb:b≠c)(l:List UInt8):∀k,Lib.splitK [c] 0 k (b::l)=kz [b] (Lib.splitK [c] 0 k l)
 |0=>rfl
 |k+1=>by
   have hp:[c].isPrefixOf (b::l)=false:=by simp[List.isPrefixOf,beq_eq_false_iff_ne.2 (Ne.symm hb)]
   rw[Lib.splitK,Lib.splitK,Lib.index,hp]
   have hge:=Lib.index_ge l [c]
   by_cases h:Lib.index l [c]= -1
   · simp[h,kz]
   · obtain⟨i,hi⟩:∃i:Nat,Lib.index l [c]=(i:Int):=⟨(Lib.index l [c]).toNat,by omega⟩
     rw[hi]
     have e1:((i:Int)== -1)=false:=by simp
     have e2:(((i:Int)+1)== -1)=false:=by simp; omega
     simp only[e1,Bool.false_eq_true,if_false,e2,kz]
     have e3:((i:Int)+1).toNat=i+1:=by omega
     rw[e3]
     simp
theorem wP(c:UInt8):∀s:List UInt8,Lib.split s [c]=aL c [] s
 |[]=>by simp[Lib.split,aL,Lib.count_one,Lib.splitK]
 |b::l=>by
   have ih:=wP c l
   unfold Lib.split at ih ⊢
   rw[Lib.count_one]at ih ⊢
   unfold aL
   by_cases h:b=c
   · subst h
     rw[if_pos rfl,List.count_cons_self,Lib.splitK]
     have:Lib.index (b::l) [b]=0:=by rw[Lib.index,if_pos (by simp[List.isPrefixOf])]
     rw[this,if_neg (by decide)]
     simp[ih]
   · rw[if_neg h,List.count_cons_of_ne (by simpa using h),Bg h,ih,List.nil_append,←rW]
theorem wu(s:List UInt8)(c:UInt8)(hl:s.length<=1048576):mZ s c=some (aL c [] s):=by
 have key:∀(r:List UInt8)(i m:Nat)(out:List (List UInt8))(p:List UInt8),s.drop i=r->i<=s.length->r.length<m->out.length+r.length<4294967290->p.length+r.length<4294967290->ji s c m out p (i:Int)=some (out++aL c p r):=by
   intro r
   induction r with
   |nil=>
     intro i m out p h1 h2 h3 h4 h5
     obtain⟨m,rfl⟩:∃k,m=k+1:=⟨m-1,by omega⟩
     have hi:s.length<=i:=List.drop_eq_nil_iff.1 h1
     rw[ji,if_neg (by simp; omega),app1 (by simp at h4; omega),Option.bind_some,aL]
   |cons b r ih=>
     intro i m out p h1 h2 h3 h4 h5
     simp only[List.length_cons]at h3 h4 h5
     obtain⟨m,rfl⟩:∃k,m=k+1:=⟨m-1,by omega⟩
     have hg:s[i]?=some b:=by
       have:(s.drop i)[0]?=some b:=by rw[h1]; rfl
       simpa using this
     have hlt:=(List.getElem?_eq_some_iff.1 hg).1
     have hd:s.drop (i+1)=r:=by rw[←List.drop_drop,h1]; rfl
     have hw:IntKind.i64.wrap ((i:Int)+1)=((i+1:Nat):Int):=by rw[ek (by omega) (by omega)]; rfl
     rw[ji,if_pos (by simp; omega),gM,hg,Option.bind_some,hw]
     unfold aL
     by_cases h:b=c
     · subst h
       rw[if_pos (by simp),app1 (by omega),Option.bind_some,Option.bind_some]
       dsimp only
       rw[ih (i+1) m _ _ hd (by omega) (by omega) (by simp; omega) (by simp; omega),if_pos rfl,List.append_assoc]; rfl
     · have hne:¬ ((b.toNat:Int)==(c.toNat:Int))=true:=by
         rw[beq_iff_eq]; intro e
         exact h (UInt8.toNat_inj.1 (by omega))
       have hsl:(s.take ((i+1:Nat):Int).toNat).drop ((i:Nat):Int).toNat=[b]:=by
         rw[Int.toNat_natCast,Int.toNat_natCast,List.take_add_one,hg,List.drop_append_of_le_length (by simp; omega)]
         simp
       rw[if_neg hne,gK (by simp; omega),Option.bind_some,hsl,Dx (by simp; omega),Option.bind_some,Option.bind_some]
       dsimp only
       rw[ih (i+1) m _ _ hd (by omega) (by omega) (by omega) (by simp; omega),if_neg h]
 exact key s 0 (((s.length:Int)-0).toNat+2) [] [] rfl (by omega) (by omega) (by simp; omega) (by simp; omega)
theorem xc(n:Int):-9223372036854775808<=IntKind.i64.wrap n/\IntKind.i64.wrap n<=9223372036854775807:=by
 unfold IntKind.wrap
 simp only[IntKind.bits,IntKind.signed]
 simp
 split<;>omega
theorem o_(s:List UInt8)(hl:s.length<=1048576):∀(m i:Nat)(c1 c2:Int),i<=s.length->s.length-i<m-> -9223372036854775808<=c1/\c1<=9223372036854775807-> ∃n b,jQ s 20 m c1 c2 (i:Int)=some (n,b)
 |0,_,_,_,_,h,_=>by omega
 |m+1,i,c1,c2,hi,hm,hc=>by
   rw[jQ]
   split
   · rename_i hlt
     simp only[Bool.and_eq_true,decide_eq_true_eq]at hlt
     have hi':i<s.length:=by omega
     have hw:IntKind.i64.wrap ((i:Int)+1)=((i+1:Nat):Int):=by rw[ek (by omega) (by omega)]; rfl
     rw[gM,List.getElem?_eq_getElem hi',hw]
     simp only[Option.bind_some]
     cases decide ((48:Int)<=(s[i].toNat:Int))
     · simp only[cond_false,Option.bind_some,Bool.false_eq_true,if_false]
       exact o_ s hl m (i+1) c1 c2 (by omega) (by omega) hc
     · simp only[cond_true,Option.bind_some]
       split
       · simp only[Option.bind_some]
         exact o_ s hl m (i+1) _ _ (by omega) (by omega) (xc _)
       · simp only[Option.bind_some]
         exact o_ s hl m (i+1) c1 c2 (by omega) (by omega) hc
   · have fin:∀x:Int,-9223372036854775808<=x/\x<=9223372036854775807-> ∃n b,((bif (decide ((9:Int)<c2))then (some true)
           else (bif (decide ((10:Int)<(s.length:Int)))then (some true)
             else ((fA 20 x).bind fun kI=>
               some (!(kI==s))))).bind fun ja=>if ja then some ((0:Int),false)else some (x,true))=some (n,b):=fun x hx=>by
       rw[zW 19 x hx (by omega) (by omega)]
       cases decide ((9:Int)<c2)
       · cases decide ((10:Int)<(s.length:Int))
         · simp only[cond_false,Option.bind_some]
           split
           · exact⟨_,_,rfl⟩
           · exact⟨_,_,rfl⟩
         · exact⟨_,_,rfl⟩
       · exact⟨_,_,rfl⟩
     have tail:∀o:Bool,∃n b,((some o:Option Bool).bind fun kH=>if kH then (
         (bif (decide ((9:Int)<c2))then (some true)
           else (bif (decide ((10:Int)<(s.length:Int)))then (some true)
             else ((fA 20 (IntKind.i64.wrap (-c1))).bind fun kI=>
               some (!(kI==s))))).bind fun ja=>if ja then some ((0:Int),false)else some ((IntKind.i64.wrap (-c1)),true))
       else (
         (bif (decide ((9:Int)<c2))then (some true)
           else (bif (decide ((10:Int)<(s.length:Int)))then (some true)
             else ((fA 20 c1).bind fun oI=>
               some (!(oI==s))))).bind fun kJ=>if kJ then some (0,false)else some (c1,true)))=some (n,b):=fun o=>by
       cases o
       · rw[Option.bind_some,if_neg (by simp)]; exact fin c1 hc
       · rw[Option.bind_some,if_pos rfl]; exact fin _ (xc _)
     cases s with
     |nil=>exact tail false
     |cons b l=>
       have hx:ix (b::l) 0=some b:=rfl
       rw[hx]
       have hp:decide ((0:Int)<((b::l).length:Int))=true:=by simp
       rw[hp,cond_true,Option.bind_some]
       exact tail _
theorem ww(s:List UInt8)(hl:s.length<=1048576):∃n,lv 20 s=some n:=by
 obtain⟨n,b,e⟩:=o_ s hl (((s.length:Int)-0).toNat+2) 0 0 0 (by omega) (by omega) (by omega)
 have e':pG 20 s=some (n,b):=e
 rw[lv,e',Option.bind_some]
 cases b
 · exact⟨_,rfl⟩
 · exact⟨_,rfl⟩
theorem u_(r:Int):∀(l:List (List UInt8))(k:Nat)(c:List Int),(∀y∈l,y.length<=1048576)->c.length+l.length<4294967295-> ∃a,jP 20 r l k c=some (.inl a)
 |[],k,c,_,_=>⟨_,rfl⟩
 |y::l,k,c,h,hc=>by
   simp only[List.length_cons]at hc
   obtain⟨n,e⟩:=ww y (h y (by simp))
   rw[jP,e,Option.bind_some,app1 (by omega),Option.bind_some]
   exact u_ r l _ _ (fun x hx=>h x (by simp[hx])) (by simp; omega)
theorem ve(s:List UInt8)(hl:s.length<=1048576):∀(m i:Nat),i<=s.length->s.length-i<m-> ∃a,je s 20 m (i:Int)=some a
 |0,_,_,h=>by omega
 |m+1,i,hi,hm=>by
   rw[je]
   split
   · rename_i hlt
     simp only[decide_eq_true_eq]at hlt
     have hi':i<s.length:=by omega
     have hw:IntKind.i64.wrap ((i:Int)+1)=((i+1:Nat):Int):=by rw[ek (by omega) (by omega)]; rfl
     have hw2:IntKind.i64.wrap ((s.length:Int)-1)=((s.length-1:Nat):Int):=by rw[ek (by omega) (by omega)]; omega
     have next:∃a,je s 20 m (IntKind.i64.wrap ((i:Int)+1))=some a:=by
       rw[hw]; exact ve s hl m (i+1) (by omega) (by omega)
     obtain⟨a0,next⟩:=next
     have g1:ix s (i:Int)=some s[i]:=by rw[gM,List.getElem?_eq_getElem hi']
     have g2:ix s (((s.length-1:Nat):Int))=some (s[s.length-1]'(by omega)):=by rw[gM,List.getElem?_eq_getElem]
     have g3:ix s 0=some (s[0]'(by omega)):=by rw[show (0:Int)=((0:Nat):Int)from rfl,gM,List.getElem?_eq_getElem]
     rw[g1,hw2,g2,g3,next]
     simp only[Option.bind_some]
     cases h1:((s[i].toNat:Int)==40)
     · exact⟨a0,rfl⟩
     cases h2:(((s[s.length-1]'(by omega)).toNat:Int)==41)
     · exact⟨a0,rfl⟩
     cases h3:(((s[0]'(by omega)).toNat:Int)==109)
     · exact⟨a0,rfl⟩
     rw[beq_iff_eq]at h1 h2 h3
     have n0:i≠0:=fun e=>by subst e; omega
     have n1:i≠s.length-1:=fun e=>by subst e; omega
     obtain⟨d9,e33⟩:=ww ((s.take (i:Int).toNat).drop (1:Int).toNat) (by simp; omega)
     simp only[cond_true,Option.bind_some,if_true]
     rw[gK (by simp; omega),Option.bind_some,e33,Option.bind_some,hw,gK (by simp; omega),Option.bind_some]
     split
     · exact⟨_,rfl⟩
     · have hlen:((s.take ((s.length-1:Nat):Int).toNat).drop ((i+1:Nat):Int).toNat).length<=1048576:=by simp; omega
       rw[wu _ 44 hlen,Option.bind_some]
       obtain⟨a,ea⟩:=u_ d9 (aL 44 [] ((s.take ((s.length-1:Nat):Int).toNat).drop ((i+1:Nat):Int).toNat)) 0 [] (fun y hy=>by have:=qb 44 _ [] y hy; simp only[List.length_nil]at this; omega) (by have:=(lw 44 ((s.take ((s.length-1:Nat):Int).toNat).drop ((i+1:Nat):Int).toNat) []).2; simp only[List.length_nil]; omega)
       rw[ea]
       exact⟨a,rfl⟩
   · exact⟨_,rfl⟩
theorem Ae(s:List UInt8)(hl:s.length<=1048576):∃a,jg 20 s=some a:=ve s hl (((s.length:Int)-0).toNat+2) 0 (by omega) (by omega)
def jv(a:ak):Bool:=
 !(bA a).contains 32&&(match ib (bA a)with|some (b,true)=>b.Method==a.Method&&b.Values==a.Values|_=>false)&&
 (match jg 20 (bA a)with|some b=>b.Method==a.Method&&b.Values==a.Values|_=>false)
def dg:List Int:=[0,1,2,3,4,5,6,7,8,9]
theorem lI{x:Int}(h:0<=x/\x<=9):x∈dg:=by
 simp only[dg,List.mem_cons,List.not_mem_nil,or_false]; omega
def jZ(m:Int):Bool:=jv {Method:=m,Values:=[]}&&dg.all fun x=>jv {Method:=m,Values:=[x]}&&dg.all fun y=>jv {Method:=m,Values:=[x,y]}&&dg.all fun z=>jv {Method:=m,Values:=[x,y,z]}
theorem Fu:jZ 0=true:=by decide+kernel
theorem Fv:jZ 1=true:=by decide+kernel
theorem Fx:jZ 2=true:=by decide+kernel
theorem Fy:jZ 3=true:=by decide+kernel
theorem Fz:jZ 4=true:=by decide+kernel
theorem rX{a:ak}(h:fQ a=true):jv a=true:=by
 obtain⟨h1,h2,h3⟩:=q8 h
 obtain⟨m,v⟩:=a
 dsimp only at h1 h2 h3
 have hm:jZ m=true:=by
   have:m=0\/m=1\/m=2\/m=3\/m=4:=by omega
   rcases this with rfl|rfl|rfl|rfl|rfl
   · exact Fu
   · exact Fv
   · exact Fx
   · exact Fy
   · exact Fz
 simp only[jZ,Bool.and_eq_true,List.all_eq_true]at hm
 obtain⟨k0,k1⟩:=hm
 match v,h2,h3 with
 |[],_,_=>exact k0
 |[x],_,h3=>exact (k1 x (lI (h3 x (by simp)))).1
 |[x,y],_,h3=>exact ((k1 x (lI (h3 x (by simp)))).2 y (lI (h3 y (by simp)))).1
 |[x,y,z],_,h3=>exact ((k1 x (lI (h3 x (by simp)))).2 y (lI (h3 y (by simp)))).2 z (lI (h3 z (by simp)))
 |_::_::_::_::_,h2,_=>simp at h2
theorem xR{a b:ak}(h:(b.Method==a.Method&&b.Values==a.Values)=true):b=a:=by
 cases a; cases b
 simp only[Bool.and_eq_true,beq_iff_eq]at h
 rw[h.1,h.2]
theorem FB{a:ak}(h:fQ a=true):ib (bA a)=some (a,true):=by
 have:=rX h
 unfold jv at this
 simp only[Bool.and_eq_true]at this
 have h1:=this.1.2
 split at h1
 · rename_i b e
   rw[e,xR h1]
 · simp at h1
theorem FC{a:ak}(h:fQ a=true):jg 20 (bA a)=some a:=by
 have:=rX h
 unfold jv at this
 simp only[Bool.and_eq_true]at this
 have h1:=this.2
 split at h1
 · rename_i b e
   rw[e,xR h1]
 · simp at h1
theorem Dz{a:ak}(h:fQ a=true):(32:UInt8)∉bA a:=by
 have:=rX h
 unfold jv at this
 simp only[Bool.and_eq_true]at this
 have h1:=this.1.1
 intro hm
 simp[hm]at h1
def b_(w:List UInt8):ak:=(jg 20 w).getD {Method:=-1,Values:=[]}
theorem DD{w:List UInt8}(hl:w.length<=1048576):jg 20 w=some (b_ w):=by
 obtain⟨a,e⟩:=Ae w hl
 unfold b_; rw[e]; rfl
theorem Cc{a:ak}(h:fQ a=true):b_ (bA a)=a:=by unfold b_; rw[FC h]; rfl
theorem qc{a:ak}(h:bA a≠[]):fQ a=true:=by
 unfold bA at h
 cases hk:fQ a
 · rw[hk]at h; simp at h
 · rfl
theorem rY{c:UInt8}:∀(x p t:List UInt8),c∉x->aL c p (x++t)=aL c (p++x) t
 |[],p,t,_=>by simp
 |b::x,p,t,h=>by
   rw[List.cons_append,aL,if_neg (fun e=>h (by simp[e])),rY x _ t (fun hx=>h (by simp[hx]))]
   simp
theorem xe{c:UInt8}:∀(r:List (List UInt8))(p:List UInt8),(∀y∈r,c∉y)->aL c p (Lib.joinTail [c] r)=p::r
 |[],p,_=>rfl
 |y::r,p,h=>by
   have e:Lib.joinTail [c] (y::r)=c::(y++Lib.joinTail [c] r):=by simp[Lib.joinTail]
   rw[e,aL,if_pos rfl,rY y [] _ (h y (by simp)),List.nil_append,xe r y fun z hz=>h z (by simp[hz])]
theorem Ce{c:UInt8}{A:List (List UInt8)}(hA:A≠[])(h:∀y∈A,c∉y):aL c [] (Lib.join A [c])=A:=by
 cases A with
 |nil=>exact absurd rfl hA
 |cons x r=>rw[Lib.join_cons,rY x [] _ (h x (by simp)),List.nil_append,xe r x fun z hz=>h z (by simp[hz])]
theorem rM{c:UInt8}:∀(s p:List UInt8),Lib.join (aL c p s) [c]=p++s
 |[],p=>by simp[aL,Lib.join_one]
 |b::s,p=>by
   unfold aL
   split
   · rename_i h
     subst h
     have ih:=rM (c:=b) s []
     rw[Lib.join_cons]
     have hne:=(lw b s []).1
     cases hL:aL b [] s with
     |nil=>rw[hL]at hne; simp at hne
     |cons y r=>
       rw[hL,Lib.join_cons,List.nil_append]at ih
       simp only[Lib.joinTail,List.map_cons,List.flatten_cons,List.cons_append,List.nil_append]at ih ⊢
       rw[ih]
   · rw[rM s (p++[b])]; simp
def good(w:List UInt8):Bool:=bA (b_ w)==w&&!(w==[])
theorem ll{w:List UInt8}:good w=true↔bA (b_ w)=w/\w≠[]:=by
 simp[good]
theorem Ii{w:List UInt8}(hl:w.length<=1048576):∃a,ib w=some (a,good w)/\(good w=true->a=b_ w):=by
 obtain⟨a,b,e,h⟩:=zY w hl
 cases b
 · cases hg:good w
   · exact⟨a,e,by simp⟩
   · obtain⟨g1,g2⟩:=ll.1 hg
     have:=FB (qc (a:=b_ w) (by rw[g1]; exact g2))
     rw[g1,e]at this
     simp at this
 · have h1:=h rfl
   have hne:w≠[]:=by
     intro hw
     subst hw
     have e0:∃a,ib []=some (a,false):=⟨_,rfl⟩
     obtain⟨a0,e0⟩:=e0
     rw[e0]at e
     simp at e
   have ha:b_ w=a:=by rw[←h1]; exact Cc (qc (by rw[h1]; exact hne))
   have hg:good w=true:=ll.2 ⟨by rw[ha]; exact h1,hne⟩
   exact⟨a,by rw[hg]; exact e,fun _=>ha.symm⟩
theorem vo:∀(p:List (List UInt8))(k:Nat)(c:List ak),(∀y∈p,y.length<=1048576)->c.length+p.length<4294967295->jf p k c=some (if p.all good then (c++p.map b_,true)else ([],false))
 |[],k,c,_,_=>by simp[jf]
 |w::p,k,c,h,hc=>by
   simp only[List.length_cons]at hc
   obtain⟨a,e,ha⟩:=Ii (h w (by simp))
   rw[jf,e,Option.bind_some,List.all_cons]
   cases hg:good w
   · rfl
   · have:=ha hg
     subst this
     rw[if_neg (by simp),app1 (by omega),Option.bind_some,vo p _ _ (fun y hy=>h y (by simp[hy])) (by simp; omega),Bool.true_and,List.map_cons,List.append_assoc]
     rfl
theorem CQ{s:List UInt8}(hs:s≠[]):(lW ((aL 32 [] s).map b_)==s)=(aL 32 [] s).all good:=by
 have hne:aL 32 [] s≠[]:=fun e=>by have:=(lw 32 s []).1; rw[e]at this; simp at this
 rw[Bool.eq_iff_iff,beq_iff_eq,List.all_eq_true]
 have hmap:(aL 32 [] s).map b_≠[]:=by simpa using hne
 unfold lW
 rw[if_neg hmap]
 constructor
 · intro h
   split at h
   · exact absurd h.symm hs
   · rename_i hany
     simp only[List.any_eq_true,not_exists,not_and,beq_iff_eq]at hany
     have hk:aL 32 [] s=((aL 32 [] s).map b_).map bA:=by
       have:=Ce (c:=32) (A:=((aL 32 [] s).map b_).map bA) (by simpa using hne) fun y hy=>by
         obtain⟨a,ha,rfl⟩:=List.mem_map.1 hy
         exact Dz (qc (hany a ha))
       rw[h]at this
       exact this
     intro w hw
     have hk2:(aL 32 [] s).map id=(aL 32 [] s).map fun w=>bA (b_ w):=by rw[List.map_id]; rw[List.map_map]at hk; exact hk
     have:=List.map_inj_left.1 hk2 w hw
     refine ll.2 ⟨this.symm,fun e=>?_⟩
     exact hany (b_ w) (List.mem_map_of_mem hw) (by rw[←this]; exact e)
 · intro h
   have hk:((aL 32 [] s).map b_).map bA=aL 32 [] s:=by
     rw[List.map_map]
     conv=>rhs; rw[←List.map_id (aL 32 [] s)]
     exact List.map_congr_left fun w hw=>(ll.1 (h w hw)).1
   rw[if_neg (by
     simp only[List.any_eq_true,not_exists,not_and,beq_iff_eq]
     intro a ha
     obtain⟨w,hw,rfl⟩:=List.mem_map.1 ha
     obtain⟨g1,g2⟩:=ll.1 (h w hw)
     rw[g1]; exact g2),hk]
   exact rM s []
theorem zZ{K:Nat}(hK:2<=K)(log:List ak)(h:log.length<=2000000):mI K log=some (lW log):=by
 unfold mI lW
 cases log with
 |nil=>rfl
 |cons a l=>
   simp only[List.length_cons]at h
   have h11:=wO a
   rw[if_neg (by simp)]
   unfold h_
   rw[u6 hK,Option.bind_some]
   cases he:bA a==[]
   · have e2:aI [] (bA a)=some (bA a):=by unfold aI; rw[if_pos (by simp; omega)]; rfl
     have hne:bA a≠[]:=by simpa using he
     rw[if_neg (by simp),if_neg (by simp),e2,Option.bind_some,Option.bind_some]
     dsimp only
     rw[u7 hK l _ _ (by omega) hne (by omega)]
     simp only[List.any_cons,he,Bool.false_or,List.map_cons]
     rw[mU]
   · rw[if_pos rfl,Option.bind_some]
     have hE:bA a=[]:=by simpa using he
     simp[hE]
theorem vv(s:List UInt8)(p:List (List UInt8))(hp:∀y∈p,y.length<=1048576)(hl:p.length<=1048577):∀(m i:Nat),i<=p.length->p.length-i<m->jR s p 20 m ((p.take i).map b_) (i:Int)=some (if lW (p.map b_)==s then (p.map b_,true)else ([],false))
 |0,_,_,h=>by omega
 |m+1,i,hi,hm=>by
   rw[jR]
   split
   · rename_i hlt
     simp only[decide_eq_true_eq]at hlt
     have hi':i<p.length:=by omega
     have hw:IntKind.i64.wrap ((i:Int)+1)=((i+1:Nat):Int):=by rw[ek (by omega) (by omega)]; rfl
     rw[gM,List.getElem?_eq_getElem hi',Option.bind_some,DD (hp _ (List.getElem_mem hi')),Option.bind_some,app1 (by simp; omega),Option.bind_some,hw]
     have:=vv s p hp hl m (i+1) (by omega) (by omega)
     rw[List.take_add_one,List.getElem?_eq_getElem hi',List.map_append]at this
     exact this
   · rename_i hlt
     simp only[decide_eq_true_eq]at hlt
     have:p.take i=p:=List.take_of_length_le (by omega)
     rw[this,zZ (by omega) _ (by simp; omega),Option.bind_some]
     cases lW (p.map b_)==s
     · rfl
     · rfl
def j3(s:List UInt8):List ak×Bool:=if s=[110,111,110,101]then ([],true)else if (aL 32 [] s).all good then ((aL 32 [] s).map b_,true)else ([],false)
theorem nG{s:List UInt8}(hl:s.length<=1048576):(∀y∈aL 32 [] s,y.length<=1048576)/\(aL 32 [] s).length<=1048577:=⟨fun y hy=>by
 have:=qb 32 s [] y hy
 simp at this; omega,by have:=(lw 32 s []).2; omega⟩
theorem Aq(s:List UInt8)(hl:s.length<=1048576):lc s=some (j3 s):=by
 unfold lc j3
 by_cases h:s=[110,111,110,101]
 · rw[if_pos (by simpa using h),if_pos h]
 · rw[if_neg (by simpa using h),if_neg h,(w_ s 32 hl).1,Option.bind_some,wP,vo _ 0 [] (nG hl).1 (by have:=(nG hl).2; simp; omega),List.nil_append]
theorem Cf:good []=false:=by simp[good]
theorem Ar(s:List UInt8)(hl:s.length<=1048576):mO 20 s=some (j3 s):=by
 unfold mO j3
 by_cases h:s=[110,111,110,101]
 · subst h; rfl
 · by_cases h0:s=[]
   · subst h0
     simp[aL,Cf]
   · rw[if_neg (by simp[h,h0]),if_neg h,wu s 32 hl,Option.bind_some]
     have:=vv s (aL 32 [] s) (nG hl).1 (nG hl).2 ((((aL 32 [] s).length:Int)-0).toNat+2) 0 (by omega) (by omega)
     rw[CQ h0]at this
     exact this
theorem BA(s:List UInt8)(hl:s.length<=1048576):fI pQ (j3 s).1/\bR fB (j3 s).1<=4*1048577:=by
 have h0:fI pQ ([]:List ak)/\bR fB ([]:List ak)<=4*1048577:=⟨Cz,by simp[xz]⟩
 unfold j3
 split
 · exact h0
 split
 · rename_i hg
   rw[List.all_eq_true]at hg
   have hv:∀a∈(aL 32 [] s).map b_,a.Values.length<=3:=fun a ha=>by
     obtain⟨w,hw,rfl⟩:=List.mem_map.1 ha
     obtain⟨g1,g2⟩:=ll.1 (hg w hw)
     exact (q8 (qc (a:=b_ w) (by rw[g1]; exact g2))).2.1
   have hb:=(nG hl).2
   refine⟨⟨by rw[List.length_map]; omega,fun a ha=>BS a.Values (by have:=hv a ha; omega)⟩,?_⟩
   have key:∀x:List ak,(∀a∈x,a.Values.length<=3)->bR fB x<=4*x.length:=by
     intro x
     induction x with
     |nil=>intro _; simp[xz]
     |cons y x ih=>
       intro h
       have h1:=ih fun f hf=>h f (by simp[hf])
       have h2:=h y (by simp)
       rw[lh,List.length_cons,fB,CB]; omega
   have:=key _ hv
   rw[List.length_map]at this
   show bR fB ((aL 32 [] s).map b_)<=4*1048577
   omega
 · exact h0
theorem zK{s:List UInt8}{W:Prop}(_:W):∃fuel,o8 fuel s=some true:=by
 refine⟨20,?_⟩
 unfold o8
 by_cases hc:(1048576:Int)<(s.length:Int)
 · rw[if_pos (by simpa using hc)]
 have hl:s.length<=1048576:=by omega
 obtain⟨b1,b2⟩:=BA s hl
 rw[if_neg (by simpa using hc),Ar s hl,Option.bind_some,Aq s hl,Option.bind_some,wh,Option.bind_some]
 simp only[Bool.not_true,cond_false,beq_self_eq_true,Option.bind_some,Bool.false_eq_true,if_false]
 rw[AB _ 1 b1 (by omega) (by omega),Option.bind_some]
 dsimp only
 rw[AJ _ 1 b1 (by omega) (by omega),Option.bind_some,if_neg (by simp; omega),if_neg (by simp),wh,Option.bind_some]
 simp only[Bool.not_true,cond_false,Option.bind_some,Bool.false_eq_true,if_false]
 rw[if_neg (by simp; omega),if_neg (by simp)]
end Go.Proofs.YtmmlepaliceaiaaDoor
/-
 The row FnExactParseLog.
-/
set_option maxRecDepth 100000
namespace Go.Proofs.YtmmlepaliceaiaaDoor.fnExactParseLog
open Go Go.Fw Go.ChangeShapes Go.WideShapes Go.ChangeAt Go.RowKit
theorem own:ownKnob Tryd.prog.godebug=none:=by kernel_rfl
theorem Cg(os:Os)(args:Array Value):laidMetH Tryd.prog Rows.fnExactParseLogRow.laid ((World.laidAll Tryd.prog os Rows.fnExactParseLogRow.laid).forCall (fun _ _=>0) ⟨#[],args,[]⟩).memory:=by
 rw[MakeChecks.laidMetH_plain _ _ _ (by kernel_rfl)]
 exact laidMet_laidAll _ (by kernel_rfl) (by kernel_rfl)
theorem Ij:Tryd.prog.globalNamed "internal/strconv.uint64pow10" =some 5:=by kernel_rfl
theorem FE:(Tryd.prog.globals[5]?).map (·.type)=some 116:=by kernel_rfl
theorem FH:Tryd.prog.globalNamed "strconv.ErrRange" =some 4:=by kernel_rfl
theorem FI:Tryd.prog.globalNamed "strconv.ErrSyntax" =some 3:=by kernel_rfl
theorem xI:"*" ++ "errors.errorString" = "*errors.errorString":=by decide
theorem xS(u:TypeId)(h:Tryd.prog.typeName? 3 u=some "*errors.errorString"):u=112:=
 typeName_ptr_named (nm:="errors.errorString") (by rw[xI]; kernel_rfl) (by kernel_rfl) (by decide) u (by rw[xI]; exact h)
theorem laidOut:laidOutB Tryd.prog=true:=by kernel_rfl
set_option maxRecDepth 100000 in
theorem lifted(os:Os)(started:os.Started)(H:Type)(enc:TypeId×Value->H):
   ReturnsInHanded {} Tryd.checked os 3 .any (fun w args=>(Rows.fnExactParseLogSpec.pre enc Tryd.prog Tryd.f3 [] false w args/\laidMetH Tryd.prog Rows.fnExactParseLogRow.laid w)/\sizedMet enc Tryd.prog Tryd.f3 (OpenSpec.ofChange Rows.fnExactParseLogSpec) false w args) (Rows.fnExactParseLogSpec.post enc Tryd.prog Tryd.f3 false true false false):=by
 refine returnsInHanded_of_change_and (C:=Tryd.checked) (X:=fun w _=>laidMetH Tryd.prog Rows.fnExactParseLogRow.laid w) (fun _ _ _ hh h=>h.of_heap hh) own started (by kernel_rfl) Tryd.func3
   (ChangeSpec.witness_shaped (enc:=enc) (C:=Tryd.checked) (os:=os) (X:=fun w _=>laidMetH Tryd.prog Rows.fnExactParseLogRow.laid w) false (World.laidAll Tryd.prog os Rows.fnExactParseLogRow.laid) #[.string ⟨#[]⟩] 16 rfl (World.shaped_of_ZipB (by kernel_rfl) (by kernel_rfl)) (by kernel_rfl) (by kernel_rfl) (by kernel_rfl) (Cg os _)) ?_
 intro W base args ds gs before hval hW _ hwt hL _
 rw[MakeChecks.laidMetH_plain _ _ _ (by kernel_rfl)]at hL
 have htab:Lib.TabIs Tryd.prog W "internal/strconv.uint64pow10" .u64 Lib.pow10Tab:=Lib.tabIs_of_head Ij FE (show Tryd.prog.underlying 116=some (.array 20 96) by kernel_rfl) (show Tryd.prog.underlying 96=some (.int .u64) by kernel_rfl) (by kernel_rfl) (by kernel_rfl) (laidMet.tail (laidMet.tail hL))
 have BB:∃tp p,W.var? Tryd.prog "strconv.ErrRange" =some #[.iface tp p]:=by
   obtain⟨a,_,h,-⟩:=laid_sentinel (tp:=112) (te:=114) (ts:=9) (laidMet.tail (laidMet.tail (laidMet.tail (laidMet.tail hL)))) FH (by kernel_rfl) (show Tryd.prog.underlying 66=some (.interface (Tryd.prog.methodsAt 66)) by kernel_rfl) xS (by kernel_rfl) Tryd.underlying114 rfl rfl (by kernel_rfl) (by kernel_rfl) (by kernel_rfl)
   exact⟨_,_,h⟩
 have Bh:∃tp p,W.var? Tryd.prog "strconv.ErrSyntax" =some #[.iface tp p]:=by
   obtain⟨a,_,h,-⟩:=laid_sentinel (tp:=112) (te:=114) (ts:=9) (laidMet.tail (laidMet.tail (laidMet.tail (laidMet.tail (laidMet.tail hL))))) FI (by kernel_rfl) (show Tryd.prog.underlying 66=some (.interface (Tryd.prog.methodsAt 66)) by kernel_rfl) xS (by kernel_rfl) Tryd.underlying114 rfl rfl (by kernel_rfl) (by kernel_rfl) (by kernel_rfl)
   exact⟨_,_,h⟩
 have hW':=hW
 obtain⟨p,q,uV,hV,rfl,hfz,hnd⟩:=hW
 obtain⟨rfl,rfl⟩:=trodVars_none hV
 have hA:DataW.TrodAll enc Tryd.prog W 0 (fun _=>true) true [9] args.toList ds p:=uV
 have hw:∀n∈DataW.weightsEach Tryd.prog [9] ds,n<=reachBytes:=fun n hn=>by
   have:=List.all_eq_true.1 hwt n (by rw[List.append_nil]; exact hn)
   simpa using this
 obtain⟨v0,KQ,d0,ds0,p0,ρ0,H0,IV,a0,e0,rfl,uV,hw0,r0,f0,u0,i0,IW,q0,w0⟩:=Cw hA hw (fe.str (by kernel_rfl)) (fun H v a h=>by subst h; kernel_rfl) (r:=.any) (base:=base) (fun v h=>hval 0 9 v rfl (Dh h)) (aC.nil _ W ⟨htab,Bh,BB⟩) dX.nil
 obtain⟨en,rfl⟩:=BP uV
 subst en
 obtain rfl:IV=(sv a0):=q0
 have hargs:aj ρ0 [(sv a0)] args.toList:=by
   rw[e0]
   exact (.cons _ _ _ _ IW .nil)
 obtain⟨fuel,Ik⟩:=zK w0
 refine ((@zJ fuel a0 true Ik) H0 [] (Ctx.start _) ρ0 W args r0 hargs).mono ?_
 rintro e w' ⟨v,r,ρ',H',rfl,h1,h2,h3,x,h5,-⟩
 have h6:r= .bool true:=h5
 subst h6
 refine⟨_,rfl,?_⟩
 rw[h1.bool_inv]
 refine BH hW' rfl laidOut (by kernel_rfl) rfl (by kernel_rfl) (fun d=>?_) (h3.below f0)
 by_cases hd:d=[d0]
 · subst hd; exact .inl ⟨rfl,rfl,rfl⟩
 · exact .inr (by simpa using hd)
theorem named:Tryd.pinned.checked.prog.funcNamed Rows.fnExactParseLogRow.func=some 3:=by kernel_rfl
set_option maxHeartbeats 10000000 in
theorem closed:joinedFacts Tryd.pinned.checked.prog 3 Tryd.f3 Rows.fnExactParseLogSpec Rows.fnExactParseLogRow=true:=by
 simp only[joinedFacts,Bool.and_eq_true]
 repeat' refine And.intro ?_ ?_
 all_goals (as_aux_lemma=>kernel_rfl)
theorem over:Rows.fnExactParseLogRow.holds Tryd.pinned (OpenSpec.ofChange Rows.fnExactParseLogSpec):=
 OpenClaim.holds_of_wide 3 Tryd.f3 rfl rfl rfl rfl rfl rfl rfl ⟨rfl,rfl,rfl,rfl,rfl⟩ rfl rfl rfl rfl rfl named Tryd.func3 closed
   (of_decide_eq_true (by kernel_rfl)) (by unfold Func.isWrapper; first|(rw[if_pos (by decide+kernel)]; kernel_rfl)|(rw[if_neg (by decide+kernel)]; exact⟨rfl,rfl⟩))
   (fun os started H enc _=>lifted os started H enc)
theorem proved:Rows.FnExactParseLogCardSaid:=
 Claim7.holds_tied_plain_at .later [] [.data,.data,.data,.data,.sentinel,.sentinel,.pinned] true (true,"78c021804d30634d351d8ecf081010f3f051c7a055197a001518c79526e175b0") true
   over (fun _ h=>by cases h) (by kernel_rfl) (fun _ h=>by cases h) fnExactParseLog_row_tie rfl ⟨rfl,rfl⟩ (by kernel_rfl) rfl
   (fun f fn hf hfn=>by
     obtain rfl:f=3:=Option.some.inj ((show Tryd.prog.funcNamed "loop.example/g01989/laws.FnExactParseLog" =some 3 by kernel_rfl).symm.trans hf) |>.symm
     obtain rfl:fn=Tryd.f3:=(Option.some.inj (Tryd.func3.symm.trans hfn)).symm
     exact⟨by kernel_rfl,fun j t ht=>by
       have hm:t∈[9]:=by simpa using (Array.mem_of_getElem? ht:t∈(#[9]:Array TypeId))
       have hall:([9].all fun u=>!Tryd.prog.wantsStandIn u)=true:=by kernel_rfl
       exact (show Tryd.prog.wantsStandIn t=false by simpa using List.all_eq_true.1 hall t hm)⟩)
   (by kernel_rfl)
end Go.Proofs.YtmmlepaliceaiaaDoor.fnExactParseLog
