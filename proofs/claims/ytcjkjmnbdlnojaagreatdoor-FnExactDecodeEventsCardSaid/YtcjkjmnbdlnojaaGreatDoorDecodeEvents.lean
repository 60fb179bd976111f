/-
  FnExactDecodeEvents: the plain law and the row: for all arguments.
-/
import Derived.Test.YtcjkjmnbdlnojaaGreatDoorDecodeEventsG1
import Derived.Test.YtcjkjmnbdlnojaaGreatDoorFc
import Derived.Test.YtcjkjmnbdlnojaaGreatDoorRows
import Derived.Test.YtcjkjmnbdlnojaaGreatDoorTie
import Derived.Test.YtcjkjmnbdlnojaaGreatDoorCards
import Derived.LaidMore
import Derived.OpenShut
import Derived.Stop.Joined
import Derived.Stop.LaidErr
import Derived.SevenTiedAt
import Derived.Lib.LaidTab
import Derived.Lay
import Derived.Shelf.Vars
import Derived.WalkKit
import Derived.KernelRfl
/-
 Plain laws of the helpers. Written by a program.
-/
set_option maxRecDepth 100000
set_option maxHeartbeats 4000000
set_option linter.unusedVariables false
namespace Go.Proofs.YtcjkjmnbdlnojaaGreatDoor
open Go Go.Fw
def adB(a:Method):Prop:=(mY xN) a.Inputs
def adC(a:fA):Prop:=(mY xN) a.Map
def adD(a:Fact):Prop:=(mY xN) a.Values
theorem XM:∀(a:List Int),(mY xN) a->xw a=some a:=
 Xa (fun _=>rfl) (fun _ _=>rfl) (fun x r k c hx hk=>by
   rw[y9]
   simp[jD,hk])
theorem Xf(a:Event):BX a a=some true:=by simp[BX]
theorem Pj:∀(a:List Event),zo a a=some true:=
 PK (fun _ _=>rfl) (fun _ _=>rfl) (fun b x r k h=>by
   rw[yZ,jO,h]
   simp[Xf])
theorem XN:∀(a:List Int),FH a a=some true:=
 PK (fun _ _=>rfl) (fun _ _=>rfl) (fun b x r k h=>by
   rw[zf,jO,h]
   simp)
theorem WK:∀(a:List Int)(k:Int),(mY xN) a->0<=k->k+(iM (fun _=>1) a:Int)<4611686018427387904->Fh a k=some (k+iM (fun _=>1) a,nL (fun _ k=>k) (fun _=>1) k a):=
 OQ (fun _ _=>rfl) (fun m c k j h=>by rw[wY,if_neg (by simp; omega)]) (fun m c k j x e hl hj hp hk hm=>by
   rw[wY,if_pos (by simp; omega)]
   simp (disch:=first|omega|assumption|(simp only[List.length_set]; omega)) only[jd (show (decide (0<=(j:Int))&&decide ((j:Int)<(c.length:Int)))=true by simp; omega),dU,Int.toNat_natCast,Option.bind_some,Int.natCast_add,Int.cast_ofNat_Int])
def MK(k:Int):List UInt8:=(vM k).getD []
theorem OD:∀(m d:Nat)(k:Int)(c:List UInt8),0<=k->k<10 ^ d->k<m->c.length+d<4294967296->k<4611686018427387904-> ∃r,wZ m k c=some r/\r.length<=c.length+d
 |0,d,k,c,h0,_,hm,_,_=>by omega
 |m+1,d,k,c,h0,hd,hm,hc,hk=>by
   unfold wZ
   by_cases hz:0<k
   · obtain⟨d,rfl⟩:∃e,d=e+1:=by
       cases d with
       |zero=>simp at hd; omega
       |succ e=>exact⟨e,rfl⟩
     have hq:k.tdiv 10=k / 10:=Int.tdiv_eq_ediv_of_nonneg h0
     have hw:IntKind.i64.wrap (k.tdiv 10)=k / 10:=by rw[hq]; exact dU (by omega) (by omega)
     rw[if_pos (by simpa using hz),hw,show aP [(jf (IntKind.i64.wrap (48+(Int.tmod k 10))))] c=some ([(jf (IntKind.i64.wrap (48+(Int.tmod k 10))))]++c)from by unfold aP; rw[if_pos (by simp; omega)],Option.bind_some]
     obtain⟨r,h1,h2⟩:=OD m d (k / 10) ([(jf (IntKind.i64.wrap (48+(Int.tmod k 10))))]++c) (by omega) (by rw[Int.pow_succ]at hd; omega) (by omega) (by simp; omega) (by omega)
     exact⟨r,h1,by simp at h2; omega⟩
   · rw[if_neg (by simpa using hz)]
     exact⟨c,rfl,by omega⟩
theorem Pk(k:Int)(h0:0<=k)(h:k<4611686018427387904):vM k=some (MK k):=by
 have:∃r,vM k=some r:=by
   unfold vM
   by_cases hz:k<=0
   · rw[if_pos (by simpa using hz)]; exact⟨_,rfl⟩
   · obtain⟨r,h1,h2⟩:=OD ((k-0).toNat+2) 19 k [] h0 (by omega) (by omega) (by simp) h
     rw[if_neg (by simpa using hz),h1,Option.bind_some]
     simp only[List.length_nil]at h2
     refine⟨[109]++r,?_⟩
     show (aP [109] r).bind _=_
     unfold aP
     rw[if_pos (by simp; omega)]; rfl
 obtain⟨r,hr⟩:=this
 rw[MK,hr]; rfl
def I1(_:Event):Prop:=True
def rT(_:Event):Nat:=1+1
def Fu(_:Event)(k:Int):Event:={Kind:=k,Text:=MK (k+1)}
theorem V4:∀(a:List Event)(k:Int),(mY I1) a->0<=k->k+(iM rT a:Int)<4611686018427387904->E8 a k=some (k+iM rT a,nL Fu rT k a):=
 OQ (fun _ _=>rfl) (fun m c k j h=>by rw[wT,if_neg (by simp; omega)]) (fun m c k j x e hl hj hp hk hm=>by
   have e':ix c (j:Int)=some x:=by rw[jO,e]
   simp only[rT,Int.natCast_add,Int.cast_ofNat_Int]at hm ⊢
   rw[wT,if_pos (by simp; omega)]
   simp (disch:=first|omega|assumption|(simp only[List.length_set]; omega)) only[e',Fu,Pk,YR,List.set_set,dU,Int.toNat_natCast,Option.bind_some,Int.add_assoc])
theorem V5:∀(a:List Event)(k:Int),(mY I1) a->0<=k->k+(iM rT a:Int)<4611686018427387904->BB (nL Fu rT k a) k=some (k+iM rT a):=
 Wn (fun _ _=>rfl) (fun _ _=>rfl) (fun x r n k hp hk hm=>by
   simp only[rT,Int.natCast_add,Int.cast_ofNat_Int]at hm ⊢
   simp (disch:=first|omega|assumption) only[yR,Fu,Pk,beq_self_eq_true,Bool.not_true,dU,bne_self_eq_false,Bool.false_eq_true,if_false,Option.bind_some,Int.add_assoc])
end Go.Proofs.YtcjkjmnbdlnojaaGreatDoor
/-
 Plain laws.
-/
set_option maxRecDepth 100000
set_option linter.unusedVariables false
namespace Go.Proofs.YtcjkjmnbdlnojaaGreatDoor
open Go Go.Fw
def qK(n:Int):Bool:=decide (1<=n)&&decide (n<=3)
def kF(s:List Int):Bool:=qK (s.length:Int)&&s.all qK
theorem Bq(s:List Int):rP s=some (kF s):=by
 unfold rP
 rw[Cb (L:=wX s) (f:=fun n=>dZ n 1 3) (p:=qK) (e:=qK (s.length:Int)) (fun k=>by simp[wX,dZ,qK]) (fun x r k=>rfl) s 0 (fun x _=>rfl),kF,Bool.and_comm]
theorem TI(l:List Int):AV l=some (l.any fun x=>!qK x):=by
 unfold AV EL
 rw[og (L:=yN) (f:=fun x=>E5 x) (p:=fun x=>!qK x) (fun k=>rfl) (fun x r k=>rfl) l 0 (fun x hx=>rfl),Option.bind_some,oo]
theorem Ob(s:List Int):zm s=some (kF s):=by
 unfold zm
 rw[TI]
 simp only[h_,Option.bind_some,kF,qK]
 cases hh:(decide (1<=(s.length:Int))&&decide ((s.length:Int)<=3))
 · simp
 · simp[List.all_eq_not_any_not,qK]
theorem Iy{s:List Int}(h:kF s=true):s.length<=3/\ ∀x∈s,1<=x/\x<=3:=by
 simp[kF,qK]at h
 exact⟨by omega,h.2⟩
theorem jo(x lo hi:Int):dZ x lo hi=some (ay lo hi x):=rfl
theorem mI(x lo hi:Int):h_ x lo hi=some (ay lo hi x):=rfl
def fC(s:List Int)(rel:Int):Bool:=kF s&&ay 0 ((s.length:Int)-1) rel
theorem E_(s:List Int)(rel:Int)(hs:s.length<4294967296):rX s rel=some (fC s rel):=by
 simp only[rX,Ob,mI,Option.bind_some,fC]
 rw[dU (by omega) (by omega)]
 cases kF s<;>rfl
theorem Wu{s:List Int}{rel:Int}(h:fC s rel=true):∃x,ix s rel=some x/\1<=x/\x<=3:=by
 simp only[fC,Bool.and_eq_true]at h
 obtain⟨x,h1,h2⟩:=Yf h.2
 exact⟨x,h1,(Iy h.1).2 x (List.mem_of_getElem? h2)⟩
def gW(s:List Int)(rel:Int):Int:=(ix s rel).getD 0
theorem kW{s:List Int}{rel:Int}(h:fC s rel=true):ix s rel=some (gW s rel)/\1<=gW s rel/\gW s rel<=3:=by
 obtain⟨x,h1,h2⟩:=Wu h
 unfold gW
 rw[h1]; exact⟨rfl,h2⟩
def jr(s:List Int)(m:Method):Bool:=fC s m.Rel&&(ay 0 9 m.Limit&&(ay 0 99 m.Cost&&(ay 1 99 m.Quota&&(il (fun _=>true) (fun y x=>decide (x<=y)) none m.Inputs&&m.Inputs.all (ay 0 (gW s m.Rel-1))))))
theorem Vp(s:List Int)(m:Method)(hs:s.length<4294967296)(hm:m.Inputs.length<4294967296):zk s m=some (jr s m):=by
 simp only[zk,Bq,jo,Option.bind_some]
 rw[dU (by omega) (by omega)]
 have hL:fC s m.Rel=true->rF s m m.Inputs 0=some (il (ay 0 (gW s m.Rel-1)) (fun y x=>decide (x<=y)) none m.Inputs):=fun h=>by
   obtain⟨e1,e2,e3⟩:=kW h
   have:=PL (L:=rF s m) (P:=fun _=>True) (p:=ay 0 (gW s m.Rel-1)) (q:=fun y x=>decide (x<=y)) (e:=true) m.Inputs (fun _ _=>trivial) hm (fun _=>rfl) (fun x r _=>by
     rw[rF]
     simp only[e1,Option.bind_some,jo,Xb]
     rw[dU (by omega) (by omega)]
     cases ay 0 (gW s m.Rel-1) x<;>rfl) (fun x r k y _ _ hy hk=>by
     rw[rF]
     simp only[e1,Option.bind_some,jo,PM,Qd _ k hk,hy]
     rw[dU (by omega) (by omega)]
     cases ay 0 (gW s m.Rel-1) x<;>cases decide (x<=y)<;>rfl)
   simpa using this
 unfold jr
 cases hh:fC s m.Rel
 · simp only[fC]at hh
   cases h1:kF s
   · rfl
   · rw[h1,Bool.true_and]at hh
     simp[hh]
 · rw[hL hh,IY]
   simp only[fC,Bool.and_eq_true]at hh
   rw[hh.1,hh.2]
   cases ay 0 9 m.Limit
   · rfl
   cases ay 0 99 m.Cost
   · rfl
   cases ay 1 99 m.Quota<;>rfl
theorem NJ(l:List Int)(hl:l.length<4294967296):BG l=some (il (fun _=>true) (fun y x=>decide (x<=y)) none l):=by
 have:=PL (L:=wU l) (P:=fun _=>True) (p:=fun _=>true) (q:=fun y x=>decide (x<=y)) (e:=true) l (fun _ _=>trivial) hl (fun _=>rfl) (fun x r _=>rfl) (fun x r k y _ _ hy hk=>by
     rw[wU]
     simp only[Option.bind_some,PM,Qd _ k hk,hy,cond_true]
     cases decide (x<=y)<;>rfl)
 simpa[BG]using this
theorem MP(l:List Int)(a1:Int)(h1:-1000<=a1/\a1<=1000):AR l a1=some (l.any fun x=>!ay 0 (a1-1) x):=by
 unfold AR EJ
 rw[og (L:=yL a1) (f:=fun x=>Bd x a1) (p:=fun x=>!ay 0 (a1-1) x) (fun k=>rfl) (fun x r k=>rfl) l 0 (fun x hx=>by rw[Bd,mI,dU (by omega) (by omega)]; rfl),Option.bind_some,oo]
theorem OE(n:Int):FC n=some (ay 0 99 n):=rfl
theorem Vq(s:List Int)(m:Method)(hs:s.length<4294967296)(hm:m.Inputs.length<4294967296):xm s m=some (jr s m):=by
 simp only[xm,E_ _ _ hs,Option.bind_some,jr]
 cases hh:fC s m.Rel
 · rfl
 obtain⟨e1,e2,e3⟩:=kW hh
 simp only[e1,Option.bind_some,yY,NJ _ hm,MP _ _ (show -1000<=gW s m.Rel/\gW s m.Rel<=1000 by omega),mI,OE,cond_true,Bool.true_and]
 have e4:(m.Inputs.any fun x=>!ay 0 (gW s m.Rel-1) x)=!(m.Inputs.all (ay 0 (gW s m.Rel-1))):=by simp[List.all_eq_not_any_not]
 rw[e4]
 cases il (fun _=>true) (fun y x=>decide (x<=y)) none m.Inputs<;>cases m.Inputs.all (ay 0 (gW s m.Rel-1))<;>cases ay 0 9 m.Limit<;>cases ay 0 99 m.Cost<;>cases ay 1 99 m.Quota<;>rfl
def mf(s:List Int)(r:fA):Bool:=fC s r.From&&(fC s r.To&&(((r.Map.length:Int)==gW s r.To)&&r.Map.all (ay 0 (gW s r.From-1))))
theorem V6(s:List Int)(r:fA)(hs:s.length<4294967296):Ce s r=some (mf s r):=by
 simp only[Ce,Bq,jo,Option.bind_some]
 rw[dU (by omega) (by omega)]
 have hL:fC s r.From=true->vC s r r.Map 0=some (r.Map.all (ay 0 (gW s r.From-1))):=fun h=>by
   obtain⟨e1,e2,e3⟩:=kW h
   have:=Cb (L:=vC s r) (f:=fun x=>some (ay 0 (gW s r.From-1) x)) (p:=ay 0 (gW s r.From-1)) (e:=true) (fun _=>rfl) (fun x r' k=>by
     rw[vC]
     simp only[e1,Option.bind_some,jo]
     rw[dU (by omega) (by omega)]) r.Map 0 (fun _ _=>rfl)
   simpa using this
 unfold mf
 cases hF:fC s r.From
 · simp only[fC]at hF
   cases h1:kF s
   · rfl
   · rw[h1,Bool.true_and]at hF
     simp[hF]
 · cases hT:fC s r.To
   · simp only[fC]at hT hF
     simp only[Bool.and_eq_true]at hF
     rw[hF.1,Bool.true_and]at hT
     simp[hF,hT]
   · obtain⟨e1,-⟩:=kW hT
     rw[hL hF,e1]
     simp only[fC,Bool.and_eq_true]at hF hT
     simp only[hF,hT,Bool.not_true,cond_false,Option.bind_some,bne]
     cases ((r.Map.length:Int)==gW s r.To)<;>rfl
theorem MO(l:List Int)(a1:Int)(h1:-1000<=a1/\a1<=1000):AQ l a1=some (l.any fun x=>!ay 0 (a1-1) x):=by
 unfold AQ EH
 rw[og (L:=yK a1) (f:=fun x=>Bb x a1) (p:=fun x=>!ay 0 (a1-1) x) (fun k=>rfl) (fun x r k=>rfl) l 0 (fun x hx=>by rw[Bb,mI,dU (by omega) (by omega)]; rfl),Option.bind_some,oo]
theorem V7(s:List Int)(r:fA)(hs:s.length<4294967296):Ch s r=some (mf s r):=by
 simp only[Ch,E_ _ _ hs,Option.bind_some,mf]
 cases hF:fC s r.From
 · rfl
 cases hT:fC s r.To
 · rfl
 obtain⟨e1,e2,e3⟩:=kW hF
 obtain⟨e4,-⟩:=kW hT
 simp only[e1,e4,Option.bind_some,yT,MO _ _ (show -1000<=gW s r.From/\gW s r.From<=1000 by omega),cond_true,Bool.true_and,List.all_eq_not_any_not]
 cases ((r.Map.length:Int)==gW s r.To)<;>rfl
theorem TF(l:List Int):AU l=some (l.any fun x=>!ay 0 9 x):=by
 unfold AU EK
 rw[og (L:=yM) (f:=fun x=>EW x) (p:=fun x=>!ay 0 9 x) (fun k=>rfl) (fun x r k=>rfl) l 0 (fun x hx=>rfl),Option.bind_some,oo]
theorem NK(l:List Int):za l=some (l.all (ay 0 9)):=by
 simp only[za,TF,Option.bind_some,List.all_eq_not_any_not]
def oL(s:List Int)(f:Fact):Bool:=fC s f.Rel&&(((f.Values.length:Int)==gW s f.Rel)&&f.Values.all (ay 0 9))
theorem V8(s:List Int)(f:Fact)(hs:s.length<4294967296):Cf s f=some (oL s f):=by
 simp only[Cf,Bq,jo,Option.bind_some]
 rw[dU (by omega) (by omega)]
 have hL:w_ f.Values 0=some (f.Values.all (ay 0 9)):=by
   have:=Cb (L:=w_) (f:=fun x=>some (ay 0 9 x)) (p:=ay 0 9) (e:=true) (fun _=>rfl) (fun x r' k=>rfl) f.Values 0 (fun _ _=>rfl)
   simpa using this
 unfold oL
 cases hF:fC s f.Rel
 · simp only[fC]at hF
   cases h1:kF s
   · rfl
   · rw[h1,Bool.true_and]at hF
     simp[hF]
 · obtain⟨e1,-⟩:=kW hF
   rw[hL,e1]
   simp only[fC,Bool.and_eq_true]at hF
   simp only[hF,Bool.not_true,cond_false,Option.bind_some,bne]
   cases ((f.Values.length:Int)==gW s f.Rel)<;>rfl
theorem V9(s:List Int)(f:Fact)(hs:s.length<4294967296):Cj s f=some (oL s f):=by
 simp only[Cj,E_ _ _ hs,Option.bind_some,oL]
 cases hF:fC s f.Rel
 · rfl
 obtain⟨e1,-⟩:=kW hF
 simp only[e1,Option.bind_some,NK,cond_true,Bool.true_and]
 cases ((f.Values.length:Int)==gW s f.Rel)<;>rfl
def bE(n:Int):List UInt8:=[UInt8.ofNat (48+n.toNat)]
theorem wW{K:Nat}(hK:2<=K)(n:Int)(h:0<=n/\n<=9):fZ K n=some (bE n):=by
 obtain⟨k,rfl⟩:∃k,K=k+2:=⟨K-2,by omega⟩
 obtain⟨h0,h1⟩:=h
 have:n=0\/n=1\/n=2\/n=3\/n=4\/n=5\/n=6\/n=7\/n=8\/n=9:=by omega
 rcases this with rfl|rfl|rfl|rfl|rfl|rfl|rfl|rfl|rfl|rfl<;>rfl
theorem Xg(n:Int)(h:0<=n/\n<=9):Lib.itoa n=bE n:=by
 unfold Lib.itoa bE
 rw[if_neg (by omega),Lib.decDigits,dif_pos (by omega)]
theorem yV(n:Int)(h:0<=n/\n<=9):jc n=some (bE n):=by
 rw[jc,Bg,if_pos (by omega),Xg n h]; rfl
theorem Wv(x y:List UInt8)(l:List (List UInt8))(sep:List UInt8):Lib.join (x::y::l) sep=x++(sep++Lib.join (y::l) sep):=by
 simp[Lib.join,List.intercalate,List.intersperse]
theorem join_one(x:List UInt8)(sep:List UInt8):Lib.join [x] sep=x:=by
 simp[Lib.join,List.intercalate,List.intersperse]
def tQ(sep:List UInt8)(l:List (List UInt8)):List UInt8:=l.flatMap fun x=>sep++x
theorem Fv(x:List UInt8)(sep:List UInt8):∀l:List (List UInt8),Lib.join (x::l) sep=x++tQ sep l
 |[]=>by rw[join_one]; simp[tQ]
 |y::l=>by rw[Wv,Fv y sep l]; simp[tQ]
theorem IQ(sep:List UInt8)(n:Nat):∀l:List (List UInt8),(∀x∈l,x.length<=n)->(tQ sep l).length<=(sep.length+n)*l.length
 |[],_=>by simp[tQ]
 |x::l,h=>by
   have h1:=IQ sep n l fun y hy=>h y (by simp[hy])
   have h2:=h x (by simp)
   simp only[tQ,List.flatMap_cons,List.length_append,List.length_cons,Nat.mul_succ]at*
   omega
theorem NL{K:Nat}(hK:2<=K):∀(l:List Int)(k:Nat)(c:List UInt8),0<k->(∀x∈l,0<=x/\x<=9)->c.length+2*l.length<4294967296->rJ K l k c=some (c++tQ [44] (l.map bE))
 |[],k,c,_,_,_=>by simp[rJ,tQ]
 |x::l,k,c,hk,h,hl=>by
   simp only[List.length_cons]at hl
   have e1:aP c [44]=some (c++[44]):=by unfold aP; rw[if_pos (by simp; omega)]
   have e2:aP (c++[44]) (bE x)=some (c++[44]++bE x):=by unfold aP; rw[if_pos (by simp[bE]; omega)]
   unfold rJ
   rw[if_pos (by simpa using hk),e1,Option.bind_some,wW hK x (h x (by simp)),Option.bind_some,e2,Option.bind_some,Option.bind_some]
   dsimp only
   rw[NL hK l _ _ (by omega) (fun y hy=>h y (by simp[hy])) (by simp[bE]; omega)]
   simp[tQ]
theorem Iz{K:Nat}(hK:2<=K)(l:List Int)(h:∀x∈l,0<=x/\x<=9)(hl:l.length<=3):xx K l=some (Lib.join (l.map bE) [44]):=by
 unfold xx
 cases l with
 |nil=>rfl
 |cons x l=>
   simp only[List.length_cons]at hl
   have e2:aP [] (bE x)=some (bE x):=by unfold aP; rw[if_pos (by simp[bE])]; rfl
   unfold rJ
   rw[if_neg (by simp),wW hK x (h x (by simp)),Option.bind_some,e2,Option.bind_some,Option.bind_some]
   dsimp only
   rw[NL hK l _ _ (by omega) (fun y hy=>h y (by simp[hy])) (by simp[bE]; omega),List.map_cons,Fv]
theorem NM:∀(l:List Int)(k:Nat)(c:List (List UInt8)),(∀x∈l,0<=x/\x<=9)->c.length+l.length<=3->(∀x∈c,x.length<=1)->vE [44] l k c=some (Lib.join (c++l.map bE) [44])
 |[],k,c,_,hl,hc=>by
   have hj:(Lib.join c [44]).length<=10:=by
     cases c with
     |nil=>simp[Lib.join,List.intercalate]
     |cons x c=>
       rw[Fv,List.length_append]
       have h1:=IQ [44] 1 c fun y hy=>hc y (by simp[hy])
       have h2:=hc x (by simp)
       simp only[List.length_cons,List.length_nil]at h1 hl
       omega
   simp only[List.length_nil,Nat.add_zero]at hl
   unfold vE
   rw[rE,if_pos ⟨by omega,by omega⟩]
   simp
 |x::l,k,c,h,hl,hc=>by
   simp only[List.length_cons]at hl
   unfold vE
   rw[yV x (h x (by simp)),Option.bind_some,xH (by simp; omega),Option.bind_some,NM l _ _ (fun y hy=>h y (by simp[hy])) (by simp; omega) (fun y hy=>by
     rcases List.mem_append.1 hy with hy|hy
     · exact hc y hy
     · rw[List.mem_singleton.1 hy]; simp[bE])]
   simp
theorem IA(l:List Int)(h:∀x∈l,0<=x/\x<=9)(hl:l.length<=3):xA l [44]=some (Lib.join (l.map bE) [44]):=by
 rw[xA,NM l 0 [] h (by simpa using hl) (by simp)]; rfl
theorem zz(l:List Int)(hl:l.length<=3):(Lib.join (l.map bE) [44]).length<=7:=by
 cases l with
 |nil=>simp[Lib.join,List.intercalate]
 |cons x l=>
   rw[List.map_cons,Fv,List.length_append]
   have h1:=IQ [44] 1 (l.map bE) fun y hy=>by
     obtain⟨z,-,rfl⟩:=List.mem_map.1 hy
     simp[bE]
   simp only[List.length_cons,List.length_nil,List.length_map]at h1 hl
   have:(bE x).length=1:=rfl
   omega
theorem Pm{l:List Int}(h:l.all (ay 0 9)=true):∀x∈l,0<=x/\x<=9:=by
 simpa only[List.all_eq_true,ay,Bool.and_eq_true,decide_eq_true_eq]using h
theorem EX(u:Nat):Lib.decDigits u=if u<10 then [UInt8.ofNat (48+u)]else Lib.decDigits (u / 10)++[UInt8.ofNat (48+u % 10)]:=by
 rw[Lib.decDigits]
 by_cases h:u<10
 · rw[dif_pos h,if_pos h]
 · rw[dif_neg h,if_neg h]
theorem Oc:∀(m u:Nat),u<10 ^ (m+1)->(Lib.decDigits u).length<=m+1
 |0,u,h=>by rw[EX,if_pos (by simpa using h)]; simp
 |m+1,u,h=>by
   rw[EX]
   split
   · simp
   · have:=Oc m (u / 10) (by rw[Nat.pow_succ]at h; omega)
     rw[List.length_append,List.length_singleton]; omega
theorem M3:∀(m u:Nat)(n:Int)(c:List UInt8),n.natAbs=u->u<10 ^ m-> -9223372036854775808<=n/\n<=9223372036854775807->c.length+m<4294967296->qd (m+1) n c=some ((if u=0 then []else Lib.decDigits u)++c)
 |0,u,n,c,hu,h,_,_=>by
   have h0:n=0:=by simp at h; omega
   subst h0
   have:u=0:=by simpa using hu.symm
   subst this
   unfold qd
   rw[if_neg (by simp)]; rfl
 |m+1,u,n,c,hu,h,hr,hc=>by
   by_cases h0:u=0
   · have hn:n=0:=by omega
     subst hn
     subst h0
     unfold qd
     rw[if_neg (by simp)]; rfl
   · have hn:n≠0:=by omega
     have hc1:∀b:UInt8,aP [b] c=some (b::c):=fun b=>by unfold aP; rw[if_pos (by simp; omega)]; rfl
     have hd:n.tdiv 10=if n<0 then -((u / 10:Nat):Int)else ((u / 10:Nat):Int):=by
       split
       · have:n= -(u:Int):=by omega
         rw[this,Int.neg_tdiv]; rfl
       · have:n=(u:Int):=by omega
         rw[this]; rfl
     have hm:n.tmod 10=if n<0 then -((u % 10:Nat):Int)else ((u % 10:Nat):Int):=by
       split
       · have:n= -(u:Int):=by omega
         rw[this,Int.neg_tmod]; rfl
       · have:n=(u:Int):=by omega
         rw[this]; rfl
     have hw:IntKind.i64.wrap (n.tdiv 10)=n.tdiv 10:=dU (by rw[hd]; split<;>omega) (by rw[hd]; split<;>omega)
     have ML:∀r:Nat,r<10->jf (IntKind.i64.wrap (48+(r:Int)))=UInt8.ofNat (48+r):=by
       intro r hr
       have:r=0\/r=1\/r=2\/r=3\/r=4\/r=5\/r=6\/r=7\/r=8\/r=9:=by omega
       rcases this with rfl|rfl|rfl|rfl|rfl|rfl|rfl|rfl|rfl|rfl<;>decide
     have hlt:u % 10<10:=Nat.mod_lt _ (by omega)
     have hgo:=M3 m (u / 10) (n.tdiv 10) (UInt8.ofNat (48+u % 10)::c) (by rw[hd]; split<;>omega) (by rw[Nat.pow_succ]at h; omega) (by rw[hd]; split<;>omega) (by simp; omega)
     have hfin:((if u / 10=0 then []else Lib.decDigits (u / 10))++UInt8.ofNat (48+u % 10)::c)=(if u=0 then []else Lib.decDigits u)++c:=by
       rw[if_neg h0,EX u]
       by_cases h9:u<10
       · rw[if_pos h9,if_pos (by omega),Nat.mod_eq_of_lt h9]; rfl
       · rw[if_neg h9,if_neg (by omega)]; simp
     rw[hfin]at hgo
     unfold qd
     rw[if_pos (by simpa using hn),hw,hm]
     by_cases hneg:n<0
     · rw[if_pos hneg]
       by_cases hz:u % 10=0
       · rw[if_neg (by simp only[decide_eq_true_eq]; omega),show -((u % 10:Nat):Int)=((u % 10:Nat):Int)from by omega,ML _ hlt,hc1,Option.bind_some]
         exact hgo
       · rw[if_pos (by simp only[decide_eq_true_eq]; omega),show IntKind.i64.wrap (- -((u % 10:Nat):Int))=((u % 10:Nat):Int)from by rw[Int.neg_neg]; exact dU (by omega) (by omega),ML _ hlt,hc1,Option.bind_some]
         exact hgo
     · rw[if_neg hneg,if_neg (by simp only[decide_eq_true_eq]; omega),ML _ hlt,hc1,Option.bind_some]
       exact hgo
theorem UT(k:Nat)(n:Int)(hr:-9223372036854775808<=n/\n<=9223372036854775807)(hk:19<=k)(hk2:k<1000):fZ (k+1) n=some (Lib.itoa n):=by
 unfold fZ Lib.itoa
 by_cases h0:n=0
 · subst h0
   rw[if_pos (by decide),if_neg (by decide),show Int.toNat 0=0 from rfl,EX]; rfl
 · rw[if_neg (by simpa using h0),M3 k n.natAbs n [] rfl (Nat.lt_of_lt_of_le (show n.natAbs<10 ^ 19 by omega) (Nat.pow_le_pow_right (by decide) hk)) hr (by simp; omega),Option.bind_some,if_neg (show ¬ n.natAbs=0 by omega),List.append_nil]
   dsimp only
   by_cases hneg:n<0
   · have:=Oc 18 n.natAbs (by omega)
     rw[if_pos (by simpa using hneg),if_pos hneg]
     unfold aP
     rw[if_pos (by simp; omega)]; rfl
   · rw[if_neg (by simpa using hneg),if_neg hneg,show n.natAbs=n.toNat from by omega]
theorem Be(n:Int)(hr:-9223372036854775808<=n/\n<=9223372036854775807):jc n=some (Lib.itoa n):=by
 rw[jc,Bg,if_pos hr]; rfl
theorem eD{a b:List UInt8}(h:a.length+b.length<4294967296):aP a b=some (a++b):=by unfold aP; rw[if_pos (by omega)]
def FN(f:Fact):Bool:=ay 0 2 f.Rel&&(ay 1 3 (f.Values.length:Int)&&f.Values.all (ay 0 9))
def oM(f:Fact):List UInt8:=if FN f then [114]++bE f.Rel++[40]++Lib.join (f.Values.map bE) [44]++[41]else []
theorem OT{m v:List UInt8}(hm:m.length<=1)(hv:v.length<=7):(((aP [114] m).bind fun x=>(aP x [40]).bind fun y=>(aP y v).bind fun z=>(aP z [41]).bind fun u=>some u):Option (List UInt8))=some ([114]++m++[40]++v++[41]):=by
 rw[eD (by simp; omega),Option.bind_some,eD (by simp; omega),Option.bind_some,eD (by simp; omega),Option.bind_some,eD (by simp; omega),Option.bind_some]
theorem M4{K:Nat}(hK:2<=K)(a:Fact)(hm:0<=a.Rel/\a.Rel<=2)(hl:a.Values.length<=3):∀(l:List Int)(k:Nat),(l.all (ay 0 9)=true-> ∀x∈a.Values,0<=x/\x<=9)->uZ a K l k=some (if l.all (ay 0 9)then [114]++bE a.Rel++[40]++Lib.join (a.Values.map bE) [44]++[41]else [])
 |[],k,hv=>by
   have hv':=hv rfl
   unfold uZ
   rw[wW hK _ (by omega),Option.bind_some,Iz hK a.Values hv' hl]
   simp only[Option.bind_some]
   rw[if_pos (by rfl)]
   exact OT (by simp[bE]) (zz a.Values hl)
 |x::l,k,hv=>by
   unfold uZ
   rw[jo,Option.bind_some]
   cases h:ay 0 9 x
   · simp[h]
   · rw[if_neg (by simp),M4 hK a hm hl l _ (fun h'=>hv (by simp[h,h']))]; simp[h]
theorem UU{K:Nat}(hK:2<=K)(a:Fact):Bt K a=some (oM a):=by
 unfold Bt oM FN
 rw[jo,Option.bind_some]
 cases h1:ay 0 2 a.Rel
 · rfl
 rw[jo,Option.bind_some]
 cases h2:ay 1 3 (a.Values.length:Int)
 · rfl
 have hm:0<=a.Rel/\a.Rel<=2:=by simpa only[ay,Bool.and_eq_true,decide_eq_true_eq]using h1
 have hn:1<=(a.Values.length:Int)/\(a.Values.length:Int)<=3:=by simpa only[ay,Bool.and_eq_true,decide_eq_true_eq]using h2
 simp only[Bool.not_true,cond_false,Option.bind_some,Bool.false_eq_true,if_false,Bool.true_and]
 exact M4 hK a hm (by omega) a.Values 0 Pm
theorem UV(a:Fact):Bw a=some (oM a):=by
 unfold Bw oM FN oz
 rw[mI,Option.bind_some,Option.bind_some]
 cases h1:ay 0 2 a.Rel
 · rfl
 rw[mI,Option.bind_some]
 cases h2:ay 1 3 (a.Values.length:Int)
 · rfl
 have hm:0<=a.Rel/\a.Rel<=2:=by simpa only[ay,Bool.and_eq_true,decide_eq_true_eq]using h1
 have hn:1<=(a.Values.length:Int)/\(a.Values.length:Int)<=3:=by simpa only[ay,Bool.and_eq_true,decide_eq_true_eq]using h2
 simp only[Bool.not_true,cond_false,NK,Option.bind_some,Bool.true_and]
 cases h3:a.Values.all (ay 0 9)
 · rfl
 · simp only[Bool.not_true,Bool.false_eq_true,if_false,if_true]
   rw[yV _ (by omega),Option.bind_some,IA a.Values (Pm h3) (by omega)]
   simp only[Option.bind_some]
   exact OT (by simp[bE]) (zz a.Values (by omega))
theorem Vr{zs:List Int}(h:zs.Pairwise (· <= ·)):∀m,m<=zs.length->
   (Lib.compactUpTo zs.toArray m).Pairwise (· < ·)/\(∀x,x∈Lib.compactUpTo zs.toArray m↔x∈zs.take m)/\(∀x∈Lib.compactUpTo zs.toArray m,∀y,zs[m]?=some y->x<=y):=by
 intro m
 induction m with
 |zero=>intro _; simp[Lib.compactUpTo]
 |succ m ih=>
   intro hm
   obtain⟨i1,i2,i3⟩:=ih (by omega)
   have hlt:m<zs.length:=by omega
   have hg:zs.toArray[m]! =zs[m]:=by simp[hlt]
   have hnext:∀x,x∈zs.take (m+1)-> ∀y,zs[m+1]?=some y->x<=y:=by
     intro x hx y hy
     obtain⟨j,hj,rfl⟩:=List.mem_iff_getElem.1 hx
     obtain⟨hy1,rfl⟩:=List.getElem?_eq_some_iff.1 hy
     rw[List.getElem_take]
     simp only[List.length_take]at hj
     exact List.pairwise_iff_getElem.1 h j (m+1) (by omega) hy1 (by omega)
   rw[Lib.compactUpTo_succ,hg]
   have htake:zs.take (m+1)=zs.take m++[zs[m]]:=by rw[List.take_succ_eq_append_getElem hlt]
   by_cases hk:Lib.keeps zs.toArray m=true
   · rw[if_pos hk]
     have hlow:∀x∈Lib.compactUpTo zs.toArray m,x<zs[m]:=by
       intro x hx
       have hm0:m≠0:=by
         intro e; subst e; simp[Lib.compactUpTo]at hx
       have hpl:m-1<zs.length:=by omega
       have hpm:zs.toArray[m-1]! =zs[m-1]:=by simp[hpl]
       have hne:zs[m]≠zs[m-1]:=by
         simp only[Lib.keeps,decide_eq_true_eq,hg,hpm]at hk
         rcases hk with h0|h0
         · exact absurd h0 hm0
         · exact h0
       have hx1:=(i2 x).1 hx
       obtain⟨j,hj,rfl⟩:=List.mem_iff_getElem.1 hx1
       rw[List.getElem_take]at*
       simp only[List.length_take]at hj
       have a1:zs[j]<=zs[m-1]:=by
         rcases Nat.lt_or_ge j (m-1)with h1|h1
         · exact List.pairwise_iff_getElem.1 h j (m-1) (by omega) hpl h1
         · have:j=m-1:=by omega
           subst this; exact Int.le_refl _
       have a2:zs[m-1]<=zs[m]:=List.pairwise_iff_getElem.1 h (m-1) m hpl hlt (by omega)
       omega
     refine⟨?_,?_,?_⟩
     · rw[List.pairwise_append]
       exact⟨i1,by simp,fun a ha b hb=>by simp at hb; subst hb; exact hlow a ha⟩
     · intro x; rw[htake,List.mem_append,List.mem_append,i2]
     · intro x hx y hy
       apply hnext x _ y hy
       rw[htake,List.mem_append,←i2,←List.mem_append]; exact hx
   · rw[if_neg hk,List.append_nil]
     have hm0:m≠0:=fun e=>hk (by simp[Lib.keeps,e])
     have hpl:m-1<zs.length:=by omega
     have hpm:zs.toArray[m-1]! =zs[m-1]:=by simp[hpl]
     have he:zs[m]=zs[m-1]:=by
       simp only[Lib.keeps,decide_eq_true_eq,hg,hpm]at hk
       exact Classical.byContradiction fun hc=>hk (.inr hc)
     have hin:zs[m]∈zs.take m:=by
       rw[he]
       exact List.mem_iff_getElem.2 ⟨m-1,by simp; omega,by rw[List.getElem_take]⟩
     have hiff:∀x,x∈zs.take (m+1)↔x∈zs.take m:=by
       intro x; rw[htake,List.mem_append,List.mem_singleton]
       exact⟨fun h=>h.elim id fun h=>h ▸ hin,.inl⟩
     refine⟨i1,fun x=>by rw[i2,hiff],fun x hx y hy=>hnext x ((hiff x).2 ((i2 x).1 hx)) y hy⟩
theorem VG{zs:List Int}(h:zs.Pairwise (· <= ·)):(Lib.compact zs).Pairwise (· < ·)/\ ∀x,x∈Lib.compact zs↔x∈zs:=by
 obtain⟨h1,h2,-⟩:=Vr h zs.length (Nat.le_refl _)
 exact⟨h1,fun x=>by rw[Lib.compact,h2,List.take_length]⟩
theorem QD:∀{a b:List Int},a.Pairwise (· < ·)->b.Pairwise (· < ·)->(∀x,x∈a↔x∈b)->a=b
 |[],[],_,_,_=>rfl
 |[],y::b,_,_,h=>absurd ((h y).2 (by simp)) (by simp)
 |x::a,[],_,_,h=>absurd ((h x).1 (by simp)) (by simp)
 |x::a,y::b,ha,hb,h=>by
   rw[List.pairwise_cons]at ha hb
   have e:x=y:=by
     have h1:=(h x).1 (by simp)
     have h2:=(h y).2 (by simp)
     rw[List.mem_cons]at h1 h2
     rcases h1 with h1|h1
     · exact h1
     · rcases h2 with h2|h2
       · exact h2.symm
       · have:=hb.1 x h1; have:=ha.1 y h2; omega
   subst e
   rw[QD ha.2 hb.2 fun z=>?_]
   constructor
   · intro hz
     have h1:=(h z).1 (by simp[hz])
     have:=ha.1 z hz
     rcases List.mem_cons.1 h1 with h1|h1
     · omega
     · exact h1
   · intro hz
     have h1:=(h z).2 (by simp[hz])
     have:=hb.1 z hz
     rcases List.mem_cons.1 h1 with h1|h1
     · omega
     · exact h1
def mW(x:Int):List Int->List Int
 |[]=>[x]
 |y::l=>if x<y then x::y::l else y::mW x l
theorem I4{x:Int}:∀{l:List Int}{y:Int},y∈mW x l↔y=x\/y∈l
 |[],y=>by simp[mW]
 |z::l,y=>by
   unfold mW
   split
   · simp
   · rw[List.mem_cons,I4,List.mem_cons]
     constructor<;>rintro (h|h|h)<;>simp[h]
theorem Ql{x:Int}:∀{l:List Int},l.Pairwise (· < ·)->x∉l->(mW x l).Pairwise (· < ·)
 |[],_,_=>by simp[mW]
 |z::l,h,hn=>by
   unfold mW
   rw[List.mem_cons,not_or]at hn
   rw[List.pairwise_cons]at h
   split
   · rename_i hx
     rw[List.pairwise_cons,List.pairwise_cons]
     refine⟨fun a ha=>?_,h⟩
     rcases List.mem_cons.1 ha with rfl|ha
     · exact hx
     · have:=h.1 a ha; omega
   · rename_i hx
     rw[List.pairwise_cons]
     refine⟨fun a ha=>?_,Ql h.2 hn.2⟩
     rcases I4.1 ha with rfl|ha
     · omega
     · exact h.1 a ha
theorem PQ{x:Int}:∀{l:List Int},(mW x l).length=l.length+1
 |[]=>rfl
 |z::l=>by
   unfold mW
   split
   · rfl
   · simp[PQ]
def kr(l:List Int)(x:Int):List Int:=if x∈l then l else mW x l
theorem Xh{l:List Int}{x y:Int}:y∈kr l x↔y=x\/y∈l:=by
 unfold kr
 split
 · rename_i h; exact⟨.inr,fun h'=>h'.elim (fun e=>e ▸ h) id⟩
 · exact I4
theorem XO{l:List Int}{x:Int}(h:l.Pairwise (· < ·)):(kr l x).Pairwise (· < ·):=by
 unfold kr
 split
 · exact h
 · exact Ql h (by assumption)
theorem PR{l:List Int}{x:Int}:(kr l x).length<=l.length+1:=by
 unfold kr
 split
 · omega
 · rw[PQ]; exact Nat.le_refl _
theorem I5{y:Int}:∀{v l:List Int},y∈v.foldl kr l↔y∈l\/y∈v
 |[],l=>by simp
 |x::v,l=>by
   rw[List.foldl_cons,I5,Xh,List.mem_cons]
   constructor
   · rintro ((h|h)|h)<;>simp[h]
   · rintro (h|h|h)<;>simp[h]
theorem Qm:∀{v l:List Int},l.Pairwise (· < ·)->(v.foldl kr l).Pairwise (· < ·)
 |[],_,h=>h
 |x::v,l,h=>Qm (v:=v) (XO h)
theorem PS:∀{v l:List Int},(v.foldl kr l).length<=l.length+v.length
 |[],_=>Nat.le_refl _
 |x::v,l=>by
   have h1:=PS (v:=v) (l:=kr l x)
   have h2:=PR (l:=l) (x:=x)
   simp only[List.foldl_cons,List.length_cons]; omega
theorem WL(v:List Int):v.foldl kr []=Lib.compact (v.mergeSort fun x y=>decide (x<=y)):=by
 have hs:(v.mergeSort fun x y=>decide (x<=y)).Pairwise (· <= ·):=by
   have:=List.pairwise_mergeSort (le:=fun x y:Int=>decide (x<=y)) (fun a b c h1 h2=>by simp only[decide_eq_true_eq]at*; omega) (fun a b=>by simp only[Bool.or_eq_true,decide_eq_true_eq]; omega) v
   exact this.imp fun h=>by simpa using h
 obtain⟨c1,c2⟩:=VG hs
 exact QD (Qm (by simp)) c1 fun x=>by rw[I5,c2,List.mem_mergeSort]; simp
theorem IM(x:Int)(l:List Int):vT l x=some (decide (x∈l)):=by
 unfold vT
 generalize 0=k
 induction l generalizing k with
 |nil=>rfl
 |cons y l ih=>
   unfold zl
   by_cases h:y=x
   · subst h; simp
   · rw[if_neg (by simpa using h),ih]
     congr 1
     simp only[List.mem_cons,decide_eq_decide]
     exact⟨.inr,fun h'=>h'.elim (fun e=>absurd e.symm h) id⟩
theorem EY(l:List Int)(x:Int)(hl:l.length<4294967296):∀(m i:Nat)(c:List Int)(b:Bool),i<=l.length->l.length-i<m->c.length+(l.length-i)+(bif b then 0 else 1)<4294967296->xk l x m c b (i:Int)=some (if b then c++l.drop i else c++mW x (l.drop i))
 |0,_,_,_,_,hm,_=>by omega
 |m+1,i,c,b,hi,hm,h=>by
   unfold xk
   by_cases hlt:i<l.length
   · obtain⟨y,t,hg,hd,ht⟩:∃y t,ix l (i:Int)=some y/\l.drop i=y::t/\l.drop (i+1)=t:=⟨_,_,by rw[jO,List.getElem?_eq_getElem hlt],List.drop_eq_getElem_cons hlt,rfl⟩
     have hw:IntKind.i64.wrap ((i:Int)+1)=((i+1:Nat):Int):=by rw[dU (by omega) (by omega)]; rfl
     rw[if_pos (by simp only[decide_eq_true_eq]; omega)]
     simp only[hg,Option.bind_some,hw]
     cases b
     · simp only[cond_false]at h
       by_cases hx:x<y
       · simp only[Bool.not_false,cond_true,hx,decide_true,if_true,Option.bind_some]
         rw[xH (by simp; omega),Option.bind_some,xH (by simp; omega),Option.bind_some,Option.bind_some]
         dsimp only
         rw[EY l x hl m (i+1) _ _ hlt (by omega) (by simp; omega),ht,hd]
         simp[mW,hx]
       · simp only[Bool.not_false,cond_true,hx,decide_false,Bool.false_eq_true,if_false,Option.bind_some]
         rw[xH (by simp; omega),Option.bind_some,Option.bind_some]
         dsimp only
         rw[EY l x hl m (i+1) _ _ hlt (by omega) (by simp; omega),ht,hd]
         simp[mW,hx]
     · simp only[cond_true]at h
       simp only[Bool.not_true,cond_false,Bool.false_eq_true,if_false,Option.bind_some]
       rw[xH (by simp; omega),Option.bind_some,Option.bind_some]
       dsimp only
       rw[EY l x hl m (i+1) _ _ hlt (by omega) (by simp; omega),ht,hd]
       simp
   · have hd:l.drop i=[]:=List.drop_eq_nil_of_le (by omega)
     rw[if_neg (by simp only[decide_eq_true_eq]; omega),hd]
     cases b
     · simp only[cond_false]at h
       rw[if_pos (show (!false)=true from rfl),xH (by simp; omega),if_neg (by simp)]; rfl
     · simp
theorem Ww(l:List Int)(x:Int)(h:l.length+1<4294967296):Ct l x=some (kr l x):=by
 unfold Ct kr
 rw[IM,Option.bind_some]
 by_cases hx:x∈l
 · rw[if_pos (by simpa using hx),if_pos hx]
 · rw[if_neg (by simpa using hx),if_neg hx]
   have:=EY l x (by omega) (((l.length:Int)-0).toNat+2) 0 [] false (by omega) (by omega) (by simpa using h)
   rw[show ((0:Nat):Int)=0 from rfl]at this
   rw[this]
   simp
theorem XP{v:List Int}(h:v.Pairwise (· < ·))(lo:Int)(n:Nat)(hb:∀x∈v,lo<=x/\x<lo+n):v.length<=n:=by
 induction v generalizing lo n with
 |nil=>simp
 |cons x v ih=>
   rw[List.pairwise_cons]at h
   have hx:=hb x (by simp)
   have:=ih h.2 (x+1) (n-(x+1-lo).toNat) (fun y hy=>by
     have a:=h.1 y hy
     have b:=hb y (by simp[hy])
     omega)
   simp only[List.length_cons]; omega
theorem FO:∀(o:Option Int)(l:List Int),il (fun _=>true) (fun y x=>decide (x<=y)) o l=true↔(∀y,o=some y-> ∀x∈l,y<x)/\l.Pairwise (· < ·)
 |o,[]=>by cases o<;>simp[il]
 |none,x::l=>by
   rw[il,Bool.true_and,FO (some x) l,List.pairwise_cons]
   simp
 |some y,x::l=>by
   rw[il,Bool.and_eq_true,Bool.and_eq_true,FO (some x) l,List.pairwise_cons]
   simp only[List.mem_cons,forall_eq_or_imp,Option.some.injEq,forall_eq',Bool.not_eq_true',decide_eq_false_iff_not,Int.not_le,true_and]
   constructor
   · rintro⟨b,d,e⟩
     exact⟨⟨b,fun z hz=>Int.lt_trans b (d z hz)⟩,d,e⟩
   · rintro⟨⟨b,_⟩,d,e⟩
     exact⟨b,d,e⟩
theorem V_{s:List Int}{m:Method}(h:jr s m=true):m.Inputs.length<=3:=by
 simp only[jr,Bool.and_eq_true,List.all_eq_true]at h
 obtain⟨h1,-,-,-,h2,h3⟩:=h
 have h4:=((FO none _).1 h2).2
 have h5:=kW h1
 refine XP h4 0 3 fun x hx=>?_
 have:=h3 x hx
 simp only[ay,Bool.and_eq_true,decide_eq_true_eq]at this
 omega
theorem VH(n:Int):BU n=some (ay 0 9 n):=rfl
theorem OU(t:Int):zL t=some (ay 10 17 t):=rfl
theorem OV(t:Int):zM t=some (ay 10 17 t):=rfl
def gG(t:Int):Bool:=ay 0 9 t||ay 10 17 t
theorem OG(t:Int):xz t=some (gG t):=by
 rw[xz,jo,Option.bind_some,OU,gG]
 cases ay 0 9 t<;>rfl
theorem Wd(t:Int):Cn t=some (gG t):=by
 rw[Cn,VH,Option.bind_some,OV,gG]
 cases ay 0 9 t<;>rfl
theorem Od(l:List Int):zn l=some (l.all gG):=by
 unfold zn EI EM
 rw[og (L:=yO) (f:=Bz) (p:=fun x=>!gG x) (fun k=>rfl) (fun x r k=>rfl) l 0 (fun x _=>by rw[Bz,Wd]; rfl),Option.bind_some,oo,Option.bind_some]
 simp[List.all_eq_not_any_not]
def mg(s:List Int)(a:aX):Bool:=fC s a.Rel&&(((a.Terms.length:Int)==gW s a.Rel)&&a.Terms.all gG)
theorem We(s:List Int)(a:aX)(hs:s.length<4294967296):Cg s a=some (mg s a):=by
 have hL:xe a.Terms 0=some (a.Terms.all gG):=by
   have:=Cb (L:=xe) (f:=xz) (p:=gG) (e:=true) (fun k=>rfl) (fun x r k=>rfl) a.Terms 0 (fun x _=>OG x)
   rw[this]; simp
 unfold Cg mg
 rw[Bq,Option.bind_some]
 cases h1:kF s
 · simp[fC,h1]
 rw[jo,Option.bind_some,dU (by omega) (by omega)]
 cases h2:ay 0 ((s.length:Int)-1) a.Rel
 · simp[fC,h1,h2]
 have hh:fC s a.Rel=true:=by simp[fC,h1,h2]
 rw[(kW hh).1,hL,hh]
 by_cases e:(a.Terms.length:Int)=gW s a.Rel
 · simp[e]
 · simp[e]
theorem Wh(s:List Int)(a:aX)(hs:s.length<4294967296):Co s a=some (mg s a):=by
 unfold Co mg
 rw[E_ _ _ hs,Option.bind_some]
 cases hh:fC s a.Rel
 · rfl
 rw[(kW hh).1,Od]
 cases e:((a.Terms.length:Int)==gW s a.Rel)<;>simp[e]
def gX(p:Int->Bool)(l:List aX):List Int:=((l.flatMap (·.Terms)).filter p).foldl kr []
def dF(l:List aX):Nat:=(l.flatMap (·.Terms)).length
theorem WM{p:Int->Bool}{v l:List Int}:((v.filter p).foldl kr l).length<=l.length+v.length:=by
 have h1:=PS (v:=v.filter p) (l:=l)
 have h2:=List.length_filter_le p v
 omega
theorem Vh(x:aX)(hx:x.Terms.length<4294967296):∀(m i:Nat)(c:List Int),i<=x.Terms.length->x.Terms.length-i<m->c.length+(x.Terms.length-i)<4294967295->vD x m c (i:Int)=some (((x.Terms.drop i).filter (ay 10 17)).foldl kr c):=by
 intro m
 induction m with
 |zero=>intro i c _ h _; omega
 |succ m ih=>
   intro i c hi hm hc
   unfold vD
   by_cases hlt:i<x.Terms.length
   · rw[if_pos (by simpa using hlt),jO,List.getElem?_eq_getElem hlt,Option.bind_some,OU,Option.bind_some,List.drop_eq_getElem_cons hlt,List.filter_cons]
     cases hp:(ay 10 17) x.Terms[i]
     · rw[if_neg (by simp),Option.bind_some,if_neg (by simp)]
       dsimp only
       rw[show IntKind.i64.wrap ((i:Int)+1)=((i+1:Nat):Int)from by rw[dU (by omega) (by omega)]; rfl,ih (i+1) _ (by omega) (by omega) (by omega)]
     · have:=PR (l:=c) (x:=x.Terms[i])
       rw[if_pos rfl,Option.bind_some,Ww _ _ (by omega),Option.bind_some,Option.bind_some,if_pos rfl]
       dsimp only
       rw[show IntKind.i64.wrap ((i:Int)+1)=((i+1:Nat):Int)from by rw[dU (by omega) (by omega)]; rfl,ih (i+1) _ (by omega) (by omega) (by omega),List.foldl_cons]
   · rw[if_neg (by simpa using hlt),List.drop_eq_nil_of_le (by omega)]; rfl
theorem NN:∀(l:List aX)(k:Nat)(c:List Int),c.length+dF l<4294967295->xc l k c=some (((l.flatMap (·.Terms)).filter (ay 10 17)).foldl kr c)
 |[],k,c,_=>rfl
 |a::l,k,c,h=>by
   simp only[dF,List.flatMap_cons,List.length_append]at h
   have:=WM (p:=(ay 10 17)) (v:=a.Terms) (l:=c)
   unfold xc
   have e:vD a (a.Terms.length+2) c 0=some (((a.Terms.drop 0).filter (ay 10 17)).foldl kr c):=Vh a (by omega) _ 0 c (by omega) (by omega) (by omega)
   rw[show ((a.Terms.length:Int)-0).toNat+2=a.Terms.length+2 by omega,e,Option.bind_some]
   dsimp only
   rw[List.drop_zero,NN l _ _ (by simp only[dF]; omega),List.flatMap_cons,List.filter_append,List.foldl_append]
theorem IB(q:bJ)(h:dF q.Atoms<4294967295):xy q=some (gX (ay 10 17) q.Atoms):=by
 rw[xy,NN _ _ _ (by simpa using h)]; rfl
theorem Uf(l:List Int)(c:List Int)(h:c.length+l.length<4294967296):uT l 0 c=some (c++l.filter (ay 10 17)):=by
 have:=Qi (L:=uT) (P:=fun _=>True) (p:=(ay 10 17)) (g:=fun x:Int=>x) (fun _ _=>rfl) (fun x r k c _ hc=>by
   rw[uT,OV,Option.bind_some]
   cases (ay 10 17) x
   · rw[if_neg (by simp),if_neg (by simp)]; rfl
   · rw[if_pos rfl,app1 hc,if_pos rfl]; rfl) l 0 c (fun _ _=>trivial) h
 rw[this,List.map_id']
theorem MU:∀(l:List aX)(k:Nat)(c:List Int),c.length+dF l<4294967296->uU l k c=some (Lib.compact ((c++(l.flatMap (·.Terms)).filter (ay 10 17)).mergeSort fun x y=>decide (x<=y)))
 |[],k,c,_=>by simp[uU,Ia,H_]
 |a::l,k,c,h=>by
   simp only[dF,List.flatMap_cons,List.length_append]at h
   have:=List.length_filter_le (ay 10 17) a.Terms
   unfold uU
   rw[Uf a.Terms c (by omega),Option.bind_some]
   dsimp only
   rw[MU l _ _ (by simp only[dF,List.length_append]; omega),List.flatMap_cons,List.filter_append,List.append_assoc]
theorem OH(q:bJ)(h:dF q.Atoms<4294967295):Ck q=some (gX (ay 10 17) q.Atoms):=by
 rw[Ck,ER,MU _ _ _ (by simp; omega),Option.bind_some,List.nil_append,gX,WL]
theorem T_(l:List Int)(v:Int):Ba l v=some (yo (fun x=>v==x) l 0):=by
 rw[Ba]
 exact og (L:=yP v) (f:=fun x=>some (v==x)) (p:=fun x=>v==x) (fun _=>rfl) (fun _ _ _=>rfl) l 0 (fun _ _=>rfl)
theorem MS(l:List Int)(v:Int):A_ l v=some (decide (v∈l)):=by
 rw[A_,T_,Option.bind_some,oo]
 congr 1
 rw[Bool.eq_iff_iff]
 simp
def kX(s:List Int)(q:bJ):Bool:=q.Atoms.all (mg s)&&(q.Head.all (fun t=>decide (t∈gX (ay 10 17) q.Atoms))&&(kF s&&(ay 1 4 (q.Atoms.length:Int)&&decide ((q.Head.length:Int)<=3))))
theorem UW(s:List Int)(q:bJ)(v:List Int):∀(l:List Int)(k:Nat),vv s q v l k=some (l.all (fun t=>decide (t∈v))&&(kF s&&(ay 1 4 (q.Atoms.length:Int)&&decide ((q.Head.length:Int)<=3)))):=by
 intro l
 induction l with
 |nil=>
   intro k
   rw[vv,Bq,Option.bind_some,jo]
   cases kF s<;>cases ay 1 4 (q.Atoms.length:Int)<;>rfl
 |cons x l ih=>
   intro k
   rw[vv,IM,Option.bind_some,ih,List.all_cons]
   cases decide (x∈v)<;>rfl
theorem Oq(s:List Int)(q:bJ)(hs:s.length<4294967296)(h:dF q.Atoms<4294967295):zu s q=some (kX s q):=by
 have key:∀(l:List aX)(k:Nat),vw s q l k=some (l.all (mg s)&&(q.Head.all (fun t=>decide (t∈gX (ay 10 17) q.Atoms))&&(kF s&&(ay 1 4 (q.Atoms.length:Int)&&decide ((q.Head.length:Int)<=3))))):=by
   intro l
   induction l with
   |nil=>
     intro k
     rw[vw,IB q h,Option.bind_some,UW]
     simp
   |cons x l ih=>
     intro k
     rw[vw,We s x hs,Option.bind_some,ih,List.all_cons]
     cases mg s x<;>rfl
 rw[zu,key]; rfl
theorem VI(s:List Int)(q:bJ)(hs:s.length<4294967296)(h:dF q.Atoms<4294967295):BV s q=some (kX s q):=by
 have h1:AP q.Atoms s=some (q.Atoms.any fun a=>!mg s a):=by
   unfold AP EG
   rw[og (L:=yJ s) (f:=fun a=>BJ a s) (p:=fun a=>!mg s a) (fun k=>rfl) (fun x r k=>rfl) q.Atoms 0 (fun x _=>by rw[BJ,Wh s x hs]; rfl),Option.bind_some,oo]
 have h2:wN q.Head (gX (ay 10 17) q.Atoms)=some (q.Head.any fun t=>!decide (t∈gX (ay 10 17) q.Atoms)):=by
   unfold wN AX
   rw[og (L:=wM _) (f:=fun t=>xg t (gX (ay 10 17) q.Atoms)) (p:=fun t=>!decide (t∈gX (ay 10 17) q.Atoms)) (fun k=>rfl) (fun x r k=>rfl) q.Head 0 (fun x _=>by rw[xg,MS]; rfl),Option.bind_some,oo]
 unfold BV kX
 rw[Ob,Option.bind_some,mI,Option.bind_some,h1,Option.bind_some,xu,OH q h,Option.bind_some,h2]
 have e1:(q.Atoms.any fun a=>!mg s a)=!(q.Atoms.all (mg s)):=by simp[List.all_eq_not_any_not]
 have e2:(q.Head.any fun t=>!decide (t∈gX (ay 10 17) q.Atoms))=!(q.Head.all fun t=>decide (t∈gX (ay 10 17) q.Atoms)):=by simp[List.all_eq_not_any_not]
 rw[e1,e2]
 cases kF s<;>cases ay 1 4 (q.Atoms.length:Int)<;>cases q.Atoms.all (mg s)<;>cases decide ((q.Head.length:Int)<=3)<;>cases (q.Head.all fun t=>decide (t∈gX (ay 10 17) q.Atoms))<;>rfl
theorem Qn:∀{l:List aX},(∀a∈l,a.Terms.length<=3)->dF l<=3*l.length
 |[],_=>by simp[dF]
 |a::l,h=>by
   have h1:=h a (by simp)
   have h2:=Qn (l:=l) fun x hx=>h x (by simp[hx])
   simp only[dF,List.flatMap_cons,List.length_append,List.length_cons]at*; omega
theorem Q8{α:Type}{ms:α->Nat}{c:Nat}:∀l:List α,(∀x∈l,ms x<=c)->iM ms l<=c*l.length
 |[],_=>by simp[iM]
 |x::l,h=>by
   have h1:=h x (by simp)
   have h2:=Q8 l fun y hy=>h y (by simp[hy])
   rw[zC,List.length_cons,Nat.mul_succ]; omega
theorem Wi{p:Int->Bool}{l:List aX}{v:Int}:v∈gX p l↔v∈l.flatMap (·.Terms)/\p v=true:=by
 rw[gX,I5,List.mem_filter]; simp
theorem XQ(s p:List UInt8):∃b,wO s p=some b/\(b=true->p.length<=s.length):=by
 unfold wO
 by_cases h:(p.length:Int)<=(s.length:Int)
 · rw[decide_eq_true h,cond_true,jd (by simp),Option.bind_some,Option.bind_some]
   exact⟨_,rfl,fun _=>by omega⟩
 · rw[decide_eq_false h,cond_false,Option.bind_some]
   exact⟨_,rfl,fun h=>by simp at h⟩
theorem Cq(s p:List UInt8):∃r,lJ s p=some r/\r.length<=s.length:=by
 unfold lJ AY
 obtain⟨b,e,h⟩:=XQ s p
 rw[e,Option.bind_some]
 cases b
 · exact⟨s,rfl,Nat.le_refl _⟩
 · have:=h rfl
   rw[if_pos rfl,jd (by simp; omega),Option.bind_some,Option.bind_some]
   exact⟨_,rfl,by simp⟩
theorem Qo(s p:List UInt8)(hl:s.length<=1048576):∃b,ru s p=some b/\(b=true->p.length<=s.length):=by
 unfold ru
 by_cases h:(p.length:Int)<=(s.length:Int)
 · rw[decide_eq_true h,cond_true,dU (by omega) (by omega),jd (by simp; omega),Option.bind_some,Option.bind_some]
   exact⟨_,rfl,fun _=>by omega⟩
 · rw[decide_eq_false h,cond_false,Option.bind_some]
   exact⟨_,rfl,fun h=>by simp at h⟩
theorem Xi(s p:List UInt8)(hl:s.length<=1048576):∃r,uS s p=some r/\r.length<=s.length:=by
 unfold uS AZ
 obtain⟨b,e,h⟩:=Qo s p hl
 rw[e,Option.bind_some]
 cases b
 · exact⟨s,rfl,Nat.le_refl _⟩
 · have:=h rfl
   rw[if_pos rfl,dU (by omega) (by omega),jd (by simp; omega),Option.bind_some,Option.bind_some]
   exact⟨_,rfl,by simp⟩
theorem OW(sep:List UInt8):∀(k:Nat)(s:List UInt8),(Lib.splitK sep 0 k s).length<=k+1/\ ∀y∈Lib.splitK sep 0 k s,y.length<=s.length
 |0,s=>by simp[Lib.splitK]
 |k+1,s=>by
   rw[Lib.splitK]
   split
   · simp
   · obtain⟨h1,h2⟩:=OW sep k (s.drop ((Lib.index s sep).toNat+sep.length))
     refine⟨by simp only[List.length_cons]; omega,fun y hy=>?_⟩
     rcases List.mem_cons.1 hy with rfl|hy
     · simp; omega
     · have:=h2 y hy
       simp at this; omega
theorem nZ(s:List UInt8)(hl:s.length<=1048576):∃n b,g_ s=some (n,b):=by
 unfold g_ EU h_
 rw[if_pos (by omega),Option.bind_some]
 cases h1:(tL s).2
 · exact⟨_,_,rfl⟩
 simp only[Bool.not_true,cond_false,Option.bind_some]
 cases h2:(decide (-999999999<=(tL s).1)&&decide ((tL s).1<=999999999))
 · exact⟨_,_,rfl⟩
 simp only[Bool.and_eq_true,decide_eq_true_eq]at h2
 rw[Bool.not_true,cond_false,Be _ (by omega),Option.bind_some,Option.bind_some]
 split
 · exact⟨_,_,rfl⟩
 · exact⟨_,_,rfl⟩
theorem Io:∀(l:List (List UInt8))(k:Nat)(c:List Int),(∀y∈l,y.length<=1048576)->c.length+l.length<4294967295-> ∃v b,nu l k c=some (v,b)
 |[],k,c,_,_=>⟨_,_,rfl⟩
 |y::l,k,c,h,hc=>by
   simp only[List.length_cons]at hc
   obtain⟨n,b,e⟩:=nZ y (h y (by simp))
   rw[nu,e,Option.bind_some]
   cases b
   · exact⟨_,_,rfl⟩
   · rw[if_neg (by simp),app1 (by omega),Option.bind_some]
     exact Io l _ _ (fun x hx=>h x (by simp[hx])) (by simp; omega)
def bD(c:UInt8):List UInt8->List UInt8->List (List UInt8)
 |p,[]=>[p]
 |p,b::l=>if b=c then p::bD c [] l else bD c (p++[b]) l
def yl(p:List UInt8):List (List UInt8)->List (List UInt8)
 |[]=>[]
 |h::t=>(p++h)::t
theorem Jc(c:UInt8):∀(l p:List UInt8),bD c p l=yl p (bD c [] l)
 |[],p=>by simp[bD,yl]
 |b::l,p=>by
   unfold bD
   split
   · simp[yl]
   · rw[Jc c l (p++[b]),List.nil_append,Jc c l [b]]
     cases bD c [] l<;>simp[yl]
theorem zN(c:UInt8):∀(l p:List UInt8),1<=(bD c p l).length/\(bD c p l).length<=l.length+1
 |[],p=>by simp[bD]
 |b::l,p=>by
   unfold bD
   split
   · have:=zN c l []
     simp only[List.length_cons]; omega
   · have:=zN c l (p++[b])
     simp only[List.length_cons]; omega
theorem FU(c:UInt8):∀(l p:List UInt8),∀y∈bD c p l,y.length<=p.length+l.length
 |[],p,y,hy=>by simp[bD]at hy; subst hy; simp
 |b::l,p,y,hy=>by
   unfold bD at hy
   simp only[List.length_cons]
   split at hy
   · rcases List.mem_cons.1 hy with rfl|hy
     · omega
     · have:=FU c l [] y hy
       simp at this; omega
   · have:=FU c l (p++[b]) y hy
     simp at this; omega
theorem Wx{c b:UInt8}(hb:b≠c)(l:List UInt8):∀k,Lib.splitK [c] 0 k (b::l)=yl [b] (Lib.splitK [c] 0 k l)
 |0=>rfl
 |k+1=>by
   have hp:[c].isPrefixOf (b::l)=false:=by simp[List.isPrefixOf,beq_eq_false_iff_ne.2 (Ne.symm hb)]
   rw[Lib.splitK,Lib.splitK,Lib.index,hp]
   have hge:=Lib.index_ge l [c]
   by_cases h:Lib.index l [c]= -1
   · simp[h,yl]
   · obtain⟨i,hi⟩:∃i:Nat,Lib.index l [c]=(i:Int):=⟨(Lib.index l [c]).toNat,by omega⟩
     rw[hi]
     have e1:((i:Int)== -1)=false:=by simp
     have e2:(((i:Int)+1)== -1)=false:=by simp; omega
     simp only[e1,Bool.false_eq_true,if_false,e2,yl]
     have e3:((i:Int)+1).toNat=i+1:=by omega
     rw[e3]
     simp
theorem Pn(c:UInt8):∀s:List UInt8,Lib.split s [c]=bD c [] s
 |[]=>by simp[Lib.split,bD,Lib.count_one,Lib.splitK]
 |b::l=>by
   have ih:=Pn c l
   unfold Lib.split at ih ⊢
   rw[Lib.count_one]at ih ⊢
   unfold bD
   by_cases h:b=c
   · subst h
     rw[if_pos rfl,List.count_cons_self,Lib.splitK]
     have:Lib.index (b::l) [b]=0:=by rw[Lib.index,if_pos (by simp[List.isPrefixOf])]
     rw[this,if_neg (by decide)]
     simp[ih]
   · rw[if_neg h,List.count_cons_of_ne (by simpa using h),Wx h,ih,List.nil_append,←Jc]
theorem rQ(s:List UInt8)(c:UInt8)(hl:s.length<=1048576):oq s c=some (bD c [] s):=by
 have key:∀(r:List UInt8)(i m:Nat)(out:List (List UInt8))(p:List UInt8),s.drop i=r->i<=s.length->r.length<m->out.length+r.length<4294967290->p.length+r.length<4294967290->vH s c m out p (i:Int)=some (out++bD c p r):=by
   intro r
   induction r with
   |nil=>
     intro i m out p h1 h2 h3 h4 h5
     obtain⟨m,rfl⟩:∃k,m=k+1:=⟨m-1,by omega⟩
     have hi:s.length<=i:=List.drop_eq_nil_iff.1 h1
     rw[vH,if_neg (by simp; omega),app1 (by simp at h4; omega),Option.bind_some,bD]
   |cons b r ih=>
     intro i m out p h1 h2 h3 h4 h5
     simp only[List.length_cons]at h3 h4 h5
     obtain⟨m,rfl⟩:∃k,m=k+1:=⟨m-1,by omega⟩
     have hg:s[i]?=some b:=by
       have:(s.drop i)[0]?=some b:=by rw[h1]; rfl
       simpa using this
     have hlt:=(List.getElem?_eq_some_iff.1 hg).1
     have hd:s.drop (i+1)=r:=by rw[←List.drop_drop,h1]; rfl
     have hw:IntKind.i64.wrap ((i:Int)+1)=((i+1:Nat):Int):=by rw[dU (by omega) (by omega)]; rfl
     rw[vH,if_pos (by simp; omega),jO,hg,Option.bind_some,hw]
     unfold bD
     by_cases h:b=c
     · subst h
       rw[if_pos (by simp),app1 (by omega),Option.bind_some,Option.bind_some]
       dsimp only
       rw[ih (i+1) m _ _ hd (by omega) (by omega) (by simp; omega) (by simp; omega),if_pos rfl,List.append_assoc]; rfl
     · have hne:¬ ((b.toNat:Int)==(c.toNat:Int))=true:=by
         rw[beq_iff_eq]; intro e
         exact h (UInt8.toNat_inj.1 (by omega))
       have hsl:(s.take ((i+1:Nat):Int).toNat).drop ((i:Nat):Int).toNat=[b]:=by
         rw[Int.toNat_natCast,Int.toNat_natCast,List.take_add_one,hg,List.drop_append_of_le_length (by simp; omega)]
         simp
       rw[if_neg hne,jd (by simp; omega),Option.bind_some,hsl,eD (by simp; omega),Option.bind_some,Option.bind_some]
       dsimp only
       rw[ih (i+1) m _ _ hd (by omega) (by omega) (by omega) (by simp; omega),if_neg h]
 exact key s 0 (((s.length:Int)-0).toNat+2) [] [] rfl (by omega) (by omega) (by simp; omega) (by simp; omega)
theorem PT(n:Int):-9223372036854775808<=IntKind.i64.wrap n/\IntKind.i64.wrap n<=9223372036854775807:=by
 unfold IntKind.wrap
 simp only[IntKind.bits,IntKind.signed]
 simp
 split<;>omega
theorem Bc(s:List UInt8)(hl:s.length<=1048576):∀(m i:Nat)(c1 c2:Int),i<=s.length->s.length-i<m-> -9223372036854775808<=c1/\c1<=9223372036854775807-> ∃n b,qf s 20 m c1 c2 (i:Int)=some (n,b)
 |0,_,_,_,_,h,_=>by omega
 |m+1,i,c1,c2,hi,hm,hc=>by
   rw[qf]
   split
   · rename_i hlt
     simp only[Bool.and_eq_true,decide_eq_true_eq]at hlt
     have hi':i<s.length:=by omega
     have hw:IntKind.i64.wrap ((i:Int)+1)=((i+1:Nat):Int):=by rw[dU (by omega) (by omega)]; rfl
     rw[jO,List.getElem?_eq_getElem hi',hw]
     simp only[Option.bind_some]
     cases decide ((48:Int)<=(s[i].toNat:Int))
     · simp only[cond_false,Option.bind_some,Bool.false_eq_true,if_false]
       exact Bc s hl m (i+1) c1 c2 (by omega) (by omega) hc
     · simp only[cond_true,Option.bind_some]
       split
       · simp only[Option.bind_some]
         exact Bc s hl m (i+1) _ _ (by omega) (by omega) (PT _)
       · simp only[Option.bind_some]
         exact Bc s hl m (i+1) c1 c2 (by omega) (by omega) hc
   · have fin:∀x:Int,-9223372036854775808<=x/\x<=9223372036854775807-> ∃n b,((bif (decide ((9:Int)<c2))then (some true)
           else (bif (decide ((10:Int)<(s.length:Int)))then (some true)
             else ((fZ 20 x).bind fun kM=>
               some (!(kM==s))))).bind fun kN=>if kN then some ((0:Int),false)else some (x,true))=some (n,b):=fun x hx=>by
       rw[UT 19 x hx (by omega) (by omega)]
       cases decide ((9:Int)<c2)
       · cases decide ((10:Int)<(s.length:Int))
         · simp only[cond_false,Option.bind_some]
           split
           · exact⟨_,_,rfl⟩
           · exact⟨_,_,rfl⟩
         · exact⟨_,_,rfl⟩
       · exact⟨_,_,rfl⟩
     have tail:∀o:Bool,∃n b,((some o:Option Bool).bind fun wG=>if wG then (
         (bif (decide ((9:Int)<c2))then (some true)
           else (bif (decide ((10:Int)<(s.length:Int)))then (some true)
             else ((fZ 20 (IntKind.i64.wrap (-c1))).bind fun kM=>
               some (!(kM==s))))).bind fun kN=>if kN then some ((0:Int),false)else some ((IntKind.i64.wrap (-c1)),true))
       else (
         (bif (decide ((9:Int)<c2))then (some true)
           else (bif (decide ((10:Int)<(s.length:Int)))then (some true)
             else ((fZ 20 c1).bind fun wH=>
               some (!(wH==s))))).bind fun jZ=>if jZ then some (0,false)else some (c1,true)))=some (n,b):=fun o=>by
       cases o
       · rw[Option.bind_some,if_neg (by simp)]; exact fin c1 hc
       · rw[Option.bind_some,if_pos rfl]; exact fin _ (PT _)
     cases s with
     |nil=>exact tail false
     |cons b l=>
       have hx:ix (b::l) 0=some b:=rfl
       rw[hx]
       have hp:decide ((0:Int)<((b::l).length:Int))=true:=by simp
       rw[hp,cond_true,Option.bind_some]
       exact tail _
theorem OX(s:List UInt8)(hl:s.length<=1048576):∃n,kE 20 s=some n:=by
 obtain⟨n,b,e⟩:=Bc s hl (((s.length:Int)-0).toNat+2) 0 0 0 (by omega) (by omega) (by omega)
 have e':ql 20 s=some (n,b):=e
 rw[kE,e',Option.bind_some]
 cases b
 · exact⟨_,rfl⟩
 · exact⟨_,rfl⟩
theorem Jd{c:UInt8}:∀(x p t:List UInt8),c∉x->bD c p (x++t)=bD c (p++x) t
 |[],p,t,_=>by simp
 |b::x,p,t,h=>by
   rw[List.cons_append,bD,if_neg (fun e=>h (by simp[e])),Jd x _ t (fun hx=>h (by simp[hx]))]
   simp
theorem PU{c:UInt8}:∀(r:List (List UInt8))(p:List UInt8),(∀y∈r,c∉y)->bD c p (Lib.joinTail [c] r)=p::r
 |[],p,_=>rfl
 |y::r,p,h=>by
   have e:Lib.joinTail [c] (y::r)=c::(y++Lib.joinTail [c] r):=by simp[Lib.joinTail]
   rw[e,bD,if_pos rfl,Jd y [] _ (h y (by simp)),List.nil_append,PU r y fun z hz=>h z (by simp[hz])]
theorem rY{c:UInt8}{A:List (List UInt8)}(hA:A≠[])(h:∀y∈A,c∉y):bD c [] (Lib.join A [c])=A:=by
 cases A with
 |nil=>exact absurd rfl hA
 |cons x r=>rw[Lib.join_cons,Jd x [] _ (h x (by simp)),List.nil_append,PU r x fun z hz=>h z (by simp[hz])]
theorem Qp(sep:List UInt8):∀l:List UInt8,Lib.index l sep= -1\/ ∃i:Nat,i+sep.length<=l.length/\Lib.index l sep=(i:Int)
 |[]=>by
   rw[Lib.index]
   cases sep with
   |nil=>exact .inr ⟨0,by simp,rfl⟩
   |cons a b=>exact .inl rfl
 |b::l=>by
   rw[Lib.index]
   split
   · rename_i h
     exact .inr ⟨0,by have:=(List.isPrefixOf_iff_prefix.1 h).length_le; omega,rfl⟩
   · rcases Qp sep l with h|⟨i,h1,h2⟩
     · exact .inl (by rw[h]; rfl)
     · refine .inr ⟨i+1,by simp; omega,?_⟩
       rw[h2,if_neg (by simp)]; rfl
theorem Je(w sep:List UInt8)(hl:w.length<=1048576):∃h r b,rG w sep=some (h,r,b)/\h.length<=w.length/\r.length<=w.length:=by
 unfold rG A9 A8
 rw[if_pos (by omega),Option.bind_some]
 rcases Qp sep w with h|⟨i,h1,h2⟩
 · rw[h,if_neg (by simp)]
   exact⟨w,[],false,rfl,by omega,by simp⟩
 · rw[h2,if_pos (by simp)]
   have e:IntKind.i64.wrap ((i:Int)+(sep.length:Int))=((i+sep.length:Nat):Int):=by
     rw[dU (by omega) (by omega)]; simp
   rw[e,jd (by simp; omega),Option.bind_some,jd (by simp; omega),Option.bind_some,Option.bind_some]
   exact⟨_,_,_,rfl,by simp; omega,by simp⟩
theorem FI(x:UInt8)(t r:List UInt8):∀h:List UInt8,x∉h->Lib.index (h++(x::t)++r) (x::t)=(h.length:Int)
 |[],_=>by
   rw[List.nil_append,List.cons_append,Lib.index,if_pos]
   · rfl
   · rw[List.isPrefixOf_iff_prefix,←List.cons_append]; exact List.prefix_append _ _
 |b::h,hx=>by
   have hb:x≠b:=fun e=>hx (by simp[e])
   have ih:=FI x t r h fun e=>hx (by simp[e])
   rw[List.cons_append,List.cons_append,Lib.index,if_neg,ih,if_neg]
   · simp
   · simp
   · simp[List.isPrefixOf,hb]
theorem Cu(x:UInt8)(t h r:List UInt8)(hx:x∉h)(hl:(h++(x::t)++r).length<=1048576):rG (h++(x::t)++r) (x::t)=some (h,r,true):=by
 unfold rG A9 A8
 rw[if_pos (by omega),Option.bind_some,FI x t r h hx,if_pos (by simp)]
 simp only[List.length_append]at hl
 have e:IntKind.i64.wrap ((h.length:Int)+((x::t).length:Int))=((h.length+(x::t).length:Nat):Int):=by
   rw[dU (by omega) (by omega)]; simp
 rw[e,jd (by simp; omega),Option.bind_some,jd (by simp; omega),Option.bind_some,Option.bind_some]
 simp only[Int.toNat_natCast]
 rw[List.append_assoc,List.take_left,←List.append_assoc,show h.length+(x::t).length=(h++(x::t)).length by simp,List.drop_left]
theorem WN(s sep:List UInt8)(h1:1<=sep.length):Lib.count s sep<=s.length:=by
 have h:=Lib.countB_le ⟨sep.toArray⟩ (by rw[rZ]; exact h1) s.length ⟨s.toArray⟩ (by rw[rZ]; exact Nat.le_refl _)
 rw[rZ]at h
 have e:Lib.countB ⟨s.toArray⟩ ⟨sep.toArray⟩=Lib.count s sep:=by
   show Lib.count (⟨s.toArray⟩:ByteArray).data.toList (⟨sep.toArray⟩:ByteArray).data.toList=_
   rw[xE,xE]
 omega
theorem rU(s sep:List UInt8)(h1:1<=sep.length)(hl:s.length<=1048576):lK s sep=some (Lib.split s sep)/\(Lib.split s sep).length<=s.length+1/\ ∀y∈Lib.split s sep,y.length<=s.length:=by
 have hc:=WN s sep h1
 obtain⟨h2,h3⟩:=OW sep (Lib.count s sep) s
 have h2':(Lib.split s sep).length<=Lib.count s sep+1:=h2
 refine⟨?_,by omega,h3⟩
 unfold lK EP
 rw[if_pos ⟨rfl,rfl,by omega,h1,by omega⟩]; rfl
theorem PV(x:UInt8)(t:List UInt8):∀h:List UInt8,x∉h->Lib.index h (x::t)= -1
 |[],_=>rfl
 |b::h,hx=>by
   have hb:x≠b:=fun e=>hx (by simp[e])
   rw[Lib.index,if_neg (by simp[List.isPrefixOf,hb]),PV x t h fun e=>hx (by simp[e])]; rfl
theorem OI(x:UInt8)(t:List UInt8):∀(r:List (List UInt8))(y:List UInt8)(k:Nat),x∉y->(∀z∈r,x∉z)->r.length<=k->Lib.splitK (x::t) 0 k (y++Lib.joinTail (x::t) r)=y::r
 |[],y,k,hy,_,_=>by
   rw[show Lib.joinTail (x::t) []=[]from rfl,List.append_nil]
   cases k with
   |zero=>rfl
   |succ k=>rw[Lib.splitK,PV x t y hy,if_pos (by rfl)]
 |z::r,y,0,_,_,h=>by simp at h
 |z::r,y,k+1,hy,hr,h=>by
   have e:y++Lib.joinTail (x::t) (z::r)=y++(x::t)++(z++Lib.joinTail (x::t) r):=by
     simp[Lib.joinTail]
   rw[e,Lib.splitK,FI x t _ y hy,if_neg (by simp)]
   simp only[Int.toNat_natCast,Nat.add_zero]
   rw[List.append_assoc,List.take_left,←List.append_assoc,show y.length+(x::t).length=(y++(x::t)).length by simp,List.drop_left]
   rw[OI x t r z k (hr z (by simp)) (fun w hw=>hr w (by simp[hw])) (by simpa using h)]
theorem NP(x:UInt8)(t:List UInt8):∀(r:List (List UInt8))(y:List UInt8)(k:Nat),x∉y->(∀z∈r,x∉z)->r.length<=k->r.length<=Lib.countFrom (x::t) k (y++Lib.joinTail (x::t) r)
 |[],_,_,_,_,_=>by simp
 |z::r,y,0,_,_,h=>by simp at h
 |z::r,y,k+1,hy,hr,h=>by
   have e:y++Lib.joinTail (x::t) (z::r)=y++(x::t)++(z++Lib.joinTail (x::t) r):=by
     simp[Lib.joinTail]
   rw[e,Lib.countFrom,FI x t _ y hy,if_neg (by simp)]
   simp only[Int.toNat_natCast]
   rw[show y.length+(x::t).length=(y++(x::t)).length by simp,List.drop_left]
   have:=NP x t r z k (hr z (by simp)) (fun w hw=>hr w (by simp[hw])) (by simpa using h)
   simp only[List.length_cons]; omega
theorem Ot(sep:List UInt8)(h1:1<=sep.length):∀r:List (List UInt8),r.length<=(Lib.joinTail sep r).length
 |[]=>by simp
 |z::r=>by
   have:=Ot sep h1 r
   have e:Lib.joinTail sep (z::r)=sep++z++Lib.joinTail sep r:=by simp[Lib.joinTail]
   rw[e]; simp; omega
theorem vG(x:UInt8)(t:List UInt8)(y:List UInt8)(r:List (List UInt8))(hy:x∉y)(hr:∀z∈r,x∉z):Lib.split (Lib.join (y::r) (x::t)) (x::t)=y::r:=by
 rw[Lib.join_cons]
 refine OI x t r y _ hy hr ?_
 have:=Ot (x::t) (by simp) r
 exact NP x t r y _ hy hr (by simp; omega)
theorem XR(p r:List UInt8):wO (p++r) p=some true:=by
 unfold wO
 rw[decide_eq_true (by simp; omega),cond_true,jd (by simp),Option.bind_some,Option.bind_some]
 simp
theorem I6(p r:List UInt8):lJ (p++r) p=some r:=by
 unfold lJ AY
 rw[XR,Option.bind_some,if_pos rfl,jd (by simp; omega),Option.bind_some,Option.bind_some]
 simp
theorem Qq(p r:List UInt8)(hl:(r++p).length<=1048576):wP (r++p) p=some true:=by
 unfold wP ru
 have e:IntKind.i64.wrap (((r++p).length:Int)-(p.length:Int))=(r.length:Int):=by
   simp only[List.length_append]at*
   rw[dU (by omega) (by omega)]; omega
 rw[decide_eq_true (by simp; omega),cond_true,e,jd (by simp; omega),Option.bind_some,Option.bind_some]
 simp
theorem Xj(p r:List UInt8)(hl:(r++p).length<=1048576):uS (r++p) p=some r:=by
 have h:=Qq p r hl
 unfold wP at h
 have h':ru (r++p) p=some true:=by
   cases hh:ru (r++p) p with
   |none=>rw[hh]at h; cases h
   |some b=>rw[hh]at h; exact h
 unfold uS AZ
 have e:IntKind.i64.wrap (((r++p).length:Int)-(p.length:Int))=(r.length:Int):=by
   simp only[List.length_append]at*
   rw[dU (by omega) (by omega)]; omega
 rw[h',Option.bind_some,if_pos rfl,e,jd (by simp; omega),Option.bind_some,Option.bind_some]
 simp
def Q9(n:Nat):Bool:=decide (g_ (Lib.itoa n)=some ((n:Int),true))&&(decide (ql 20 (Lib.itoa n)=some ((n:Int),true))&&(decide (fZ 20 (n:Int)=some (Lib.itoa n))&&((Lib.itoa n).all (fun c=>decide (48<=c.toNat)&&decide (c.toNat<=57))&&(decide (1<=(Lib.itoa n).length)&&decide ((Lib.itoa n).length<=3)))))
theorem XT:(List.range 101).all Q9=true:=by decide+kernel
theorem jG{n:Int}(h:0<=n/\n<=100):g_ (Lib.itoa n)=some (n,true)/\ql 20 (Lib.itoa n)=some (n,true)/\fZ 20 n=some (Lib.itoa n)/\(∀c∈Lib.itoa n,48<=c.toNat/\c.toNat<=57)/\1<=(Lib.itoa n).length/\(Lib.itoa n).length<=3:=by
 obtain⟨k,rfl⟩:=Int.eq_ofNat_of_zero_le h.1
 have h1:=List.all_eq_true.1 XT k (List.mem_range.2 (by omega))
 simp only[Q9,Bool.and_eq_true,decide_eq_true_eq,List.all_eq_true]at h1
 exact h1
theorem XU:(List.range 10).all (fun n=>bE n==Lib.itoa n)=true:=by decide+kernel
theorem mK{n:Int}(h:0<=n/\n<=9):bE n=Lib.itoa n:=by
 obtain⟨k,rfl⟩:=Int.eq_ofNat_of_zero_le h.1
 have h1:=List.all_eq_true.1 XU k (List.mem_range.2 (by omega))
 simpa using h1
theorem qo{n:Int}(h:0<=n/\n<=100){c:UInt8}(hc:c.toNat<48\/57<c.toNat):c∉Lib.itoa n:=fun hm=>by
 have:=(jG h).2.2.2.1 c hm
 omega
theorem EZ:∀(l:List Int)(k:Nat)(c:List Int),(∀x∈l,0<=x/\x<=100)->c.length+l.length<4294967295->nu (l.map Lib.itoa) k c=some (c++l,true)
 |[],k,c,_,_=>by simp[nu]
 |x::l,k,c,h,hc=>by
   simp only[List.length_cons]at hc
   rw[List.map_cons,nu,(jG (h x (by simp))).1,Option.bind_some,if_neg (by simp),app1 (by omega),Option.bind_some,EZ l _ _ (fun y hy=>h y (by simp[hy])) (by simp; omega)]
   simp
theorem NQ(w:List UInt8)(hl:w.length<=1048576):∃n ws b,vK [114] w=some (n,ws,b)/\(∀y∈ws,y.length<=1048576)/\ws.length<=1048577:=by
 unfold vK
 obtain⟨h,r,b,e1,l1,l2⟩:=Je w [40] hl
 obtain⟨t,e2,l3⟩:=Cq h [114]
 obtain⟨n,b2,e3⟩:=nZ t (by omega)
 obtain⟨b3,e4,-⟩:=Qo r [41] (by omega)
 obtain⟨u,e5,l5⟩:=Xi r [41] (by omega)
 obtain⟨e6,l6,l7⟩:=rU u [44] (by simp) (by omega)
 rw[e1,Option.bind_some,e2,Option.bind_some,e3,Option.bind_some,wP,e4]
 dsimp only
 have key:∀o:Bool,∃n' ws b',((if o then some ((0:Int),([]:List (List UInt8)),false)else (uS r [41]).bind fun fG=>if (fG==[])then some (n,[],true)else (lK fG [44]).bind fun fV=>some (n,fV,true)):Option (Int×List (List UInt8)×Bool))=some (n',ws,b')/\(∀y∈ws,y.length<=1048576)/\ws.length<=1048577:=by
   intro o
   cases o
   · rw[if_neg (by simp),e5,Option.bind_some]
     split
     · exact⟨_,_,_,rfl,by simp,by simp⟩
     · rw[e6,Option.bind_some]
       exact⟨_,_,_,rfl,fun y hy=>by have:=l7 y hy; omega,by omega⟩
   · exact⟨_,_,_,rfl,by simp,by simp⟩
 cases b
 · exact key true
 cases b2
 · exact key true
 cases b3
 · exact key true
 · exact key false
theorem Oe{n:Int}(hn:0<=n/\n<=9)(y:List UInt8)(A:List (List UInt8))(hy:y≠[])(lI:∀z∈y::A,(44:UInt8)∉z)(hl:([114]++bE n++[40]++Lib.join (y::A) [44]++[41]).length<=1048576):vK [114] ([114]++bE n++[40]++Lib.join (y::A) [44]++[41])=some (n,y::A,true):=by
 have hd:=mK hn
 have e:[114]++bE n++[40]++Lib.join (y::A) [44]++[41]=([114]++bE n)++((40:UInt8)::[])++(Lib.join (y::A) [44]++[41]):=by simp
 have hb:Lib.join (y::A) [44]≠[]:=by
   rw[Lib.join_cons]; intro h; exact hy (List.append_eq_nil_iff.1 h).1
 have hl2:(Lib.join (y::A) [44]++[41]).length<=1048576:=by simp only[List.length_append]at*; omega
 have q8:(40:UInt8)∉[114]++bE n:=by
   rw[hd]; intro h
   rcases List.mem_append.1 h with h|h
   · simp at h
   · exact qo ⟨hn.1,by omega⟩ (.inl (by decide)) h
 rw[e]at hl ⊢
 unfold vK
 rw[Cu 40 [] _ _ q8 hl,Option.bind_some]
 dsimp only
 rw[I6,Option.bind_some,hd,(jG ⟨hn.1,by omega⟩).1,Option.bind_some]
 simp only[Bool.not_true,cond_false]
 rw[Qq [41] _ hl2,Option.bind_some,Option.bind_some]
 rw[if_neg (by simp),Xj [41] _ hl2,Option.bind_some,if_neg (by simpa using hb),(rU _ [44] (by simp) (by simp only[List.length_append]at hl2; omega)).1,vG 44 [] y A (lI y (by simp)) fun z hz=>lI z (by simp[hz])]
 rfl
def PF{X:Type}(ok:X->Bool)(fmt:X->List UInt8)(z:X)(text:List UInt8)(a:Option (X×Bool)):Prop:=
 ∃(c:Bool)(f:X),a=some (if c&&(ok f&&(fmt f==text))then (f,true)else (z,false))/\ ∀g,ok g=true->fmt g=text->c=true/\f=g
theorem QE{X:Type}{ok:X->Bool}{fmt:X->List UInt8}{z:X}{text:List UInt8}{a:Option (X×Bool)}(h:PF ok fmt z text a):(∃g,ok g=true/\fmt g=text/\a=some (g,true))\/((¬ ∃g,ok g=true/\fmt g=text)/\a=some (z,false)):=by
 obtain⟨c,f,e,u⟩:=h
 by_cases hg:∃g,ok g=true/\fmt g=text
 · obtain⟨g,h1,h2⟩:=hg
   obtain⟨rfl,rfl⟩:=u g h1 h2
   exact .inl ⟨f,h1,h2,by rw[e,h1,if_pos (by simp[h2])]⟩
 · refine .inr ⟨hg,?_⟩
   rw[e,if_neg]
   intro hc
   simp only[Bool.and_eq_true,beq_iff_eq]at hc
   exact hg ⟨f,hc.2⟩
theorem Cv{X:Type}{ok:X->Bool}{fmt:X->List UInt8}{z:X}{text:List UInt8}{a b:Option (X×Bool)}(ha:PF ok fmt z text a)(hb:PF ok fmt z text b):a=b/\ ∃r,a=some r:=by
 rcases QE ha with⟨g,h1,h2,e⟩|⟨h,e⟩<;>rcases QE hb with⟨g',h1',h2',e'⟩|⟨h',e'⟩
 · obtain⟨c,f,-,u⟩:=ha
   have:=(u g h1 h2).2.symm.trans (u g' h1' h2').2
   subst this
   exact⟨e.trans e'.symm,_,e⟩
 · exact absurd ⟨g,h1,h2⟩ h'
 · exact absurd ⟨g',h1',h2'⟩ h
 · exact⟨e.trans e'.symm,_,e⟩
theorem Po{s:List Int}{f:Fact}(h:oL s f=true):(0<=f.Rel/\f.Rel<=2)/\(1<=f.Values.length/\f.Values.length<=3)/\(∀x∈f.Values,0<=x/\x<=9)/\oM f=[114]++bE f.Rel++[40]++Lib.join (f.Values.map bE) [44]++[41]:=by
 simp only[oL,Bool.and_eq_true,beq_iff_eq,List.all_eq_true]at h
 obtain⟨h1,h2,h3⟩:=h
 have h4:=kW h1
 have h5:0<=f.Rel/\f.Rel<=2:=by
   simp only[fC,ay,Bool.and_eq_true,decide_eq_true_eq]at h1
   have:=(Iy h1.1).1
   omega
 have h6:∀x∈f.Values,0<=x/\x<=9:=fun x hx=>by simpa only[ay,Bool.and_eq_true,decide_eq_true_eq]using h3 x hx
 refine⟨h5,by omega,h6,?_⟩
 unfold oM
 rw[if_pos]
 simp only[FN,Bool.and_eq_true,ay,decide_eq_true_eq,List.all_eq_true]
 exact⟨h5,by omega,fun x hx=>h6 x hx⟩
theorem FJ{l:List Int}(h:∀x∈l,0<=x/\x<=9):l.map bE=l.map Lib.itoa:=List.map_congr_left fun x hx=>mK (h x hx)
theorem vU{l:List Int}(h:∀x∈l,0<=x/\x<=9){c:UInt8}(hc:c.toNat<48\/57<c.toNat):∀z∈l.map bE,c∉z:=fun z hz=>by
 obtain⟨x,hx,rfl⟩:=List.mem_map.1 hz
 rw[mK (h x hx)]
 exact qo (by have:=h x hx; omega) hc
theorem Vi(s:List Int)(hs:s.length<4294967296)(text:List UInt8)(hl:text.length<=1048576):PF (oL s) oM {Rel:=0,Values:=[]} text (zb s text):=by
 obtain⟨n,ws,b1,e1,l1,l2⟩:=NQ text hl
 obtain⟨v,b2,e2⟩:=Io ws 0 [] l1 (by simp; omega)
 refine⟨b1&&b2,{Rel:=n,Values:=v},?_,?_⟩
 · unfold zb vJ
   rw[e1,Option.bind_some]
   dsimp only
   rw[e2,Option.bind_some]
   cases b1
   · rfl
   cases b2
   · rfl
   simp only[Bool.not_true,cond_false]
   rw[V9 _ _ hs,Option.bind_some]
   cases h:oL s {Rel:=n,Values:=v}
   · rfl
   · rw[Bool.not_true,cond_false,UV,Option.bind_some,Option.bind_some]
     cases h2:(oM {Rel:=n,Values:=v}==text)<;>simp
 · intro g h1 h2
   obtain⟨g1,g2,g3,g4⟩:=Po h1
   rw[←h2,g4]at e1 hl
   obtain⟨y,A,hA⟩:∃y A,g.Values=y::A:=by
     cases hv:g.Values with
     |nil=>rw[hv]at g2; simp at g2
     |cons y A=>exact⟨y,A,rfl⟩
   have lI:=vU g3 (c:=44) (.inl (by decide))
   rw[hA,List.map_cons]at e1 hl lI
   rw[Oe ⟨g1.1,by omega⟩ _ _ (by simp[bE]) lI hl]at e1
   cases e1
   rw[←List.map_cons,←hA,FJ g3,EZ g.Values 0 [] (fun x hx=>by have:=g3 x hx; omega) (by simp; omega)]at e2
   cases e2
   exact⟨rfl,rfl⟩
theorem aa9{u:UInt8}{n:Nat}(hn:n<256)(h:u≠UInt8.ofNat n):((u.toNat:Int)==(n:Int))=false:=by
 rw[beq_eq_false_iff_ne]
 intro e
 apply h
 have:u.toNat=n:=by omega
 rw[←this]; simp
theorem NR(N B:List UInt8)(q8:(40:UInt8)∉N)(hl:(N++[40]++B++[41]).length<=1048576):∀(m i:Nat),i<=N.length->N.length-i<m->qi (N++[40]++B++[41]) m (i:Int)=some (N,bD 44 [] B)
 |0,_,_,hm=>by omega
 |m+1,i,hi,hm=>by
   have hl':=hl
   simp only[List.length_append,List.length_cons,List.length_nil]at hl'
   have hL:(N++[40]++B++[41]).length=N.length+1+B.length+1:=by simp; omega
   unfold qi
   rw[if_pos (by rw[hL]; simp only[decide_eq_true_eq]; omega),jO]
   by_cases hlt:i<N.length
   · have e1:(N++[40]++B++[41])[i]?=some N[i]:=by
       rw[List.append_assoc,List.append_assoc,List.getElem?_append_left hlt,List.getElem?_eq_getElem hlt]
     have hne:N[i]≠UInt8.ofNat 40:=fun e=>q8 (by have:=List.getElem_mem hlt; rw[e]at this; exact this)
     have hb:=aa9 (n:=40) (by decide) hne
     rw[e1,Option.bind_some]
     rw[show ((N[i].toNat:Int)==40)=false from hb,cond_false,Option.bind_some]
     dsimp only
     rw[if_neg (by simp),dU (by omega) (by omega),show (i:Int)+1=((i+1:Nat):Int) by omega]
     exact NR N B q8 hl m (i+1) hlt (by omega)
   · obtain rfl:i=N.length:=by omega
     have e1:(N++[40]++B++[41])[N.length]?=some 40:=by
       rw[List.append_assoc,List.append_assoc,List.getElem?_append_right (Nat.le_refl _)]; simp
     have e2:IntKind.i64.wrap (((N++[40]++B++[41]).length:Int)-1)=((N.length+1+B.length:Nat):Int):=by
       rw[hL,dU (by omega) (by omega)]; omega
     have e3:(N++[40]++B++[41])[N.length+1+B.length]?=some 41:=by
       rw[List.getElem?_append_right (by simp; omega)]
       simp[show N.length+1+B.length-(N.length+(B.length+1))=0 by omega]
     have e4:IntKind.i64.wrap ((N.length:Int)+1)=((N.length+1:Nat):Int):=by rw[dU (by omega) (by omega)]; omega
     rw[e1,Option.bind_some]
     rw[show (((40:UInt8).toNat:Int)==40)=true from rfl,cond_true,e2,jO,e3,Option.bind_some]
     rw[show (some (((41:UInt8).toNat:Int)==41))=some true from rfl,Option.bind_some]
     dsimp only
     rw[if_pos rfl,jd (by rw[hL]; simp; omega),Option.bind_some,e4,jd (by rw[hL]; simp; omega),Option.bind_some]
     simp only[Int.toNat_natCast]
     have e5:(N++[40]++B++[41]).take (N.length+1+B.length)=N++[40]++B:=by
       rw[show N.length+1+B.length=(N++[40]++B).length by simp; omega,List.take_left]
     have e6:(N++[40]++B).drop (N.length+1)=B:=by
       rw[show N.length+1=(N++[40]).length by simp,List.drop_left]
     have e7:(N++[40]++B++[41]).take N.length=N:=by
       rw[List.append_assoc,List.append_assoc,List.take_left]
     rw[e5,e6,e7,rQ B 44 (by omega)]; rfl
theorem OJ(N B:List UInt8)(q8:(40:UInt8)∉N)(hl:(N++[40]++B++[41]).length<=1048576):zD (N++[40]++B++[41])=some (N,bD 44 [] B):=
 NR N B q8 hl _ 0 (by omega) (by simp; omega)
theorem NS(T:List UInt8)(hl:T.length<=1048576):∀(m i:Nat),i<=T.length->T.length-i<m-> ∃h ws,qi T m (i:Int)=some (h,ws)/\h.length<=T.length/\(∀y∈ws,y.length<=1048576)/\ws.length<=T.length+1
 |0,_,_,hm=>by omega
 |m+1,i,hi,hm=>by
   unfold qi
   by_cases hlt:i<T.length
   · have e2:IntKind.i64.wrap ((T.length:Int)-1)=((T.length-1:Nat):Int):=by rw[dU (by omega) (by omega)]; omega
     rw[if_pos (by simp only[decide_eq_true_eq]; omega),jO,List.getElem?_eq_getElem hlt,Option.bind_some]
     have next:∃h ws,qi T m (IntKind.i64.wrap ((i:Int)+1))=some (h,ws)/\h.length<=T.length/\(∀y∈ws,y.length<=1048576)/\ws.length<=T.length+1:=by
       rw[dU (by omega) (by omega),show (i:Int)+1=((i+1:Nat):Int) by omega]
       exact NS T hl m (i+1) hlt (by omega)
     cases h1:((T[i].toNat:Int)==40)
     · exact next
     · rw[cond_true,e2,jO,List.getElem?_eq_getElem (show T.length-1<T.length by omega),Option.bind_some,Option.bind_some]
       dsimp only
       cases h2:((T[T.length-1].toNat:Int)==41)
       · exact next
       · have hne:i≠T.length-1:=by
           rintro rfl
           rw[beq_iff_eq]at h1 h2
           omega
         rw[if_pos rfl,jd (by simp; omega),Option.bind_some,dU (by omega) (by omega),show (i:Int)+1=((i+1:Nat):Int) by omega,jd (by simp; omega),Option.bind_some]
         simp only[Int.toNat_natCast]
         have hB:((T.take (T.length-1)).drop (i+1)).length<=T.length:=by simp; omega
         rw[rQ _ 44 (by omega),Option.bind_some]
         have h3:=zN 44 ((T.take (T.length-1)).drop (i+1)) []
         refine⟨_,_,rfl,by simp; omega,fun y hy=>?_,by have:=h3.2; simp at this ⊢; omega⟩
         have:=FU 44 _ _ y hy
         simp only[List.length_nil]at this; omega
   · rw[if_neg (by simp only[decide_eq_true_eq]; omega)]
     exact⟨_,_,rfl,by simp,by simp,by simp⟩
theorem OL(T:List UInt8)(hl:T.length<=1048576):∃h ws,zD T=some (h,ws)/\h.length<=T.length/\(∀y∈ws,y.length<=1048576)/\ws.length<=T.length+1:=
 NS T hl _ 0 (by omega) (by omega)
theorem BP(s:List UInt8)(hl:s.length<=1048576):∃n,ou 20 s=some n:=by
 unfold ou
 by_cases h:(s.length:Int)<2
 · rw[decide_eq_true h]; exact⟨_,rfl⟩
 · rw[decide_eq_false h,cond_false,show (0:Int)=((0:Nat):Int)from rfl,jO,List.getElem?_eq_getElem (show 0<s.length by omega),Option.bind_some,Option.bind_some]
   dsimp only
   split
   · exact⟨_,rfl⟩
   · obtain⟨n,e⟩:=OX (s.drop ((1:Int)).toNat) (by simp; omega)
     rw[jd (by simp; omega),Option.bind_some,e]
     exact⟨_,rfl⟩
theorem XV:(List.range 10).all (fun n=>decide (ou 20 ([114]++Lib.itoa n)=some (n:Int)))=true:=by decide+kernel
theorem BQ{n:Int}(h:0<=n/\n<=9):ou 20 ([114]++bE n)=some n:=by
 rw[mK h]
 obtain⟨k,rfl⟩:=Int.eq_ofNat_of_zero_le h.1
 have h1:=List.all_eq_true.1 XV k (List.mem_range.2 (by omega))
 simpa using h1
def nS(y:List UInt8):Int:=(kE 20 y).getD 0
theorem vN{y:List UInt8}(h:y.length<=1048576):kE 20 y=some (nS y):=by
 obtain⟨n,e⟩:=OX y h
 unfold nS; rw[e]; rfl
theorem FV{n:Int}(h:0<=n/\n<=100):nS (Lib.itoa n)=n:=by
 unfold nS kE
 rw[(jG h).2.1]; rfl
theorem Jn{l:List Int}(h:∀x∈l,0<=x/\x<=9):(l.map bE).map nS=l:=by
 rw[FJ h,List.map_map]
 conv=>rhs; rw[←List.map_id l]
 exact List.map_congr_left fun x hx=>FV (by have:=h x hx; omega)
theorem Ng(s:List Int)(hs:s.length<4294967296)(text:List UInt8)(r:Int):∀(ws:List (List UInt8))(k:Nat)(c:List Int),(∀y∈ws,y.length<=1048576)->c.length+ws.length<4294967295->vg s text 20 r ws k c=some (if (oL s {Rel:=r,Values:=c++ws.map nS}&&(oM {Rel:=r,Values:=c++ws.map nS}==text))then (({Rel:=r,Values:=c++ws.map nS}:Fact),true)else ({Rel:=0,Values:=[]},false))
 |[],k,c,_,_=>by
   unfold vg
   rw[List.map_nil,List.append_nil,V8 _ _ hs,Option.bind_some]
   cases h:oL s {Rel:=r,Values:=c}
   · rfl
   · rw[Bool.not_true,cond_false,UU (by decide),Option.bind_some,Option.bind_some]
     cases h2:(oM {Rel:=r,Values:=c}==text)<;>simp
 |y::ws,k,c,h,hc=>by
   simp only[List.length_cons]at hc
   unfold vg
   rw[vN (h y (by simp)),Option.bind_some,app1 (by omega),Option.bind_some,Ng s hs text r ws _ _ (fun z hz=>h z (by simp[hz])) (by simp; omega)]
   simp
theorem Vj(s:List Int)(hs:s.length<4294967296)(text:List UInt8)(hl:text.length<=1048576):PF (oL s) oM {Rel:=0,Values:=[]} text (y_ 20 s text):=by
 obtain⟨N,ws,e1,l0,l1,l2⟩:=OL text hl
 obtain⟨n,e2⟩:=BP N (by omega)
 refine⟨true,{Rel:=n,Values:=ws.map nS},?_,?_⟩
 · unfold y_
   rw[e1,Option.bind_some]
   dsimp only
   rw[e2,Option.bind_some,Ng s hs text n ws 0 [] l1 (by simp; omega)]
   simp
 · intro g h1 h2
   obtain⟨g1,g2,g3,g4⟩:=Po h1
   rw[←h2,g4]at e1 hl
   have q8:(40:UInt8)∉[114]++bE g.Rel:=by
     rw[mK ⟨g1.1,by omega⟩]; intro h
     rcases List.mem_append.1 h with h|h
     · simp at h
     · exact qo ⟨g1.1,by omega⟩ (.inl (by decide)) h
   rw[OJ _ _ q8 hl]at e1
   cases e1
   rw[BQ ⟨g1.1,by omega⟩]at e2
   cases e2
   rw[rY (by intro h; rw[List.map_eq_nil_iff]at h; rw[h]at g2; simp at g2) (vU g3 (.inl (by decide))),Jn g3]
   exact⟨rfl,rfl⟩
def qB(r:fA):List UInt8:=Lib.join [[114]++bE r.From,[103,105,118,101,115],[114]++bE r.To,Lib.join (r.Map.map bE) [44]] [32]
theorem Fp{s:List Int}{r:Int}(h:fC s r=true):0<=r/\r<=2:=by
 simp only[fC,ay,Bool.and_eq_true,decide_eq_true_eq]at h
 have:=(Iy h.1).1
 omega
theorem BZ{s:List Int}{r:fA}(h:mf s r=true):(0<=r.From/\r.From<=2)/\(0<=r.To/\r.To<=2)/\(1<=r.Map.length/\r.Map.length<=3)/\ ∀x∈r.Map,0<=x/\x<=2:=by
 simp only[mf,Bool.and_eq_true,beq_iff_eq,List.all_eq_true,ay,decide_eq_true_eq]at h
 obtain⟨h1,h2,h3,h4⟩:=h
 have a1:=kW h1
 have a2:=kW h2
 exact⟨Fp h1,Fp h2,by omega,fun x hx=>by have:=h4 x hx; omega⟩
theorem Pp{a b j:List UInt8}(ha:a.length<=1)(hb:b.length<=1)(hj:j.length<=7):(((aP [114] a).bind fun x=>(aP x [32,103,105,118,101,115,32,114]).bind fun y=>(aP y b).bind fun z=>(aP z [32]).bind fun u=>(aP u j).bind fun v=>some v):Option (List UInt8))=some (Lib.join [[114]++a,[103,105,118,101,115],[114]++b,j] [32]):=by
 rw[eD (by simp; omega),Option.bind_some,eD (by simp; omega),Option.bind_some,eD (by simp; omega),Option.bind_some,eD (by simp; omega),Option.bind_some,eD (by simp; omega),Option.bind_some]
 simp[Lib.join_cons,Lib.joinTail]
theorem UX{s:List Int}{r:fA}(h:mf s r=true):Bv r=some (qB r):=by
 obtain⟨h1,h2,h3,h4⟩:=BZ h
 have p1:ay 0 2 r.From=true:=by simp only[ay,Bool.and_eq_true,decide_eq_true_eq]; omega
 have p2:ay 0 2 r.To=true:=by simp only[ay,Bool.and_eq_true,decide_eq_true_eq]; omega
 have p3:ay 1 3 (r.Map.length:Int)=true:=by simp only[ay,Bool.and_eq_true,decide_eq_true_eq]; omega
 have p4:(r.Map.any fun x=>!ay 0 (3-1) x)=false:=by
   rw[List.any_eq_false]
   intro x hx
   have:=h4 x hx
   simp[ay]; omega
 unfold Bv oz yT
 simp only[mI,p1,p2,p3,p4,MO r.Map 3 (by omega),Option.bind_some,Bool.not_true,Bool.not_false,cond_false,Bool.false_eq_true,if_false]
 rw[yV _ (by omega),Option.bind_some,yV _ (by omega),IA r.Map (fun x hx=>by have:=h4 x hx; omega) h3.2]
 simp only[Option.bind_some]
 exact Pp (by simp[bE]) (by simp[bE]) (zz r.Map h3.2)
theorem M5{r:fA}(h1:0<=r.From/\r.From<=2)(h2:0<=r.To/\r.To<=2)(h3:r.Map.length<=3)(h4:∀x∈r.Map,0<=x/\x<=2):∀(l:List Int)(k:Nat),(∀x∈l,0<=x/\x<=2)->uY r 20 l k=some (qB r)
 |[],k,_=>by
   unfold uY
   rw[wW (by decide) _ (by omega),Option.bind_some,wW (by decide) _ (by omega),Iz (by decide) r.Map (fun x hx=>by have:=h4 x hx; omega) h3]
   simp only[Option.bind_some]
   exact Pp (by simp[bE]) (by simp[bE]) (zz r.Map h3)
 |x::l,k,h=>by
   have:=h x (by simp)
   unfold uY
   rw[jo,Option.bind_some,show ay 0 2 x=true by simp only[ay,Bool.and_eq_true,decide_eq_true_eq]; omega,if_neg (by simp)]
   exact M5 h1 h2 h3 h4 l _ fun y hy=>h y (by simp[hy])
theorem UY{s:List Int}{r:fA}(h:mf s r=true):Br 20 r=some (qB r):=by
 obtain⟨h1,h2,h3,h4⟩:=BZ h
 have p1:ay 0 2 r.From=true:=by simp only[ay,Bool.and_eq_true,decide_eq_true_eq]; omega
 have p2:ay 0 2 r.To=true:=by simp only[ay,Bool.and_eq_true,decide_eq_true_eq]; omega
 have p3:ay 1 3 (r.Map.length:Int)=true:=by simp only[ay,Bool.and_eq_true,decide_eq_true_eq]; omega
 unfold Br
 simp only[jo,p1,p2,p3,Option.bind_some,Bool.not_true,cond_false,Bool.false_eq_true,if_false]
 exact M5 h1 h2 h3.2 h4 r.Map 0 h4
theorem Fq{s:List Int}{r:fA}(h:mf s r=true):∀z∈[[114]++bE r.From,[103,105,118,101,115],[114]++bE r.To,Lib.join (r.Map.map bE) [44]],(32:UInt8)∉z:=by
 obtain⟨h1,h2,h3,h4⟩:=BZ h
 intro z hz
 have d:∀n:Int,0<=n/\n<=2->(32:UInt8)∉[114]++bE n:=fun n hn hm=>by
   rw[mK ⟨hn.1,by omega⟩]at hm
   rcases List.mem_append.1 hm with hm|hm
   · simp at hm
   · exact qo ⟨hn.1,by omega⟩ (.inl (by decide)) hm
 simp only[List.mem_cons,List.not_mem_nil,or_false]at hz
 rcases hz with rfl|rfl|rfl|rfl
 · exact d _ h1
 · decide
 · exact d _ h2
 · intro hm
   have hn:=vU (l:=r.Map) (c:=32) (fun x hx=>by have:=h4 x hx; omega) (.inl (by decide))
   cases hv:r.Map.map bE with
   |nil=>rw[hv]at hm; simp[Lib.join,List.intercalate]at hm
   |cons y A=>
     rw[hv,Lib.join_cons]at hm
     rw[hv]at hn
     rcases List.mem_append.1 hm with hm|hm
     · exact hn y (by simp) hm
     · simp only[Lib.joinTail,List.mem_flatten,List.mem_map]at hm
       obtain⟨w,⟨a,ha,rfl⟩,hw⟩:=hm
       rcases List.mem_append.1 hw with hw|hw
       · simp at hw
       · exact hn a (by simp[ha]) hw
theorem qp{α:Type}(l:List α)(k:Nat)(h:k<l.length):ix l (k:Int)=some l[k]:=by rw[jO,List.getElem?_eq_getElem h]
theorem Vk(s:List Int)(hs:s.length<4294967296)(text:List UInt8)(hl:text.length<=1048576):PF (mf s) qB {From:=0,To:=0,Map:=[]} text (BH s text):=by
 obtain⟨e1,l1,l2⟩:=rU text [32] (by simp) hl
 unfold BH
 rw[e1,Option.bind_some]
 by_cases h4:(Lib.split text [32]).length=4
 · have j3:∀k (h:k<(Lib.split text [32]).length),(Lib.split text [32])[k].length<=1048576:=fun k h=>Nat.le_trans (l2 _ (List.getElem_mem h)) hl
   obtain⟨t0,f0,q0⟩:=Cq (Lib.split text [32])[0] [114]
   obtain⟨t2,f2,q2⟩:=Cq (Lib.split text [32])[2] [114]
   have r0:=j3 0 (by omega)
   have r2:=j3 2 (by omega)
   have r3:=j3 3 (by omega)
   obtain⟨n0,b0,g0⟩:=nZ t0 (by omega)
   obtain⟨n2,b2,g2⟩:=nZ t2 (by omega)
   obtain⟨e3,m1,m2⟩:=rU (Lib.split text [32])[3] [44] (by simp) r3
   obtain⟨v,bv,gv⟩:=Io (Lib.split (Lib.split text [32])[3] [44]) 0 [] (fun y hy=>Nat.le_trans (m2 y hy) r3) (by simp; omega)
   refine⟨true,{From:=n0,To:=n2,Map:=v},?_,?_⟩
   · rw[if_neg (by simp[h4]),show (0:Int)=((0:Nat):Int)from rfl,qp _ 0 (by omega),Option.bind_some,f0,Option.bind_some,g0,Option.bind_some,show (2:Int)=((2:Nat):Int)from rfl,qp _ 2 (by omega),Option.bind_some,f2,Option.bind_some,g2,Option.bind_some,show (3:Int)=((3:Nat):Int)from rfl,qp _ 3 (by omega),Option.bind_some,e3,Option.bind_some,vJ,gv,Option.bind_some,V7 _ _ hs,Option.bind_some]
     dsimp only
     cases h:mf s {From:=n0,To:=n2,Map:=v}
     · rfl
     · rw[Bool.not_true,cond_false,UX h,Option.bind_some,Option.bind_some]
       cases h2:(qB {From:=n0,To:=n2,Map:=v}==text)<;>simp
   · intro g h1 h2
     obtain⟨k1,k2,k3,k4⟩:=BZ h1
     have hw:=Fq h1
     have hsp:Lib.split text [32]=[[114]++bE g.From,[103,105,118,101,115],[114]++bE g.To,Lib.join (g.Map.map bE) [44]]:=by
       rw[←h2]; exact vG 32 [] _ _ (hw _ (by simp)) fun z hz=>hw z (by simp only[List.mem_cons]at hz ⊢; exact .inr hz)
     simp only[hsp,List.getElem_cons_zero,List.getElem_cons_succ]at f0 f2 gv
     rw[I6]at f0 f2
     cases f0; cases f2
     rw[mK ⟨k1.1,by omega⟩,(jG ⟨k1.1,by omega⟩).1]at g0
     rw[mK ⟨k2.1,by omega⟩,(jG ⟨k2.1,by omega⟩).1]at g2
     cases g0; cases g2
     obtain⟨y,A,hA⟩:∃y A,g.Map=y::A:=by
       cases hv:g.Map with
       |nil=>rw[hv]at k3; simp at k3
       |cons y A=>exact⟨y,A,rfl⟩
     have lI:=vU (l:=g.Map) (c:=44) (fun x hx=>by have:=k4 x hx; omega) (.inl (by decide))
     have hsp2:Lib.split (Lib.join (g.Map.map bE) [44]) [44]=g.Map.map bE:=by
       rw[hA,List.map_cons]at lI ⊢
       exact vG 44 [] _ _ (lI _ (by simp)) fun z hz=>lI z (by simp only[List.mem_cons]; exact .inr hz)
     rw[hsp2,FJ (fun x hx=>by have:=k4 x hx; omega),EZ g.Map 0 [] (fun x hx=>by have:=k4 x hx; omega) (by simp; omega)]at gv
     cases gv
     exact⟨rfl,rfl⟩
 · refine⟨false,{From:=0,To:=0,Map:=[]},?_,?_⟩
   · rw[if_pos (by simp only[bne_iff_ne,ne_eq]; omega)]; rfl
   · intro g h1 h2
     have hw:=Fq h1
     refine absurd ?_ h4
     rw[←h2,qB,vG 32 [] _ _ (hw _ (by simp)) fun z hz=>hw z (by simp only[List.mem_cons]at hz ⊢; exact .inr hz)]
     rfl
theorem Nh(s:List Int)(hs:s.length<4294967296)(text:List UInt8)(a b:Int):∀(ws:List (List UInt8))(k:Nat)(c:List Int),(∀y∈ws,y.length<=1048576)->c.length+ws.length<4294967295->ve s text 20 a b ws k c=some (if (mf s {From:=a,To:=b,Map:=c++ws.map nS}&&(qB {From:=a,To:=b,Map:=c++ws.map nS}==text))then (({From:=a,To:=b,Map:=c++ws.map nS}:fA),true)else ({From:=0,To:=0,Map:=[]},false))
 |[],k,c,_,_=>by
   unfold ve
   rw[List.map_nil,List.append_nil,V6 _ _ hs,Option.bind_some]
   cases h:mf s {From:=a,To:=b,Map:=c}
   · rfl
   · rw[Bool.not_true,cond_false,UY h,Option.bind_some,Option.bind_some]
     cases h2:(qB {From:=a,To:=b,Map:=c}==text)<;>simp
 |y::ws,k,c,h,hc=>by
   simp only[List.length_cons]at hc
   unfold ve
   rw[vN (h y (by simp)),Option.bind_some,app1 (by omega),Option.bind_some,Nh s hs text a b ws _ _ (fun z hz=>h z (by simp[hz])) (by simp; omega)]
   simp
theorem xJ{text:List UInt8}(c:UInt8)(hl:text.length<=1048576):(∀y∈bD c [] text,y.length<=1048576)/\(bD c [] text).length<=1048577:=by
 refine⟨fun y hy=>?_,by have:=(zN c text []).2; omega⟩
 have:=FU c _ _ y hy
 simp only[List.length_nil]at this; omega
theorem Vl(s:List Int)(hs:s.length<4294967296)(text:List UInt8)(hl:text.length<=1048576):PF (mf s) qB {From:=0,To:=0,Map:=[]} text (BD 20 s text):=by
 obtain⟨l2,l1⟩:=xJ 32 hl
 unfold BD
 rw[rQ text 32 hl,Option.bind_some]
 by_cases h4:(bD 32 [] text).length=4
 · have j3:∀k (h:k<(bD 32 [] text).length),(bD 32 [] text)[k].length<=1048576:=fun k h=>l2 _ (List.getElem_mem h)
   have r0:=j3 0 (by omega)
   have r2:=j3 2 (by omega)
   have r3:=j3 3 (by omega)
   obtain⟨n0,g0⟩:=BP (bD 32 [] text)[0] r0
   obtain⟨n2,g2⟩:=BP (bD 32 [] text)[2] r2
   obtain⟨m2,m1⟩:=xJ 44 r3
   refine⟨true,{From:=n0,To:=n2,Map:=(bD 44 [] (bD 32 [] text)[3]).map nS},?_,?_⟩
   · rw[if_neg (by simp[h4]),show (0:Int)=((0:Nat):Int)from rfl,qp _ 0 (by omega),Option.bind_some,show (2:Int)=((2:Nat):Int)from rfl,qp _ 2 (by omega),Option.bind_some,g0,Option.bind_some,g2,Option.bind_some,show (3:Int)=((3:Nat):Int)from rfl,qp _ 3 (by omega),Option.bind_some,rQ _ 44 r3,Option.bind_some,Nh s hs text n0 n2 _ 0 [] m2 (by simp; omega)]
     simp
   · intro g h1 h2
     obtain⟨k1,k2,k3,k4⟩:=BZ h1
     have hw:=Fq h1
     have hsp:bD 32 [] text=[[114]++bE g.From,[103,105,118,101,115],[114]++bE g.To,Lib.join (g.Map.map bE) [44]]:=by
       rw[←h2]; exact rY (by simp) hw
     simp only[hsp,List.getElem_cons_zero,List.getElem_cons_succ]at g0 g2 ⊢
     rw[BQ ⟨k1.1,by omega⟩]at g0
     rw[BQ ⟨k2.1,by omega⟩]at g2
     cases g0; cases g2
     rw[rY (by intro h; rw[List.map_eq_nil_iff]at h; rw[h]at k3; simp at k3) (vU (l:=g.Map) (fun x hx=>by have:=k4 x hx; omega) (.inl (by decide))),Jn (fun x hx=>by have:=k4 x hx; omega)]
     exact⟨trivial,rfl⟩
 · refine⟨false,{From:=0,To:=0,Map:=[]},?_,?_⟩
   · rw[if_pos (by simp only[bne_iff_ne,ne_eq]; omega)]; rfl
   · intro g h1 h2
     have hw:=Fq h1
     refine absurd ?_ h4
     rw[←h2,qB,rY (by simp) hw]
     rfl
theorem lT{α:Type}(l:List α)(i:Int)(k:Nat)(e:i=(k:Int))(h:k<l.length):ix l i=some l[k]:=by subst e; exact qp l k h
def inT(l:List Int):List UInt8:=if l=[]then [102,114,101,101]else Lib.join (l.map bE) [44]
def jH(m:Method):List (List UInt8):=[[114]++bE m.Rel,[105,110],inT m.Inputs,[108,105,109,105,116],Lib.itoa m.Limit,[99,111,115,116],Lib.itoa m.Cost,[113,117,111,116,97],Lib.itoa m.Quota]
def lc(m:Method):List UInt8:=Lib.join (jH m) [32]
theorem rM{s:List Int}{m:Method}(h:jr s m=true):(0<=m.Rel/\m.Rel<=2)/\(0<=m.Limit/\m.Limit<=9)/\(0<=m.Cost/\m.Cost<=99)/\(1<=m.Quota/\m.Quota<=99)/\m.Inputs.length<=3/\(∀x∈m.Inputs,0<=x/\x<=2)/\m.Inputs.Pairwise (· < ·)/\il (fun _=>true) (fun y x=>decide (x<=y)) none m.Inputs=true:=by
 have hi:=V_ h
 simp only[jr,Bool.and_eq_true,List.all_eq_true,ay,decide_eq_true_eq]at h
 obtain⟨h1,h2,h3,h4,h5,h6⟩:=h
 have a1:=kW h1
 exact⟨Fp h1,h2,h3,h4,hi,fun x hx=>by have:=h6 x hx; omega,((FO none _).1 h5).2,h5⟩
theorem Fx{d t a b c:List UInt8}(hd:d.length<=3)(ht:t.length<=7)(ha:a.length<=3)(hb:b.length<=3)(hc:c.length<=3):
   (((aP [114] d).bind fun nU=>(aP nU [32,105,110,32]).bind fun uL=>(aP uL t).bind fun mF=>(aP mF [32,108,105,109,105,116,32]).bind fun x30=>(some a).bind fun Ev=>(aP x30 Ev).bind fun iy=>(aP iy [32,99,111,115,116,32]).bind fun x41=>(some b).bind fun Ew=>(aP x41 Ew).bind fun uG=>(aP uG [32,113,117,111,116,97,32]).bind fun mH=>(some c).bind fun nV=>(aP mH nV).bind fun wJ=>some wJ):Option (List UInt8))=some (Lib.join [[114]++d,[105,110],t,[108,105,109,105,116],a,[99,111,115,116],b,[113,117,111,116,97],c] [32]):=by
 simp only[Option.bind_some]
 rw[eD (by simp; omega),Option.bind_some,eD (by simp; omega),Option.bind_some,eD (by simp; omega),Option.bind_some,eD (by simp; omega),Option.bind_some,eD (by simp; omega),Option.bind_some,eD (by simp; omega),Option.bind_some,eD (by simp; omega),Option.bind_some,eD (by simp; omega),Option.bind_some,eD (by simp; omega),Option.bind_some]
 simp[Lib.join_cons,Lib.joinTail]
theorem Ut{s:List Int}{m:Method}(h:jr s m=true):wV m=some (lc m):=by
 obtain⟨h1,h2,h3,h4,h5,h6,h7,h8⟩:=rM h
 have p1:ay 0 2 m.Rel=true:=by simp only[ay,Bool.and_eq_true,decide_eq_true_eq]; omega
 have p2:ay 0 9 m.Limit=true:=by simp only[ay,Bool.and_eq_true,decide_eq_true_eq]; omega
 have p3:ay 0 99 m.Cost=true:=by simp only[ay,Bool.and_eq_true,decide_eq_true_eq]; omega
 have p4:ay 1 99 m.Quota=true:=by simp only[ay,Bool.and_eq_true,decide_eq_true_eq]; omega
 have p5:(m.Inputs.any fun x=>!ay 0 (3-1) x)=false:=by
   rw[List.any_eq_false]
   intro x hx
   have:=h6 x hx
   simp[ay]; omega
 have a1:=(jG (n:=m.Limit) (by omega)).2.2.2.2.2
 have a2:=(jG (n:=m.Cost) (by omega)).2.2.2.2.2
 have a3:=(jG (n:=m.Quota) (by omega)).2.2.2.2.2
 unfold wV oz yY
 simp only[mI,OE,p1,p2,p3,p4,p5,h8,NJ _ (show m.Inputs.length<4294967296 by omega),MP m.Inputs 3 (by omega),Option.bind_some,Bool.not_true,Bool.not_false,cond_false,cond_true,Bool.false_eq_true,if_false]
 rw[yV _ (by omega),Be m.Limit (by omega),Be m.Cost (by omega),Be m.Quota (by omega)]
 simp only[Option.bind_some]
 by_cases hn:m.Inputs=[]
 · rw[if_neg (by simp[hn])]
   have:=Fx (d:=bE m.Rel) (t:=[102,114,101,101]) (by simp[bE]) (by simp) a1 a2 a3
   simp only[Option.bind_some]at this
   rw[this,lc,jH,inT,if_pos hn]
 · have hl:0<m.Inputs.length:=List.length_pos_iff.2 hn
   rw[if_pos (by simp only[decide_eq_true_eq]; omega),IA m.Inputs (fun x hx=>by have:=h6 x hx; omega) h5,Option.bind_some]
   have:=Fx (d:=bE m.Rel) (t:=Lib.join (m.Inputs.map bE) [44]) (by simp[bE]) (zz _ h5) a1 a2 a3
   simp only[Option.bind_some]at this
   rw[this,lc,jH,inT,if_neg hn]
theorem MV{m:Method}(h1:0<=m.Rel/\m.Rel<=2)(h2:0<=m.Limit/\m.Limit<=9)(h3:0<=m.Cost/\m.Cost<=99)(h4:1<=m.Quota/\m.Quota<=99)(h5:m.Inputs.length<=3)(h6:∀x∈m.Inputs,0<=x/\x<=2)(h7:m.Inputs.Pairwise (· < ·)):∀(l pre:List Int),m.Inputs=pre++l->rA m 20 l pre.length=some (lc m)
 |[],pre,_=>by
   have a1:=(jG (n:=m.Limit) (by omega)).2.2
   have a2:=(jG (n:=m.Cost) (by omega)).2.2
   have a3:=(jG (n:=m.Quota) (by omega)).2.2
   unfold rA
   rw[wW (by decide) m.Rel (by omega),a1.1,a2.1,a3.1]
   simp only[Option.bind_some]
   by_cases hn:m.Inputs=[]
   · rw[if_neg (by simp[hn])]
     have:=Fx (d:=bE m.Rel) (t:=[102,114,101,101]) (by simp[bE]) (by simp) a1.2.2.2 a2.2.2.2 a3.2.2.2
     simp only[Option.bind_some]at this
     rw[this,lc,jH,inT,if_pos hn]
   · have hl:0<m.Inputs.length:=List.length_pos_iff.2 hn
     rw[if_pos (by simp only[decide_eq_true_eq]; omega),Iz (by decide) m.Inputs (fun x hx=>by have:=h6 x hx; omega) h5,Option.bind_some]
     have:=Fx (d:=bE m.Rel) (t:=Lib.join (m.Inputs.map bE) [44]) (by simp[bE]) (zz _ h5) a1.2.2.2 a2.2.2.2 a3.2.2.2
     simp only[Option.bind_some]at this
     rw[this,lc,jH,inT,if_neg hn]
 |x::l,pre,e=>by
   have hx:=h6 x (by rw[e]; simp)
   have hml:m.Inputs.length=pre.length+(l.length+1):=by rw[e]; simp
   unfold rA
   rw[jo,Option.bind_some,show ay 0 2 x=true by simp only[ay,Bool.and_eq_true,decide_eq_true_eq]; omega,Bool.not_true,cond_false]
   have next:rA m 20 l (pre.length+1)=some (lc m):=by
     have:=MV h1 h2 h3 h4 h5 h6 h7 l (pre++[x]) (by rw[e]; simp)
     simpa using this
   by_cases hp:0<pre.length
   · have hlt:pre.length-1<m.Inputs.length:=by omega
     have ey:m.Inputs[pre.length-1]=pre[pre.length-1]:=by
       simp only[e]; rw[List.getElem_append_left]
     have hy:pre[pre.length-1]<x:=by
       rw[e,List.pairwise_append]at h7
       exact h7.2.2 _ (List.getElem_mem _) x (by simp)
     rw[decide_eq_true (by omega),cond_true,dU (by omega) (by omega),show (pre.length:Int)-1=((pre.length-1:Nat):Int) by omega,qp _ _ hlt,Option.bind_some,ey,show decide (x<=pre[pre.length-1])=false from decide_eq_false (by omega),Option.bind_some]
     exact next
   · rw[decide_eq_false (by omega),cond_false,Option.bind_some]
     exact next
theorem Uu{s:List Int}{m:Method}(h:jr s m=true):yS 20 m=some (lc m):=by
 obtain⟨h1,h2,h3,h4,h5,h6,h7,h8⟩:=rM h
 have p1:ay 0 2 m.Rel=true:=by simp only[ay,Bool.and_eq_true,decide_eq_true_eq]; omega
 have p2:ay 0 9 m.Limit=true:=by simp only[ay,Bool.and_eq_true,decide_eq_true_eq]; omega
 have p3:ay 0 99 m.Cost=true:=by simp only[ay,Bool.and_eq_true,decide_eq_true_eq]; omega
 have p4:ay 1 99 m.Quota=true:=by simp only[ay,Bool.and_eq_true,decide_eq_true_eq]; omega
 unfold yS
 simp only[jo,p1,p2,p3,p4,Option.bind_some,Bool.not_true,cond_false,Bool.false_eq_true,if_false]
 exact MV h1 h2 h3 h4 h5 h6 h7 m.Inputs [] rfl
theorem Jf{c:UInt8}{A:List (List UInt8)}(h:∀z∈A,c∉z){d:UInt8}(hd:c≠d):c∉Lib.join A [d]:=by
 cases A with
 |nil=>simp[Lib.join,List.intercalate]
 |cons y A=>
   rw[Lib.join_cons]
   intro hm
   rcases List.mem_append.1 hm with hm|hm
   · exact h y (by simp) hm
   · simp only[Lib.joinTail,List.mem_flatten,List.mem_map]at hm
     obtain⟨w,⟨a,ha,rfl⟩,hw⟩:=hm
     rcases List.mem_append.1 hw with hw|hw
     · simp at hw; exact hd hw
     · exact h a (by simp[ha]) hw
theorem Ou{s:List Int}{m:Method}(h:jr s m=true):∀z∈jH m,(32:UInt8)∉z:=by
 obtain⟨h1,h2,h3,h4,h5,h6,-⟩:=rM h
 intro z hz
 simp only[jH,List.mem_cons,List.not_mem_nil,or_false]at hz
 rcases hz with rfl|rfl|rfl|rfl|rfl|rfl|rfl|rfl|rfl
 · intro hm
   rw[mK ⟨h1.1,by omega⟩]at hm
   rcases List.mem_append.1 hm with hm|hm
   · simp at hm
   · exact qo ⟨h1.1,by omega⟩ (.inl (by decide)) hm
 · decide
 · unfold inT
   split
   · decide
   · exact Jf (vU (l:=m.Inputs) (fun x hx=>by have:=h6 x hx; omega) (.inl (by decide))) (by decide)
 · decide
 · exact qo (by omega) (.inl (by decide))
 · decide
 · exact qo (by omega) (.inl (by decide))
 · decide
 · exact qo (by omega) (.inl (by decide))
theorem PW{l:List Int}(h:∀x∈l,0<=x/\x<=9)(hn:l≠[]):inT l≠[102,114,101,101]:=by
 unfold inT
 rw[if_neg hn]
 cases l with
 |nil=>exact absurd rfl hn
 |cons x l=>
   rw[List.map_cons,Lib.join_cons]
   intro e
   have h1:=(jG (n:=x) (by have:=h x (by simp); omega)).2.2.2.1
   rw[mK (h x (by simp))]at e
   have hl:=(jG (n:=x) (by have:=h x (by simp); omega)).2.2.2.2.1
   cases hi:Lib.itoa x with
   |nil=>rw[hi]at hl; simp at hl
   |cons c r=>
     rw[hi]at e h1
     have:=h1 c (by simp)
     simp only[List.cons_append,List.cons.injEq]at e
     rw[e.1]at this
     simp at this
theorem NT:∀(l:List (List UInt8))(k:Nat)(c:List Int),(∀y∈l,y.length<=1048576)->c.length+l.length<4294967295-> ∃v b,nu l k c=some (v,b)/\v.length<=c.length+l.length
 |[],k,c,_,_=>⟨_,_,rfl,by simp⟩
 |y::l,k,c,h,hc=>by
   simp only[List.length_cons]at hc
   obtain⟨n,b,e⟩:=nZ y (h y (by simp))
   rw[nu,e,Option.bind_some]
   cases b
   · exact⟨_,_,rfl,by simp⟩
   · rw[if_neg (by simp),app1 (by omega),Option.bind_some]
     obtain⟨v,b,e2,h2⟩:=NT l (k+1) (c++[n]) (fun x hx=>h x (by simp[hx])) (by simp; omega)
     exact⟨v,b,e2,by simp at h2 ⊢; omega⟩
theorem w4:IntKind.i64.wrap ((IntKind.i64.wrap (2*0))+4)=((4:Nat):Int):=by decide
theorem w6:IntKind.i64.wrap ((IntKind.i64.wrap (2*(IntKind.i64.wrap (0+1))))+4)=((6:Nat):Int):=by decide
theorem w8:IntKind.i64.wrap ((IntKind.i64.wrap (2*(IntKind.i64.wrap ((IntKind.i64.wrap (0+1))+1))))+4)=((8:Nat):Int):=by decide
theorem M6{s:List Int}(hs:s.length<4294967296)(text:List UInt8)(n0:Int)(b0:Bool)(v:List Int)(hv:v.length<4294967296)(n4 n6 n8:Int):(((bif (!b0)then (some true)
         else ((xm s ({Rel:=n0,Inputs:=v,Limit:=n4,Cost:=n6,Quota:=n8}:Method)).bind fun Ey=>
           bif (!Ey)then (some true)
           else ((wV ({Rel:=n0,Inputs:=v,Limit:=n4,Cost:=n6,Quota:=n8}:Method)).bind fun uO=>
             some (!(uO==text))))).bind fun Ez=>
       match Ez with
       |c85=>if c85 then (
           some (({Rel:=0,Inputs:=[],Limit:=0,Cost:=0,Quota:=0}:Method),false))
         else (
           some (({Rel:=n0,Inputs:=v,Limit:=n4,Cost:=n6,Quota:=n8}:Method),true))):Option (Method×Bool))=some (if b0&&(jr s {Rel:=n0,Inputs:=v,Limit:=n4,Cost:=n6,Quota:=n8}&&(lc {Rel:=n0,Inputs:=v,Limit:=n4,Cost:=n6,Quota:=n8}==text))then ({Rel:=n0,Inputs:=v,Limit:=n4,Cost:=n6,Quota:=n8},true)else ({Rel:=0,Inputs:=[],Limit:=0,Cost:=0,Quota:=0},false)):=by
 cases b0
 · rfl
 · rw[Bool.not_true,cond_false,Vq _ _ hs hv,Option.bind_some]
   cases h:jr s {Rel:=n0,Inputs:=v,Limit:=n4,Cost:=n6,Quota:=n8}
   · rfl
   · rw[Bool.not_true,cond_false,Ut h,Option.bind_some,Option.bind_some]
     cases h2:(lc {Rel:=n0,Inputs:=v,Limit:=n4,Cost:=n6,Quota:=n8}==text)<;>simp
theorem UB(s:List Int)(hs:s.length<4294967296)(text:List UInt8)(hl:text.length<=1048576):PF (jr s) lc {Rel:=0,Inputs:=[],Limit:=0,Cost:=0,Quota:=0} text (Bn s text):=by
 obtain⟨e1,l1,l2⟩:=rU text [32] (by simp) hl
 unfold Bn
 rw[e1,Option.bind_some]
 have hsp:∀g,jr s g=true->lc g=text->Lib.split text [32]=jH g:=fun g h1 h2=>by
   have hw:=Ou h1
   rw[←h2]
   exact vG 32 [] _ _ (hw _ (by simp[jH])) fun z hz=>hw z (by simp only[jH,List.mem_cons]at hz ⊢; exact .inr hz)
 by_cases h9:(Lib.split text [32]).length=9
 · have j3:∀k (h:k<(Lib.split text [32]).length),(Lib.split text [32])[k].length<=1048576:=fun k h=>Nat.le_trans (l2 _ (List.getElem_mem h)) hl
   obtain⟨t0,f0,q0⟩:=Cq (Lib.split text [32])[0] [114]
   have r0:=j3 0 (by omega)
   have r2:=j3 2 (by omega)
   obtain⟨n0,b0,g0⟩:=nZ t0 (by omega)
   obtain⟨n4,b4,g4⟩:=nZ _ (j3 4 (by omega))
   obtain⟨n6,b6,g6⟩:=nZ _ (j3 6 (by omega))
   obtain⟨n8,b8,g8⟩:=nZ _ (j3 8 (by omega))
   have nums:∀g,jr s g=true->Lib.split text [32]=jH g->b0=true/\n0=g.Rel/\n4=g.Limit/\n6=g.Cost/\n8=g.Quota:=fun g h1 hw=>by
     obtain⟨k1,k2,k3,k4,-⟩:=rM h1
     simp only[hw,jH,List.getElem_cons_zero,List.getElem_cons_succ]at f0 g4 g6 g8
     rw[I6]at f0
     cases f0
     rw[mK ⟨k1.1,by omega⟩,(jG ⟨k1.1,by omega⟩).1]at g0
     rw[(jG (by omega)).1]at g4 g6 g8
     cases g0; cases g4; cases g6; cases g8
     exact⟨rfl,rfl,rfl,rfl,rfl⟩
   rw[show (((Lib.split text [32]).length:Int)==9)=true by rw[h9]; rfl,cond_true,lT _ 2 2 rfl (by omega),Option.bind_some,Option.bind_some]
   dsimp only
   by_cases hf:(Lib.split text [32])[2]=[102,114,101,101]
   · refine⟨b0,{Rel:=n0,Inputs:=[],Limit:=n4,Cost:=n6,Quota:=n8},?_,?_⟩
     · rw[if_neg (by simp[hf]),if_neg (by simp),lT _ 0 0 rfl (by omega),Option.bind_some,f0,Option.bind_some,g0,Option.bind_some]
       rw[lT _ _ 4 w4 (by omega),Option.bind_some,g4,Option.bind_some]
       rw[lT _ _ 6 w6 (by omega),Option.bind_some,g6,Option.bind_some]
       rw[lT _ _ 8 w8 (by omega),Option.bind_some,g8,Option.bind_some]
       exact M6 hs text n0 b0 [] (by simp) n4 n6 n8
     · intro g h1 h2
       have hw:=hsp g h1 h2
       obtain⟨rfl,rfl,rfl,rfl,rfl⟩:=nums g h1 hw
       obtain⟨-,-,-,-,-,k6,-⟩:=rM h1
       simp only[hw,jH,List.getElem_cons_zero,List.getElem_cons_succ]at hf
       have hn:g.Inputs=[]:=by
         by_cases hn:g.Inputs=[]
         · exact hn
         · exact absurd hf (PW (fun x hx=>by have:=k6 x hx; omega) hn)
       exact⟨rfl,by rw[←hn]⟩
   · obtain⟨e3,m1,m2⟩:=rU (Lib.split text [32])[2] [44] (by simp) r2
     obtain⟨v,bv,gv,lv⟩:=NT (Lib.split (Lib.split text [32])[2] [44]) 0 [] (fun y hy=>Nat.le_trans (m2 y hy) r2) (by simp; omega)
     refine⟨bv&&b0,{Rel:=n0,Inputs:=v,Limit:=n4,Cost:=n6,Quota:=n8},?_,?_⟩
     · rw[if_pos (by simp[hf]),Option.bind_some,e3,Option.bind_some,vJ,gv,Option.bind_some]
       cases bv
       · rfl
       dsimp only
       rw[if_neg (by simp),lT _ 0 0 rfl (by omega),Option.bind_some,f0,Option.bind_some,g0,Option.bind_some]
       rw[lT _ _ 4 w4 (by omega),Option.bind_some,g4,Option.bind_some]
       rw[lT _ _ 6 w6 (by omega),Option.bind_some,g6,Option.bind_some]
       rw[lT _ _ 8 w8 (by omega),Option.bind_some,g8,Option.bind_some]
       exact M6 hs text n0 b0 v (by simp at lv; omega) n4 n6 n8
     · intro g h1 h2
       have hw:=hsp g h1 h2
       obtain⟨rfl,rfl,rfl,rfl,rfl⟩:=nums g h1 hw
       obtain⟨-,-,-,-,k5,k6,-⟩:=rM h1
       have EE:∀x∈g.Inputs,0<=x/\x<=9:=fun x hx=>by have:=k6 x hx; omega
       simp only[hw,jH,List.getElem_cons_zero,List.getElem_cons_succ]at hf gv
       have hn:g.Inputs≠[]:=fun hn=>hf (by unfold inT; rw[if_pos hn])
       obtain⟨y,A,hA⟩:=List.exists_cons_of_ne_nil hn
       have lI:=vU (c:=44) EE (.inl (by decide))
       have hsp2:Lib.split (inT g.Inputs) [44]=g.Inputs.map bE:=by
         unfold inT
         rw[if_neg hn]
         rw[hA,List.map_cons]at lI ⊢
         exact vG 44 [] _ _ (lI _ (by simp)) fun z hz=>lI z (by simp only[List.mem_cons]; exact .inr hz)
       rw[hsp2,FJ EE,EZ g.Inputs 0 [] (fun x hx=>by have:=k6 x hx; omega) (by simp; omega)]at gv
       cases gv
       exact⟨rfl,rfl⟩
 · refine⟨false,{Rel:=0,Inputs:=[],Limit:=0,Cost:=0,Quota:=0},?_,?_⟩
   · rw[show (((Lib.split text [32]).length:Int)==9)=false by rw[beq_eq_false_iff_ne]; omega]; rfl
   · intro g h1 h2
     exact absurd (by rw[hsp g h1 h2]; rfl) h9
theorem Ib(s:List Int)(hs:s.length<4294967296)(text:List UInt8)(n0 n4 n6 n8:Int):∀(ws:List (List UInt8))(k:Nat)(c:List Int),(∀y∈ws,y.length<=1048576)->c.length+ws.length<4294967295->rC s text 20 n0 n4 n6 n8 ws k c=some (if (jr s {Rel:=n0,Inputs:=c++ws.map nS,Limit:=n4,Cost:=n6,Quota:=n8}&&(lc {Rel:=n0,Inputs:=c++ws.map nS,Limit:=n4,Cost:=n6,Quota:=n8}==text))then (({Rel:=n0,Inputs:=c++ws.map nS,Limit:=n4,Cost:=n6,Quota:=n8}:Method),true)else ({Rel:=0,Inputs:=[],Limit:=0,Cost:=0,Quota:=0},false))
 |[],k,c,_,hc=>by
   unfold rC
   rw[List.map_nil,List.append_nil,Vp _ _ hs (by show c.length<_; simp at hc; omega),Option.bind_some]
   cases h:jr s {Rel:=n0,Inputs:=c,Limit:=n4,Cost:=n6,Quota:=n8}
   · rfl
   · rw[Bool.not_true,cond_false,Uu h,Option.bind_some,Option.bind_some]
     cases h2:(lc {Rel:=n0,Inputs:=c,Limit:=n4,Cost:=n6,Quota:=n8}==text)<;>simp
 |y::ws,k,c,h,hc=>by
   simp only[List.length_cons]at hc
   unfold rC
   rw[vN (h y (by simp)),Option.bind_some,app1 (by omega),Option.bind_some,Ib s hs text n0 n4 n6 n8 ws _ _ (fun z hz=>h z (by simp[hz])) (by simp; omega)]
   simp
theorem UC(s:List Int)(hs:s.length<4294967296)(text:List UInt8)(hl:text.length<=1048576):PF (jr s) lc {Rel:=0,Inputs:=[],Limit:=0,Cost:=0,Quota:=0} text (Bl 20 s text):=by
 obtain⟨l2,l1⟩:=xJ 32 hl
 unfold Bl
 rw[rQ text 32 hl,Option.bind_some]
 have hsp:∀g,jr s g=true->lc g=text->bD 32 [] text=jH g:=fun g h1 h2=>by
   rw[←h2]; exact rY (by simp[jH]) (Ou h1)
 by_cases h9:(bD 32 [] text).length=9
 · have j3:∀k (h:k<(bD 32 [] text).length),(bD 32 [] text)[k].length<=1048576:=fun k h=>l2 _ (List.getElem_mem h)
   have r2:=j3 2 (by omega)
   obtain⟨n0,g0⟩:=BP _ (j3 0 (by omega))
   have nums:∀g,jr s g=true->bD 32 [] text=jH g->n0=g.Rel/\nS (bD 32 [] text)[4]=g.Limit/\nS (bD 32 [] text)[6]=g.Cost/\nS (bD 32 [] text)[8]=g.Quota:=fun g h1 hw=>by
     obtain⟨k1,k2,k3,k4,-⟩:=rM h1
     simp only[hw,jH,List.getElem_cons_zero,List.getElem_cons_succ]at g0 ⊢
     rw[BQ ⟨k1.1,by omega⟩]at g0
     cases g0
     exact⟨rfl,FV (by omega),FV (by omega),FV (by omega)⟩
   rw[if_neg (by simp[h9]),lT _ 0 0 rfl (by omega),Option.bind_some,lT _ 4 4 rfl (by omega),Option.bind_some,lT _ 6 6 rfl (by omega),Option.bind_some,lT _ 8 8 rfl (by omega),Option.bind_some,g0,Option.bind_some,vN (j3 4 (by omega)),Option.bind_some,vN (j3 6 (by omega)),Option.bind_some,vN (j3 8 (by omega)),Option.bind_some,lT _ 2 2 rfl (by omega),Option.bind_some]
   by_cases hf:(bD 32 [] text)[2]=[102,114,101,101]
   · refine⟨true,{Rel:=n0,Inputs:=[],Limit:=nS (bD 32 [] text)[4],Cost:=nS (bD 32 [] text)[6],Quota:=nS (bD 32 [] text)[8]},?_,?_⟩
     · rw[if_neg (by simp[hf])]
       have:=Ib s hs text n0 (nS (bD 32 [] text)[4]) (nS (bD 32 [] text)[6]) (nS (bD 32 [] text)[8]) [] 0 [] (by simp) (by simp)
       unfold rC at this
       simpa using this
     · intro g h1 h2
       have hw:=hsp g h1 h2
       obtain⟨q1,q2,q3,q4⟩:=nums g h1 hw
       obtain⟨-,-,-,-,-,k6,-⟩:=rM h1
       rw[q1,q2,q3,q4]
       simp only[hw,jH,List.getElem_cons_zero,List.getElem_cons_succ]at hf
       have hn:g.Inputs=[]:=by
         by_cases hn:g.Inputs=[]
         · exact hn
         · exact absurd hf (PW (fun x hx=>by have:=k6 x hx; omega) hn)
       exact⟨rfl,by rw[←hn]⟩
   · obtain⟨m2,m1⟩:=xJ 44 r2
     refine⟨true,{Rel:=n0,Inputs:=(bD 44 [] (bD 32 [] text)[2]).map nS,Limit:=nS (bD 32 [] text)[4],Cost:=nS (bD 32 [] text)[6],Quota:=nS (bD 32 [] text)[8]},?_,?_⟩
     · rw[if_pos (by simp[hf]),Option.bind_some,rQ _ 44 r2,Option.bind_some,Ib s hs text _ _ _ _ _ 0 [] m2 (by simp; omega)]
       simp
     · intro g h1 h2
       have hw:=hsp g h1 h2
       obtain⟨q1,q2,q3,q4⟩:=nums g h1 hw
       obtain⟨-,-,-,-,k5,k6,-⟩:=rM h1
       have EE:∀x∈g.Inputs,0<=x/\x<=9:=fun x hx=>by have:=k6 x hx; omega
       rw[q1,q2,q3,q4]
       simp only[hw,jH,List.getElem_cons_zero,List.getElem_cons_succ]at hf ⊢
       have hn:g.Inputs≠[]:=fun hn=>hf (by unfold inT; rw[if_pos hn])
       have e:inT g.Inputs=Lib.join (g.Inputs.map bE) [44]:=by unfold inT; rw[if_neg hn]
       rw[e,rY (by simpa using hn) (vU EE (.inl (by decide))),Jn EE]
       exact⟨trivial,rfl⟩
 · refine⟨false,{Rel:=0,Inputs:=[],Limit:=0,Cost:=0,Quota:=0},?_,?_⟩
   · rw[if_pos (by simp only[bne_iff_ne,ne_eq]; omega)]; rfl
   · intro g h1 h2
     exact absurd (by rw[hsp g h1 h2]; rfl) h9
def eO(t:Int):List UInt8:=if ay 10 17 t then 120::Lib.itoa (t-10)else Lib.itoa t
def Sr(n:Nat):Bool:=decide (BO n=some (eO n))&&(decide (zF 20 n=some (eO n))&&(decide (qg 20 (eO n)=some (n:Int))&&(((lJ (eO n) [120]).bind fun d=>(g_ d).bind fun r=>some (r.2&&decide ((if (!(d==eO n))then IntKind.i64.wrap (r.1+10)else r.1)=(n:Int))))==some true&&((eO n).all (fun c=>!(c==44)&&(!(c==40)&&(!(c==41)&&!(c==32))))&&(decide (1<=(eO n).length)&&decide ((eO n).length<=2))))))
theorem Yy:(List.range 18).all Sr=true:=by decide+kernel
theorem oN{t:Int}(h:gG t=true):BO t=some (eO t)/\zF 20 t=some (eO t)/\qg 20 (eO t)=some t/\(∃d n,lJ (eO t) [120]=some d/\g_ d=some (n,true)/\(if d≠eO t then IntKind.i64.wrap (n+10)else n)=t)/\(∀c∈eO t,c≠44/\c≠40/\c≠41/\c≠32)/\1<=(eO t).length/\(eO t).length<=2:=by
 have hr:0<=t/\t<=17:=by
   simp only[gG,ay,Bool.or_eq_true,Bool.and_eq_true,decide_eq_true_eq]at h; omega
 obtain⟨k,rfl⟩:=Int.eq_ofNat_of_zero_le hr.1
 have h1:=List.all_eq_true.1 Yy k (List.mem_range.2 (by omega))
 simp only[Sr,Bool.and_eq_true,decide_eq_true_eq,List.all_eq_true,beq_iff_eq,Bool.not_eq_true',beq_eq_false_iff_ne]at h1
 obtain⟨a1,a2,a3,a4,a5,a6,a7⟩:=h1
 refine⟨a1,a2,a3,?_,fun c hc=>a5 c hc,a6,a7⟩
 cases hd:lJ (eO (k:Int)) [120]with
 |none=>rw[hd]at a4; cases a4
 |some d=>
   rw[hd,Option.bind_some]at a4
   cases hn:g_ d with
   |none=>rw[hn]at a4; cases a4
   |some r=>
     rw[hn,Option.bind_some]at a4
     obtain⟨n,b⟩:=r
     have a4':=Option.some.inj a4
     simp only[Bool.and_eq_true,decide_eq_true_eq]at a4'
     exact⟨d,n,rfl,by rw[hn,a4'.1],a4'.2⟩
def kR(l:List Int):List UInt8:=Lib.join (l.map eO) [44]
theorem xK{l:List Int}(h:∀x∈l,gG x=true):∀z∈l.map eO,(44:UInt8)∉z/\(40:UInt8)∉z/\(41:UInt8)∉z/\(32:UInt8)∉z:=fun z hz=>by
 obtain⟨x,hx,rfl⟩:=List.mem_map.1 hz
 have:=(oN (h x hx)).2.2.2.2.1
 exact⟨fun h=>(this _ h).1 rfl,fun h=>(this _ h).2.1 rfl,fun h=>(this _ h).2.2.1 rfl,fun h=>(this _ h).2.2.2 rfl⟩
theorem zO{l:List Int}(h:∀x∈l,gG x=true)(hl:l.length<=3):(kR l).length<=8:=by
 unfold kR
 cases l with
 |nil=>simp[Lib.join,List.intercalate]
 |cons x l=>
   have h1:=(oN (h x (by simp))).2.2.2.2.2.2
   have key:∀r:List Int,(∀y∈r,gG y=true)->(Lib.joinTail [44] (r.map eO)).length<=3*r.length:=by
     intro r
     induction r with
     |nil=>intro _; simp[Lib.joinTail]
     |cons y r ih=>
       intro hr
       have h2:=(oN (hr y (by simp))).2.2.2.2.2.2
       have h3:=ih fun z hz=>hr z (by simp[hz])
       have e:Lib.joinTail [44] ((y::r).map eO)=[44]++eO y++Lib.joinTail [44] (r.map eO):=by simp[Lib.joinTail]
       rw[e]; simp; omega
   have h2:=key l fun z hz=>h z (by simp[hz])
   rw[List.map_cons,Lib.join_cons,List.length_append]
   simp only[List.length_cons]at hl
   omega
theorem NU{l:List Int}(h:∀x∈l,gG x=true)(hl:l.length<=3):BI l=some (kR l):=by
 have key:∀(r:List Int)(k:Nat)(c:List (List UInt8)),(∀x∈r,gG x=true)->c.length+r.length<=3->(Lib.join (c++r.map eO) [44]).length<=8->vo r k c=some (Lib.join (c++r.map eO) [44]):=by
   intro r
   induction r with
   |nil=>
     intro k c _ hc h8
     rw[vo]
     unfold rE
     rw[List.map_nil,List.append_nil]at h8 ⊢
     rw[if_pos ⟨by simp at hc; omega,by omega⟩]; rfl
   |cons x r ih=>
     intro k c hr hc h8
     simp only[List.length_cons]at hc
     rw[vo,(oN (hr x (by simp))).1,Option.bind_some,app1 (by omega),Option.bind_some,ih _ _ (fun y hy=>hr y (by simp[hy])) (by simp; omega) (by simpa using h8)]
     simp
 exact key l 0 [] h (by simpa using hl) (by simpa[kR]using zO h hl)
theorem NC:∀(r:List Int)(k:Nat)(c:List UInt8),0<k->(∀x∈r,gG x=true)->c.length+3*r.length<=1000->rH 20 r k c=some (c++Lib.joinTail [44] (r.map eO))
 |[],k,c,_,_,_=>by simp[rH,Lib.joinTail]
 |x::r,k,c,hk,hr,hc=>by
   simp only[List.length_cons]at hc
   have h1:=oN (hr x (by simp))
   have h2:=h1.2.2.2.2.2.2
   unfold rH
   rw[if_pos (by simp only[decide_eq_true_eq]; omega),eD (by simp; omega),Option.bind_some,h1.2.1,Option.bind_some,eD (by simp; omega),Option.bind_some,Option.bind_some]
   dsimp only
   rw[NC r _ _ (by omega) (fun y hy=>hr y (by simp[hy])) (by simp; omega)]
   simp[Lib.joinTail]
theorem Ov{l:List Int}(h:∀x∈l,gG x=true)(hl:l.length<=3):zw 20 l=some (kR l):=by
 unfold zw kR
 cases l with
 |nil=>rfl
 |cons x r=>
   have h1:=oN (h x (by simp))
   have h2:=h1.2.2.2.2.2.2
   simp only[List.length_cons]at hl
   unfold rH
   rw[if_neg (by simp),h1.2.1,Option.bind_some,eD (by simp; omega),Option.bind_some,Option.bind_some]
   dsimp only
   rw[NC r _ _ (by omega) (fun y hy=>h y (by simp[hy])) (by simp; omega),List.map_cons,Lib.join_cons]
   simp
def gK(a:aX):Bool:=ay 0 2 a.Rel&&(ay 1 3 (a.Terms.length:Int)&&a.Terms.all gG)
def dL(a:aX):List UInt8:=[114]++bE a.Rel++[40]++kR a.Terms++[41]
def vW(a:aX):List UInt8:=if gK a then dL a else []
theorem vO{a:aX}(h:gK a=true):(0<=a.Rel/\a.Rel<=2)/\(1<=a.Terms.length/\a.Terms.length<=3)/\ ∀x∈a.Terms,gG x=true:=by
 simp only[gK,ay,Bool.and_eq_true,decide_eq_true_eq,List.all_eq_true]at h
 exact⟨h.1,by omega,h.2.2⟩
theorem Qr{d t:List UInt8}(hd:d.length<=1)(ht:t.length<=8):(((aP [114] d).bind fun x=>(aP x [40]).bind fun y=>(aP y t).bind fun z=>(aP z [41]).bind fun u=>some u):Option (List UInt8))=some ([114]++d++[40]++t++[41]):=by
 rw[eD (by simp; omega),Option.bind_some,eD (by simp; omega),Option.bind_some,eD (by simp; omega),Option.bind_some,eD (by simp; omega),Option.bind_some]
theorem UZ(a:aX):BA a=some (vW a):=by
 unfold BA vW oz
 rw[mI,Option.bind_some,Option.bind_some]
 cases h1:ay 0 2 a.Rel
 · simp[gK,h1]
 rw[mI,Option.bind_some]
 cases h2:ay 1 3 (a.Terms.length:Int)
 · simp[gK,h1,h2]
 simp only[Bool.not_true,cond_false,Od,Option.bind_some]
 cases h3:a.Terms.all gG
 · simp[gK,h1,h2,h3]
 · have ho:gK a=true:=by simp[gK,h1,h2,h3]
   obtain⟨g1,g2,g3⟩:=vO ho
   simp only[Bool.not_true,Bool.false_eq_true,if_false]
   rw[if_pos ho,yV _ (by omega),Option.bind_some,NU g3 g2.2]
   simp only[Option.bind_some]
   exact Qr (by simp[bE]) (zO g3 g2.2)
theorem M7{a:aX}(h:gK a=true):∀(l:List Int)(k:Nat),(∀x∈l,gG x=true)->u6 a 20 l k=some (dL a)
 |[],k,_=>by
   obtain⟨g1,g2,g3⟩:=vO h
   unfold u6
   rw[wW (by decide) _ (by omega),Option.bind_some,Ov g3 g2.2]
   simp only[Option.bind_some]
   exact Qr (by simp[bE]) (zO g3 g2.2)
 |x::l,k,hl=>by
   unfold u6
   rw[OG,Option.bind_some,hl x (by simp),if_neg (by simp)]
   exact M7 h l _ fun y hy=>hl y (by simp[hy])
theorem ET{a:aX}(h:gK a=true):y5 20 a=some (dL a):=by
 obtain⟨g1,g2,g3⟩:=vO h
 have p1:ay 0 2 a.Rel=true:=by simp only[ay,Bool.and_eq_true,decide_eq_true_eq]; omega
 have p2:ay 1 3 (a.Terms.length:Int)=true:=by simp only[ay,Bool.and_eq_true,decide_eq_true_eq]; omega
 unfold y5
 simp only[jo,p1,p2,Option.bind_some,Bool.not_true,cond_false,Bool.false_eq_true,if_false]
 exact M7 h a.Terms 0 g3
theorem Xk{s:List Int}{a:aX}(h:mg s a=true):gK a=true:=by
 simp only[mg,Bool.and_eq_true,beq_iff_eq]at h
 obtain⟨h1,h2,h3⟩:=h
 have a1:=kW h1
 have a2:=Fp h1
 simp only[gK,ay,Bool.and_eq_true,decide_eq_true_eq]
 exact⟨a2,by omega,h3⟩
theorem FW{a:aX}(h:gK a=true):(32:UInt8)∉dL a:=by
 obtain⟨g1,g2,g3⟩:=vO h
 unfold dL
 intro hm
 simp only[List.mem_append,List.mem_singleton]at hm
 rcases hm with (((hm|hm)|hm)|hm)|hm
 · exact absurd hm (by decide)
 · rw[mK ⟨g1.1,by omega⟩]at hm
   exact qo ⟨g1.1,by omega⟩ (.inl (by decide)) hm
 · exact absurd hm (by decide)
 · exact Jf (fun z hz=>(xK g3 z hz).2.2.2) (by decide) hm
 · exact absurd hm (by decide)
theorem vV{a:aX}(h:gK a=true):1<=(dL a).length/\(dL a).length<=12:=by
 obtain⟨g1,g2,g3⟩:=vO h
 have:=zO g3 g2.2
 unfold dL
 simp[bE]; omega
theorem Ii:∀(l:List (List UInt8))(k:Nat)(c:List Int),(∀y∈l,y.length<=1048576)->c.length+l.length<4294967295-> ∃v b,ng l k c=some (v,b)/\v.length<=c.length+l.length
 |[],k,c,_,_=>⟨_,_,rfl,by simp⟩
 |y::l,k,c,h,hc=>by
   simp only[List.length_cons]at hc
   obtain⟨d,e1,l1⟩:=Cq y [120]
   obtain⟨n,b,e2⟩:=nZ d (by have:=h y (by simp); omega)
   unfold ng
   rw[e1,Option.bind_some,e2,Option.bind_some]
   cases b
   · exact⟨_,_,rfl,by simp⟩
   · have next:∀z,∃v b,ng l (k+1) (c++[z])=some (v,b)/\v.length<=c.length+(l.length+1):=fun z=>by
       obtain⟨v,b,e,hv⟩:=Ii l (k+1) (c++[z]) (fun x hx=>h x (by simp[hx])) (by simp; omega)
       exact⟨v,b,e,by simp at hv; omega⟩
     rw[if_neg (by simp)]
     split
     · rw[app1 (by omega),Option.bind_some,Option.bind_some]; exact next _
     · rw[app1 (by omega),Option.bind_some,Option.bind_some]; exact next _
theorem Ij:∀(l:List Int)(k:Nat)(c:List Int),(∀x∈l,gG x=true)->c.length+l.length<4294967295->ng (l.map eO) k c=some (c++l,true)
 |[],k,c,_,_=>by simp[ng]
 |x::l,k,c,h,hc=>by
   simp only[List.length_cons]at hc
   obtain⟨d,n,e1,e2,e3⟩:=(oN (h x (by simp))).2.2.2.1
   rw[List.map_cons]
   unfold ng
   rw[e1,Option.bind_some,e2,Option.bind_some,if_neg (by simp)]
   have next:ng (l.map eO) (k+1) (c++[x])=some (c++x::l,true):=by
     rw[Ij l _ _ (fun y hy=>h y (by simp[hy])) (by simp; omega)]; simp
   split at e3
   · rename_i hd
     rw[if_pos (by simpa using hd),app1 (by omega),Option.bind_some,Option.bind_some]
     dsimp only
     rw[e3]; exact next
   · rename_i hd
     rw[if_neg (by simpa using hd),app1 (by omega),Option.bind_some,Option.bind_some]
     dsimp only
     rw[e3]; exact next
theorem Og(w:List UInt8)(hl:w.length<=1048576):∃a b,vL w=some (a,b)/\a.Terms.length<=1048577:=by
 obtain⟨n,ws,b1,e1,l1,l2⟩:=NQ w hl
 obtain⟨v,b2,e2,l3⟩:=Ii ws 0 [] l1 (by simp; omega)
 unfold vL vF
 rw[e1,Option.bind_some]
 dsimp only
 rw[e2,Option.bind_some]
 cases b1<;>exact⟨_,_,rfl,by simp at l3; show v.length<=_; omega⟩
theorem Oh{a:aX}(h:gK a=true):vL (dL a)=some (a,true):=by
 obtain⟨g1,g2,g3⟩:=vO h
 have hlen:=(vV h).2
 unfold vL vF dL kR at*
 obtain⟨y,A,hA⟩:∃y A,a.Terms=y::A:=by
   cases hv:a.Terms with
   |nil=>rw[hv]at g2; simp at g2
   |cons y A=>exact⟨y,A,rfl⟩
 have lI:∀z∈a.Terms.map eO,(44:UInt8)∉z:=fun z hz=>(xK g3 z hz).1
 have hy:eO y≠[]:=by
   have:=(oN (g3 y (by rw[hA]; simp))).2.2.2.2.2.1
   intro e; rw[e]at this; simp at this
 rw[hA,List.map_cons]at lI hlen ⊢
 rw[Oe ⟨g1.1,by omega⟩ _ _ hy lI (by omega),Option.bind_some]
 dsimp only
 rw[←List.map_cons,←hA,Ij a.Terms 0 [] g3 (by simp; omega)]
 rfl
def hTx(h:List Int):List UInt8:=if h=[]then [121,101,115]else kR h
def pW(q:bJ):List UInt8:=hTx q.Head++[32,105,102,32]++Lib.join (q.Atoms.map dL) [32,97,110,100,32]
def kJ(q:bJ):Bool:=ay 1 4 (q.Atoms.length:Int)&&(q.Atoms.all gK&&(decide ((q.Head.length:Int)<=3)&&q.Head.all fun t=>decide (t∈gX (ay 10 17) q.Atoms)))
def iQ(q:bJ):List UInt8:=if kJ q then pW q else []
theorem oh{q:bJ}(h:kJ q=true):(1<=q.Atoms.length/\q.Atoms.length<=4)/\(∀a∈q.Atoms,gK a=true)/\q.Head.length<=3/\(∀x∈q.Head,x∈gX (ay 10 17) q.Atoms)/\ ∀x∈q.Head,gG x=true:=by
 simp only[kJ,ay,Bool.and_eq_true,decide_eq_true_eq,List.all_eq_true]at h
 obtain⟨h1,h2,h3,h4⟩:=h
 refine⟨by omega,h2,by omega,h4,fun x hx=>?_⟩
 have:=(Wi.1 (h4 x hx)).2
 simp[gG,this]
theorem Fs{s:List Int}{q:bJ}(h:kX s q=true):kJ q=true:=by
 simp only[kX,Bool.and_eq_true,List.all_eq_true,decide_eq_true_eq]at h
 obtain⟨h1,h2,-,h3,h4⟩:=h
 simp only[kJ,Bool.and_eq_true,List.all_eq_true,decide_eq_true_eq]
 exact⟨h3,fun a ha=>Xk (h1 a ha),h4,h2⟩
theorem XW{A:List (List UInt8)}{m:Nat}(h:∀z∈A,z.length<=m)(sep:List UInt8):(Lib.join A sep).length<=A.length*(m+sep.length):=by
 cases A with
 |nil=>simp[Lib.join,List.intercalate]
 |cons y A=>
   have key:∀r:List (List UInt8),(∀z∈r,z.length<=m)->(Lib.joinTail sep r).length<=r.length*(m+sep.length):=by
     intro r
     induction r with
     |nil=>intro _; simp[Lib.joinTail]
     |cons z r ih=>
       intro hr
       have h1:=hr z (by simp)
       have h2:=ih fun w hw=>hr w (by simp[hw])
       have e:Lib.joinTail sep (z::r)=sep++z++Lib.joinTail sep r:=by simp[Lib.joinTail]
       rw[e,List.length_append,List.length_append,List.length_cons,Nat.succ_mul]; omega
   have h1:=h y (by simp)
   have h2:=key A fun z hz=>h z (by simp[hz])
   rw[Lib.join_cons,List.length_append,List.length_cons,Nat.succ_mul]; omega
theorem WO{l:List aX}(h:∀a∈l,gK a=true)(h4:l.length<=4):(Lib.join (l.map dL) [32,97,110,100,32]).length<=68:=by
 have:=XW (A:=l.map dL) (m:=12) (fun z hz=>by
   obtain⟨a,ha,rfl⟩:=List.mem_map.1 hz
   exact (vV (h a ha)).2) [32,97,110,100,32]
 simp at this; omega
theorem Xl(c:List (List UInt8)):A7 c []=some (c.any fun x=>x==[]):=by
 unfold A7 ry
 rw[og (L:=p_ []) (f:=fun x=>some (x==[])) (p:=fun x=>x==[]) (fun k=>rfl) (fun x r k=>by
   rw[p_,Option.bind_some]
   cases x<;>rfl) c 0 (fun x _=>rfl),Option.bind_some,oo]
theorem VJ(q:bJ)(h:dF q.Atoms<4294967295):xu q=some (decide ((q.Head.length:Int)<=3)&&q.Head.all fun t=>decide (t∈gX (ay 10 17) q.Atoms)):=by
 have h2:wN q.Head (gX (ay 10 17) q.Atoms)=some (q.Head.any fun t=>!decide (t∈gX (ay 10 17) q.Atoms)):=by
   unfold wN AX
   rw[og (L:=wM _) (f:=fun t=>xg t (gX (ay 10 17) q.Atoms)) (p:=fun t=>!decide (t∈gX (ay 10 17) q.Atoms)) (fun k=>rfl) (fun x r k=>rfl) q.Head 0 (fun x _=>by rw[xg,MS]; rfl),Option.bind_some,oo]
 have e2:(q.Head.any fun t=>!decide (t∈gX (ay 10 17) q.Atoms))=!(q.Head.all fun t=>decide (t∈gX (ay 10 17) q.Atoms)):=by simp[List.all_eq_not_any_not]
 rw[xu,OH q h,Option.bind_some,h2,e2]
 cases decide ((q.Head.length:Int)<=3)<;>cases (q.Head.all fun t=>decide (t∈gX (ay 10 17) q.Atoms))<;>rfl
theorem ES(q:bJ)(ht:dF q.Atoms<4294967295)(ha:q.Atoms.length<=1000):Bo q=some (iQ q):=by
 have fin:∀(k:Nat),rD q [] k (q.Atoms.map vW)=some (iQ q):=by
   intro k
   rw[rD,mI,Option.bind_some,List.length_map]
   unfold iQ
   cases h1:ay 1 4 (q.Atoms.length:Int)
   · simp[kJ,h1]
   have e3:((q.Atoms.map vW).any fun x=>x==[])=!(q.Atoms.all gK):=by
     rw[List.any_map,List.all_eq_not_any_not,Bool.not_not]
     congr 1
     funext a
     simp only[Function.comp,vW]
     cases h:gK a
     · simp
     · have:=(vV h).1
       rw[if_pos rfl]
       cases hx:dL a with
       |nil=>rw[hx]at this; simp at this
       |cons _ _=>rfl
   rw[Bool.not_true,cond_false,Xl,Option.bind_some,e3]
   cases h2:q.Atoms.all gK
   · simp[kJ,h1,h2]
   rw[Bool.not_true,cond_false,VJ q ht,Option.bind_some]
   cases h3:(decide ((q.Head.length:Int)<=3)&&q.Head.all fun t=>decide (t∈gX (ay 10 17) q.Atoms))
   · have:kJ q=false:=by unfold kJ; rw[h1,h2,h3]; rfl
     simp[this]
   · have ho:kJ q=true:=by unfold kJ; rw[h1,h2,h3]; rfl
     obtain⟨g1,g2,g3,g4,g5⟩:=oh ho
     have em:q.Atoms.map vW=q.Atoms.map dL:=List.map_congr_left fun a h=>by unfold vW; rw[if_pos (g2 a h)]
     have l1:=WO g2 g1.2
     have l2:=zO g5 g3
     rw[Option.bind_some,em,if_pos ho]
     dsimp only
     rw[if_neg (by simp)]
     unfold rE
     by_cases hn:q.Head=[]
     · rw[if_neg (by simp[hn]),eD (by simp),Option.bind_some,if_pos ⟨by simp; omega,by omega⟩,Option.bind_some,eD (by simp; omega),Option.bind_some]
       simp[pW,hTx,hn]
     · have:0<q.Head.length:=List.length_pos_iff.2 hn
       rw[if_pos (by simp only[decide_eq_true_eq]; omega),NU g5 g3,Option.bind_some,eD (by simp; omega),Option.bind_some,if_pos ⟨by simp; omega,by omega⟩,Option.bind_some,eD (by simp; omega),Option.bind_some]
       simp[pW,hTx,hn]
 have key:∀(r:List aX)(k:Nat)(c:List aX),c++r=q.Atoms->rD q r k (c.map vW)=some (iQ q):=by
   intro r
   induction r with
   |nil=>intro k c e; rw[List.append_nil]at e; subst e; exact fin k
   |cons a r ih=>
     intro k c e
     have hc:c.length+(r.length+1)<=1000:=by rw[←e]at ha; simpa using ha
     rw[rD,UZ,Option.bind_some,app1 (by simp; omega),Option.bind_some]
     have:=ih (k+1) (c++[a]) (by simpa using e)
     simpa using this
 exact key q.Atoms 0 [] rfl
theorem MZ:∀(r:List aX)(k:Nat)(c:List UInt8),0<k->(∀a∈r,gK a=true)->c.length+17*r.length<=10000->qa 20 r k c=some (c++Lib.joinTail [32,97,110,100,32] (r.map dL))
 |[],k,c,_,_,_=>by simp[qa,Lib.joinTail]
 |a::r,k,c,hk,hr,hc=>by
   simp only[List.length_cons]at hc
   have h1:=vV (hr a (by simp))
   have hne:(dL a==[])=false:=by
     cases hx:dL a with
     |nil=>rw[hx]at h1; simp at h1
     |cons _ _=>rfl
   unfold qa
   rw[ET (hr a (by simp)),Option.bind_some,if_neg (by simp[hne]),if_pos (by simp only[decide_eq_true_eq]; omega),eD (by simp; omega),Option.bind_some,eD (by simp; omega),Option.bind_some,Option.bind_some]
   dsimp only
   rw[MZ r _ _ (by omega) (fun b hb=>hr b (by simp[hb])) (by simp; omega)]
   simp[Lib.joinTail]
theorem M0:∀(r:List aX)(k:Nat)(c:List UInt8),0<k->(∀a∈r,gK a=true)->c.length+17*r.length<=10000->qb 20 r k c=some (c++Lib.joinTail [32,97,110,100,32] (r.map dL))
 |[],k,c,_,_,_=>by simp[qb,Lib.joinTail]
 |a::r,k,c,hk,hr,hc=>by
   simp only[List.length_cons]at hc
   have h1:=vV (hr a (by simp))
   have hne:(dL a==[])=false:=by
     cases hx:dL a with
     |nil=>rw[hx]at h1; simp at h1
     |cons _ _=>rfl
   unfold qb
   rw[ET (hr a (by simp)),Option.bind_some,if_neg (by simp[hne]),if_pos (by simp only[decide_eq_true_eq]; omega),eD (by simp; omega),Option.bind_some,eD (by simp; omega),Option.bind_some,Option.bind_some]
   dsimp only
   rw[M0 r _ _ (by omega) (fun b hb=>hr b (by simp[hb])) (by simp; omega)]
   simp[Lib.joinTail]
theorem Ul{l:List aX}(hn:1<=l.length)(h4:l.length<=4)(h:∀a∈l,gK a=true)(c:List UInt8)(hc:c.length<=100):qa 20 l 0 c=some (c++Lib.join (l.map dL) [32,97,110,100,32]):=by
 cases l with
 |nil=>simp at hn
 |cons a r=>
   have h1:=vV (h a (by simp))
   simp only[List.length_cons]at h4
   have hne:(dL a==[])=false:=by
     cases hx:dL a with
     |nil=>rw[hx]at h1; simp at h1
     |cons _ _=>rfl
   unfold qa
   rw[ET (h a (by simp)),Option.bind_some,if_neg (by simp[hne]),if_neg (by simp),eD (by omega),Option.bind_some,Option.bind_some]
   dsimp only
   rw[MZ r _ _ (by omega) (fun b hb=>h b (by simp[hb])) (by simp; omega),List.map_cons,Lib.join_cons]
   simp
theorem Um{l:List aX}(hn:1<=l.length)(h4:l.length<=4)(h:∀a∈l,gK a=true)(c:List UInt8)(hc:c.length<=100):qb 20 l 0 c=some (c++Lib.join (l.map dL) [32,97,110,100,32]):=by
 cases l with
 |nil=>simp at hn
 |cons a r=>
   have h1:=vV (h a (by simp))
   simp only[List.length_cons]at h4
   have hne:(dL a==[])=false:=by
     cases hx:dL a with
     |nil=>rw[hx]at h1; simp at h1
     |cons _ _=>rfl
   unfold qb
   rw[ET (h a (by simp)),Option.bind_some,if_neg (by simp[hne]),if_neg (by simp),eD (by omega),Option.bind_some,Option.bind_some]
   dsimp only
   rw[M0 r _ _ (by omega) (fun b hb=>h b (by simp[hb])) (by simp; omega),List.map_cons,Lib.join_cons]
   simp
theorem Nt{q:bJ}(h:kJ q=true)(ht:dF q.Atoms<4294967295):yX 20 q=some (pW q):=by
 obtain⟨g1,g2,g3,g4,g5⟩:=oh h
 have l2:=zO g5 g3
 have p1:ay 1 4 (q.Atoms.length:Int)=true:=by simp only[ay,Bool.and_eq_true,decide_eq_true_eq]; omega
 have k1:∀(l:List Int)(k:Nat),(∀x∈l,x∈gX (ay 10 17) q.Atoms)->uX q 20 (kR q.Head) (gX (ay 10 17) q.Atoms) l k=some (kR q.Head++[32,105,102,32]++Lib.join (q.Atoms.map dL) [32,97,110,100,32]):=by
   intro l
   induction l with
   |nil=>
     intro k _
     rw[uX,eD (by simp; omega),Option.bind_some,Ul g1.1 g1.2 g2 _ (by simp; omega)]
   |cons x l ih=>
     intro k hx
     rw[uX,IM,Option.bind_some,decide_eq_true (hx x (by simp)),if_neg (by simp)]
     exact ih _ fun y hy=>hx y (by simp[hy])
 have k3:∀(k:Nat),wR q 20 (gX (ay 10 17) q.Atoms) [] k=some ([121,101,115]++[32,105,102,32]++Lib.join (q.Atoms.map dL) [32,97,110,100,32]):=by
   intro k
   rw[wR,eD (by simp),Option.bind_some,Um g1.1 g1.2 g2 _ (by simp)]
 unfold yX
 rw[jo,Option.bind_some,p1,Bool.not_true,cond_false,Option.bind_some]
 dsimp only
 rw[if_neg (by simp only[decide_eq_true_eq]; omega)]
 unfold pW hTx
 by_cases hn:q.Head=[]
 · rw[if_neg (by simp[hn]),IB q ht,Option.bind_some,hn,k3,if_pos rfl]
 · have:0<q.Head.length:=List.length_pos_iff.2 hn
   rw[if_pos (by simp only[decide_eq_true_eq]; omega),Ov g5 g3,Option.bind_some,IB q ht,Option.bind_some,k1 q.Head 0 g4,if_neg hn]
theorem zG(a b:List aX):dF (a++b)=dF a+dF b:=by simp[dF]
theorem zH(a:aX):dF [a]=a.Terms.length:=by simp[dF]
theorem Ni(text:List UInt8)(r9:List Int×Bool):∀(ps:List (List UInt8))(k:Nat)(c:List aX),(∀y∈ps,y.length<=1048576)->c.length<=4->dF c<=1048577*c.length-> ∃(ok:Bool)(q:bJ),ni text r9 ps k c=some (if ok then (q,iQ q==text)else ({Head:=[],Atoms:=[]},false))/\dF q.Atoms<4294967295
 |[],k,c,_,h4,ht=>by
   rw[ni,ES _ (show dF c<_ by have:=Nat.mul_le_mul_left 1048577 h4; omega) (show c.length<=1000 by omega),Option.bind_some]
   exact⟨true,{Head:=r9.1,Atoms:=c},rfl,by show dF c<_; have:=Nat.mul_le_mul_left 1048577 h4; omega⟩
 |y::ps,k,c,h,h4,ht=>by
   obtain⟨a,b,e,la⟩:=Og y (h y (by simp))
   rw[ni,e,Option.bind_some]
   dsimp only
   split
   · exact⟨false,{Head:=[],Atoms:=[]},rfl,by simp[dF]⟩
   · rename_i hc
     simp only[Bool.or_eq_true,beq_iff_eq,not_or]at hc
     have:c.length≠4:=fun h=>hc.2 (by omega)
     rw[app1 (by omega),Option.bind_some]
     exact Ni text r9 ps _ _ (fun z hz=>h z (by simp[hz])) (by simp; omega) (by rw[zG,zH,List.length_append,List.length_singleton,Nat.mul_add]; omega)
theorem Nj(text:List UInt8):∀(ps:List (List UInt8))(k:Nat)(c:List aX),(∀y∈ps,y.length<=1048576)->c.length<=4->dF c<=1048577*c.length-> ∃(ok:Bool)(q:bJ),nk text ps k c=some (if ok then (q,iQ q==text)else ({Head:=[],Atoms:=[]},false))/\dF q.Atoms<4294967295
 |[],k,c,_,h4,ht=>by
   rw[nk,ES _ (show dF c<_ by have:=Nat.mul_le_mul_left 1048577 h4; omega) (show c.length<=1000 by omega),Option.bind_some]
   exact⟨true,{Head:=[],Atoms:=c},rfl,by show dF c<_; have:=Nat.mul_le_mul_left 1048577 h4; omega⟩
 |y::ps,k,c,h,h4,ht=>by
   obtain⟨a,b,e,la⟩:=Og y (h y (by simp))
   rw[nk,e,Option.bind_some]
   dsimp only
   split
   · exact⟨false,{Head:=[],Atoms:=[]},rfl,by simp[dF]⟩
   · rename_i hc
     simp only[Bool.or_eq_true,beq_iff_eq,not_or]at hc
     have:c.length≠4:=fun h=>hc.2 (by omega)
     rw[app1 (by omega),Option.bind_some]
     exact Nj text ps _ _ (fun z hz=>h z (by simp[hz])) (by simp; omega) (by rw[zG,zH,List.length_append,List.length_singleton,Nat.mul_add]; omega)
theorem Nk(text:List UInt8)(r9:List Int×Bool):∀(l:List aX)(k:Nat)(c:List aX),(∀a∈l,gK a=true)->c.length+l.length<=4->dF (c++l)<4294967295->ni text r9 (l.map dL) k c=some ({Head:=r9.1,Atoms:=c++l},iQ {Head:=r9.1,Atoms:=c++l}==text)
 |[],k,c,_,h4,ht=>by
   rw[List.append_nil]at ht ⊢
   rw[List.map_nil,ni,ES _ ht (show c.length<=1000 by simp at h4; omega),Option.bind_some]
 |a::l,k,c,h,h4,ht=>by
   simp only[List.length_cons]at h4
   rw[List.map_cons,ni,Oh (h a (by simp)),Option.bind_some]
   dsimp only
   rw[if_neg (by simp; omega),app1 (by omega),Option.bind_some,Nk text r9 l _ _ (fun b hb=>h b (by simp[hb])) (by simp; omega) (by simpa using ht)]
   simp
theorem Nl(text:List UInt8):∀(l:List aX)(k:Nat)(c:List aX),(∀a∈l,gK a=true)->c.length+l.length<=4->dF (c++l)<4294967295->nk text (l.map dL) k c=some ({Head:=[],Atoms:=c++l},iQ {Head:=[],Atoms:=c++l}==text)
 |[],k,c,_,h4,ht=>by
   rw[List.append_nil]at ht ⊢
   rw[List.map_nil,nk,ES _ ht (show c.length<=1000 by simp at h4; omega),Option.bind_some]
 |a::l,k,c,h,h4,ht=>by
   simp only[List.length_cons]at h4
   rw[List.map_cons,nk,Oh (h a (by simp)),Option.bind_some]
   dsimp only
   rw[if_neg (by simp; omega),app1 (by omega),Option.bind_some,Nl text l _ _ (fun b hb=>h b (by simp[hb])) (by simp; omega) (by simpa using ht)]
   simp
theorem Qs{l:List Int}(h:∀x∈l,gG x=true)(hn:l≠[]):kR l≠[121,101,115]:=by
 unfold kR
 obtain⟨x,r,rfl⟩:=List.exists_cons_of_ne_nil hn
 rw[List.map_cons,Lib.join_cons]
 intro e
 have h1:=(oN (h x (by simp))).2.2.2.2.2.1
 have h2:∀c∈(eO x).head?,c≠121:=by
   have hx:=h x (by simp)
   unfold eO
   split
   · simp
   · intro c hc
     have hr:0<=x/\x<=100:=by
       simp only[gG,ay,Bool.or_eq_true,Bool.and_eq_true,decide_eq_true_eq]at hx; omega
     have:=(jG hr).2.2.2.1 c (List.mem_of_mem_head? hc)
     rintro rfl
     simp at this
 cases hp:eO x with
 |nil=>rw[hp]at h1; simp at h1
 |cons c r=>
   rw[hp]at e h2
   simp only[List.cons_append,List.cons.injEq]at e
   exact h2 c rfl e.1
theorem QF{h:List Int}(hh:∀x∈h,gG x=true):(32:UInt8)∉hTx h:=by
 unfold hTx
 split
 · decide
 · exact Jf (fun z hz=>(xK hh z hz).2.2.2) (by decide)
theorem U0(s:List Int)(hs:s.length<4294967296)(text:List UInt8)(hl:text.length<=1048576):PF (kX s) iQ {Head:=[],Atoms:=[]} text (w9 s text):=by
 have fin:∀(ok:Bool)(q:bJ),dF q.Atoms<4294967295->qj text=some (if ok then (q,iQ q==text)else ({Head:=[],Atoms:=[]},false))->w9 s text=some (if ok&&(kX s q&&(iQ q==text))then (q,true)else ({Head:=[],Atoms:=[]},false)):=by
   intro ok q hq e
   unfold w9
   rw[e,Option.bind_some]
   cases ok
   · rfl
   · rw[if_pos rfl]
     dsimp only
     cases h1:(iQ q==text)
     · simp
     · rw[Bool.not_true,cond_false,VI s q hs hq,Option.bind_some]
       cases h2:kX s q<;>simp
 obtain⟨h,r,has,e1,l1,l2⟩:=Je text [32,105,102,32] hl
 have cut:∀g,kX s g=true->iQ g=text->kJ g=true/\h=hTx g.Head/\r=Lib.join (g.Atoms.map dL) [32,97,110,100,32]/\has=true:=fun g h1 h2=>by
   have ho:=Fs h1
   obtain⟨g1,g2,g3,g4,g5⟩:=oh ho
   unfold iQ at h2
   rw[if_pos ho]at h2
   rw[←h2]at e1 hl
   unfold pW at e1 hl
   rw[Cu 32 [105,102,32] _ _ (QF g5) hl]at e1
   cases e1
   exact⟨ho,rfl,rfl,rfl⟩
 have parts:∀g,kX s g=true->kJ g=true->r=Lib.join (g.Atoms.map dL) [32,97,110,100,32]->Lib.split r [32,97,110,100,32]=g.Atoms.map dL/\dF g.Atoms<4294967295:=fun g h1 ho hr=>by
   obtain⟨g1,g2,g3,g4,g5⟩:=oh ho
   have ht:=Qn (l:=g.Atoms) fun a ha=>(vO (g2 a ha)).2.1.2
   refine⟨?_,by omega⟩
   subst hr
   cases hA:g.Atoms with
   |nil=>rw[hA]at g1; simp at g1
   |cons a A=>
     rw[hA]at g2
     exact vG 32 [97,110,100,32] _ _ (FW (g2 a (by simp))) fun z hz=>by
       obtain⟨b,hb,rfl⟩:=List.mem_map.1 hz
       exact FW (g2 b (by simp[hb]))
 cases has
 · refine⟨false,{Head:=[],Atoms:=[]},?_,fun g h1 h2=>?_⟩
   · refine fin false {Head:=[],Atoms:=[]} (by simp[dF]) ?_
     unfold qj
     rw[e1]; rfl
   · have:=(cut g h1 h2).2.2.2
     cases this
 obtain⟨e3,m1,m2⟩:=rU r [32,97,110,100,32] (by simp) (by omega)
 have Tv:∀y∈Lib.split r [32,97,110,100,32],y.length<=1048576:=fun y hy=>by have:=m2 y hy; omega
 by_cases hy:h=[121,101,115]
 · obtain⟨ok,q,eq,tq⟩:=Nj text (Lib.split r [32,97,110,100,32]) 0 [] Tv (by simp) (by simp[dF])
   have MM:qj text=nk text (Lib.split r [32,97,110,100,32]) 0 []:=by
     unfold qj
     rw[e1,Option.bind_some]
     dsimp only
     rw[if_neg (by simp),if_neg (by simp[hy]),e3,Option.bind_some]
   refine⟨ok,q,fin ok q tq (by rw[MM,eq]),fun g h1 h2=>?_⟩
   obtain⟨ho,c1,c2,-⟩:=cut g h1 h2
   obtain⟨p1,p2⟩:=parts g h1 ho c2
   obtain⟨g1,g2,g3,g4,g5⟩:=oh ho
   have hn:g.Head=[]:=by
     by_cases hn:g.Head=[]
     · exact hn
     · rw[hy]at c1
       unfold hTx at c1
       rw[if_neg hn]at c1
       exact absurd c1.symm (Qs g5 hn)
   rw[p1,Nl text g.Atoms 0 [] g2 (by simpa using g1.2) (by simpa using p2)]at eq
   have hg:({Head:=[],Atoms:=[]++g.Atoms}:bJ)=g:=by rw[←hn]; rfl
   rw[hg,h2]at eq
   cases ok
   · simp at eq
   · simp only[if_true,Option.some.injEq,Prod.mk.injEq]at eq
     exact⟨rfl,eq.1.symm⟩
 · obtain⟨e4,n1,n2⟩:=rU h [44] (by simp) (by omega)
   obtain⟨hd,bh,e5,n3⟩:=Ii (Lib.split h [44]) 0 [] (fun y hy=>by have:=n2 y hy; omega) (by simp; omega)
   have QG:∀g,kJ g=true->h=hTx g.Head->hd=g.Head/\bh=true:=fun g ho c1=>by
     obtain⟨g1,g2,g3,g4,g5⟩:=oh ho
     have hn:g.Head≠[]:=fun hn=>hy (by rw[c1]; unfold hTx; rw[if_pos hn])
     have e:h=Lib.join (g.Head.map eO) [44]:=by rw[c1]; unfold hTx kR; rw[if_neg hn]
     have hsp:Lib.split h [44]=g.Head.map eO:=by
       rw[e]
       obtain⟨x,l,hx⟩:=List.exists_cons_of_ne_nil hn
       rw[hx]at g5 ⊢
       exact vG 44 [] _ _ (xK g5 _ (by simp)).1 fun z hz=>(xK g5 z (by simp only[List.map_cons,List.mem_cons]; exact .inr hz)).1
     rw[hsp,Ij g.Head 0 [] g5 (by simp; omega)]at e5
     cases e5
     exact⟨rfl,rfl⟩
   cases bh
   · refine⟨false,{Head:=[],Atoms:=[]},?_,fun g h1 h2=>?_⟩
     · refine fin false {Head:=[],Atoms:=[]} (by simp[dF]) ?_
       unfold qj vF
       rw[e1,Option.bind_some]
       dsimp only
       rw[if_neg (by simp),if_pos (by simp[hy]),e4,Option.bind_some,e5]; rfl
     · obtain⟨ho,c1,c2,-⟩:=cut g h1 h2
       have:=(QG g ho c1).2
       cases this
   · obtain⟨ok,q,eq,tq⟩:=Ni text (hd,true) (Lib.split r [32,97,110,100,32]) 0 [] Tv (by simp) (by simp[dF])
     have MM:qj text=ni text (hd,true) (Lib.split r [32,97,110,100,32]) 0 []:=by
       unfold qj vF
       rw[e1,Option.bind_some]
       dsimp only
       rw[if_neg (by simp),if_pos (by simp[hy]),e4,Option.bind_some,e5,Option.bind_some]
       dsimp only
       rw[if_neg (by simp),e3,Option.bind_some]
     refine⟨ok,q,fin ok q tq (by rw[MM,eq]),fun g h1 h2=>?_⟩
     obtain⟨ho,c1,c2,-⟩:=cut g h1 h2
     obtain⟨p1,p2⟩:=parts g h1 ho c2
     obtain⟨g1,g2,g3,g4,g5⟩:=oh ho
     obtain⟨rfl,-⟩:=QG g ho c1
     rw[p1,Nk text _ g.Atoms 0 [] g2 (by simpa using g1.2) (by simpa using p2)]at eq
     have hg:({Head:=g.Head,Atoms:=[]++g.Atoms}:bJ)=g:=rfl
     rw[hg,h2]at eq
     cases ok
     · simp at eq
     · simp only[if_true,Option.some.injEq,Prod.mk.injEq]at eq
       exact⟨rfl,eq.1.symm⟩
def jC(l:List (List UInt8)):Nat:=(l.map fun y=>y.length+1).sum
theorem Fy(x:List UInt8)(r:List (List UInt8)):jC (x::r)=(x.length+1)+jC r:=by simp[jC]
theorem Jg(c:UInt8):∀(l p:List UInt8),jC (bD c p l)=p.length+l.length+1
 |[],p=>by simp[bD,jC]
 |b::l,p=>by
   unfold bD
   split
   · have:=Jg c l []
     unfold jC at*
     rw[List.map_cons,List.sum_cons,this]; simp; omega
   · rw[Jg c l (p++[b])]; simp; omega
theorem UD(y:List UInt8)(hl:y.length<=1048576):∃n,qg 20 y=some n:=by
 have last:∃n,((kE 20 y).bind fun nP=>(dZ nP 0 9).bind fun iF=>if (!iF)then some (-1)else some nP)=some n:=by
   rw[vN hl,Option.bind_some,jo,Option.bind_some]
   split<;>exact⟨_,rfl⟩
 unfold qg
 by_cases h:(1:Int)<(y.length:Int)
 · rw[decide_eq_true h,cond_true,show (0:Int)=((0:Nat):Int)from rfl,jO,List.getElem?_eq_getElem (show 0<y.length by omega),Option.bind_some,Option.bind_some]
   dsimp only
   split
   · rw[jd (by simp; omega),Option.bind_some,vN (by simp; omega),Option.bind_some,jo,Option.bind_some]
     split<;>exact⟨_,rfl⟩
   · exact last
 · rw[decide_eq_false h]
   exact last
def tS(y:List UInt8):Int:=(qg 20 y).getD 0
theorem Nu{y:List UInt8}(h:y.length<=1048576):qg 20 y=some (tS y):=by
 obtain⟨n,e⟩:=UD y h
 unfold tS; rw[e]; rfl
theorem aa_{t:Int}(h:gG t=true):tS (eO t)=t:=by unfold tS; rw[(oN h).2.2.1]; rfl
theorem QH{l:List Int}(h:∀x∈l,gG x=true):(l.map eO).map tS=l:=by
 rw[List.map_map]
 conv=>rhs; rw[←List.map_id l]
 exact List.map_congr_left fun x hx=>aa_ (h x hx)
theorem Ic(r:Int):∀(ws:List (List UInt8))(k:Nat)(c:List Int),(∀y∈ws,y.length<=1048576)->c.length+ws.length<4294967295->uW 20 r ws k c=some {Rel:=r,Terms:=c++ws.map tS}
 |[],k,c,_,_=>by simp[uW]
 |y::ws,k,c,h,hc=>by
   simp only[List.length_cons]at hc
   unfold uW
   rw[Nu (h y (by simp)),Option.bind_some,app1 (by omega),Option.bind_some,Ic r ws _ _ (fun z hz=>h z (by simp[hz])) (by simp; omega)]
   simp
def aS(y:List UInt8):aX:=(qh 20 y).getD {Rel:=0,Terms:=[]}
theorem UE(y:List UInt8)(hl:y.length<=1048576):∃a,qh 20 y=some a/\a.Terms.length<=y.length+1:=by
 obtain⟨N,ws,e1,l0,l1,l2⟩:=OL y hl
 obtain⟨n,e2⟩:=BP N (by omega)
 unfold qh
 rw[e1,Option.bind_some]
 dsimp only
 rw[e2,Option.bind_some,Ic n ws 0 [] l1 (by simp; omega)]
 exact⟨_,rfl,by simp; omega⟩
theorem Nv{y:List UInt8}(h:y.length<=1048576):qh 20 y=some (aS y)/\(aS y).Terms.length<=y.length+1:=by
 obtain⟨a,e,hl⟩:=UE y h
 unfold aS
 rw[e]
 exact⟨rfl,hl⟩
theorem aa'{a:aX}(h:gK a=true):aS (dL a)=a:=by
 obtain⟨g1,g2,g3⟩:=vO h
 have hlen:=(vV h).2
 have q8:(40:UInt8)∉[114]++bE a.Rel:=by
   rw[mK ⟨g1.1,by omega⟩]; intro h
   rcases List.mem_append.1 h with h|h
   · simp at h
   · exact qo ⟨g1.1,by omega⟩ (.inl (by decide)) h
 have e:qh 20 (dL a)=some a:=by
   unfold qh
   have hc:=OJ ([114]++bE a.Rel) (kR a.Terms) q8 (by unfold dL at hlen; omega)
   unfold dL
   rw[hc,Option.bind_some]
   dsimp only
   rw[BQ ⟨g1.1,by omega⟩,Option.bind_some]
   have hsp:bD 44 [] (kR a.Terms)=a.Terms.map eO:=rY (by intro h; rw[List.map_eq_nil_iff]at h; rw[h]at g2; simp at g2) fun z hz=>(xK g3 z hz).1
   rw[hsp,Ic a.Rel (a.Terms.map eO) 0 [] (fun y hy=>by
     obtain⟨x,hx,rfl⟩:=List.mem_map.1 hy
     have:=(oN (g3 x hx)).2.2.2.2.2.2
     omega) (by simp; omega),QH g3]
   rfl
 unfold aS
 rw[e]; rfl
def evs:List (List UInt8)->List (List UInt8)
 |[]=>[]
 |[x]=>[x]
 |x::_::r=>x::evs r
theorem M8(s:List Int)(text:List UInt8)(w:List (List UInt8)):∀(ws:List (List UInt8))(k:Nat)(c:List Int),(∀y∈ws,y.length<=1048576)->c.length+ws.length<4294967295->u_ s text w 20 ws k c=u7 s text w 20 (c++ws.map tS) (((w.length:Int)-2).toNat+2) [] 2
 |[],k,c,_,_=>by simp[u_]
 |y::ws,k,c,h,hc=>by
   simp only[List.length_cons]at hc
   unfold u_
   rw[Nu (h y (by simp)),Option.bind_some,app1 (by omega),Option.bind_some,M8 s text w ws _ _ (fun z hz=>h z (by simp[hz])) (by simp; omega)]
   simp
section
variable{s:List Int}(hs:s.length<4294967296)(text:List UInt8)(w:List (List UInt8))(hw:∀y∈w,y.length<=1048576)(hwl:w.length<=1048577)
include hs hw hwl
theorem Ie(hd:List Int):∀(m i:Nat)(c:List aX),i<=w.length+1->w.length-i<m->dF c+jC (w.drop i)<4294967295->c.length<=i->u7 s text w 20 hd m c (i:Int)=some (if (kX s {Head:=hd,Atoms:=c++(evs (w.drop i)).map aS}&&(iQ {Head:=hd,Atoms:=c++(evs (w.drop i)).map aS}==text))then (({Head:=hd,Atoms:=c++(evs (w.drop i)).map aS}:bJ),true)else ({Head:=[],Atoms:=[]},false))
 |0,_,_,_,hm,_,_=>by omega
 |m+1,i,c,hi,hm,ht,hc=>by
   unfold u7
   by_cases hlt:i<w.length
   · have hx:=hw w[i] (List.getElem_mem hlt)
     have ha:=Nv hx
     rw[if_pos (by simp only[decide_eq_true_eq]; omega),qp _ _ hlt,Option.bind_some,ha.1,Option.bind_some,app1 (by omega),Option.bind_some,dU (by omega) (by omega),show (i:Int)+2=((i+2:Nat):Int) by omega]
     have ed:w.drop i=w[i]::w.drop (i+1):=List.drop_eq_getElem_cons hlt
     by_cases h2:i+1<w.length
     · have pX:w.drop (i+1)=w[i+1]::w.drop (i+2):=List.drop_eq_getElem_cons h2
       have e2:jC (w.drop i)=(w[i].length+1)+((w[i+1].length+1)+jC (w.drop (i+2))):=by rw[ed,pX,Fy,Fy]
       rw[Ie hd m (i+2) (c++[aS w[i]]) (by omega) (by omega) (by rw[zG,zH]; omega) (by simp; omega)]
       rw[ed,pX]
       simp[evs]
     · have pX:w.drop (i+1)=[]:=List.drop_eq_nil_of_le (by omega)
       have EF:w.drop (i+2)=[]:=List.drop_eq_nil_of_le (by omega)
       have e2:jC (w.drop i)=w[i].length+1:=by rw[ed,pX]; simp[jC]
       rw[Ie hd m (i+2) (c++[aS w[i]]) (by omega) (by omega) (by rw[zG,zH,EF]; simp[jC]; omega) (by simp; omega)]
       rw[ed,pX,EF]
       simp[evs]
   · have ed:w.drop i=[]:=List.drop_eq_nil_of_le (by omega)
     rw[if_neg (by simp only[decide_eq_true_eq]; omega),ed]
     have e0:(evs ([]:List (List UInt8))).map aS=[]:=rfl
     rw[e0,List.append_nil,Oq s _ hs (by show dF c<_; omega),Option.bind_some]
     cases h:kX s {Head:=hd,Atoms:=c}
     · rfl
     · have ho:=Fs h
       rw[Bool.not_true,cond_false,Nt ho (by show dF c<_; omega),Option.bind_some,Option.bind_some]
       have ef:iQ {Head:=hd,Atoms:=c}=pW {Head:=hd,Atoms:=c}:=by unfold iQ; rw[if_pos ho]
       rw[ef]
       cases h2:(pW {Head:=hd,Atoms:=c}==text)<;>simp
theorem Ig:∀(m i:Nat)(c:List aX),i<=w.length+1->w.length-i<m->dF c+jC (w.drop i)<4294967295->c.length<=i->wS s text w 20 m c (i:Int)=some (if (kX s {Head:=[],Atoms:=c++(evs (w.drop i)).map aS}&&(iQ {Head:=[],Atoms:=c++(evs (w.drop i)).map aS}==text))then (({Head:=[],Atoms:=c++(evs (w.drop i)).map aS}:bJ),true)else ({Head:=[],Atoms:=[]},false))
 |0,_,_,_,hm,_,_=>by omega
 |m+1,i,c,hi,hm,ht,hc=>by
   unfold wS
   by_cases hlt:i<w.length
   · have hx:=hw w[i] (List.getElem_mem hlt)
     have ha:=Nv hx
     rw[if_pos (by simp only[decide_eq_true_eq]; omega),qp _ _ hlt,Option.bind_some,ha.1,Option.bind_some,app1 (by omega),Option.bind_some,dU (by omega) (by omega),show (i:Int)+2=((i+2:Nat):Int) by omega]
     have ed:w.drop i=w[i]::w.drop (i+1):=List.drop_eq_getElem_cons hlt
     by_cases h2:i+1<w.length
     · have pX:w.drop (i+1)=w[i+1]::w.drop (i+2):=List.drop_eq_getElem_cons h2
       have e2:jC (w.drop i)=(w[i].length+1)+((w[i+1].length+1)+jC (w.drop (i+2))):=by rw[ed,pX,Fy,Fy]
       rw[Ig m (i+2) (c++[aS w[i]]) (by omega) (by omega) (by rw[zG,zH]; omega) (by simp; omega)]
       rw[ed,pX]
       simp[evs]
     · have pX:w.drop (i+1)=[]:=List.drop_eq_nil_of_le (by omega)
       have EF:w.drop (i+2)=[]:=List.drop_eq_nil_of_le (by omega)
       have e2:jC (w.drop i)=w[i].length+1:=by rw[ed,pX]; simp[jC]
       rw[Ig m (i+2) (c++[aS w[i]]) (by omega) (by omega) (by rw[zG,zH,EF]; simp[jC]; omega) (by simp; omega)]
       rw[ed,pX,EF]
       simp[evs]
   · have ed:w.drop i=[]:=List.drop_eq_nil_of_le (by omega)
     rw[if_neg (by simp only[decide_eq_true_eq]; omega),ed]
     have e0:(evs ([]:List (List UInt8))).map aS=[]:=rfl
     rw[e0,List.append_nil,Oq s _ hs (by show dF c<_; omega),Option.bind_some]
     cases h:kX s {Head:=[],Atoms:=c}
     · rfl
     · have ho:=Fs h
       rw[Bool.not_true,cond_false,Nt ho (by show dF c<_; omega),Option.bind_some,Option.bind_some]
       have ef:iQ {Head:=[],Atoms:=c}=pW {Head:=[],Atoms:=c}:=by unfold iQ; rw[if_pos ho]
       rw[ef]
       cases h2:(pW {Head:=[],Atoms:=c}==text)<;>simp
end
def nG:List aX->List (List UInt8)
 |[]=>[]
 |a::r=>[97,110,100]::dL a::nG r
theorem OY:∀r:List aX,Lib.joinTail [32,97,110,100,32] (r.map dL)=Lib.joinTail [32] (nG r)
 |[]=>rfl
 |a::r=>by
   have ih:=OY r
   simp only[Lib.joinTail,nG,List.map_cons,List.flatten_cons]at*
   rw[ih]; simp
theorem PX:∀(r:List aX)(a:aX),evs (dL a::nG r)=dL a::r.map dL
 |[],a=>rfl
 |b::r,a=>by simp[nG,evs,PX r b]
theorem PY:∀r:List aX,(∀a∈r,gK a=true)-> ∀z∈nG r,(32:UInt8)∉z
 |[],_,z,hz=>by simp[nG]at hz
 |a::r,h,z,hz=>by
   simp only[nG,List.mem_cons]at hz
   rcases hz with rfl|rfl|hz
   · decide
   · exact FW (h a (by simp))
   · exact PY r (fun b hb=>h b (by simp[hb])) z hz
theorem U1(s:List Int)(hs:s.length<4294967296)(text:List UInt8)(hl:text.length<=1048576):PF (kX s) iQ {Head:=[],Atoms:=[]} text (y7 20 s text):=by
 obtain⟨l2,l1⟩:=xJ 32 hl
 have hsum:=Jg 32 text []
 have h1:=(zN 32 text []).1
 simp only[List.length_nil]at hsum
 have hsp:∀g,kX s g=true->iQ g=text->kJ g=true/\ ∃a r,g.Atoms=a::r/\bD 32 [] text=hTx g.Head::[105,102]::dL a::nG r:=fun g k1 k2=>by
   have ho:=Fs k1
   obtain⟨g1,g2,g3,g4,g5⟩:=oh ho
   unfold iQ at k2
   rw[if_pos ho]at k2
   obtain⟨a,r,hA⟩:∃a r,g.Atoms=a::r:=by
     cases hA:g.Atoms with
     |nil=>rw[hA]at g1; simp at g1
     |cons a r=>exact⟨a,r,rfl⟩
   refine⟨ho,a,r,hA,?_⟩
   have e:text=Lib.join (hTx g.Head::[105,102]::dL a::nG r) [32]:=by
     rw[←k2]
     unfold pW
     rw[hA,List.map_cons,Lib.join_cons,OY,Lib.join_cons]
     simp[Lib.joinTail]
   rw[e]
   refine rY (by simp) fun z hz=>?_
   rw[hA]at g2
   simp only[List.mem_cons]at hz
   rcases hz with rfl|rfl|rfl|hz
   · exact QF g5
   · decide
   · exact FW (g2 a (by simp))
   · exact PY r (fun b hb=>g2 b (by simp[hb])) z hz
 have hev:∀g a r,kJ g=true->g.Atoms=a::r->bD 32 [] text=hTx g.Head::[105,102]::dL a::nG r->(evs ((bD 32 [] text).drop 2)).map aS=g.Atoms:=fun g a r ho hA e=>by
   obtain⟨g1,g2,g3,g4,g5⟩:=oh ho
   rw[e]
   show (evs (dL a::nG r)).map aS=_
   rw[PX,←List.map_cons,←hA,List.map_map]
   conv=>rhs; rw[←List.map_id g.Atoms]
   exact List.map_congr_left fun b hb=>aa' (g2 b hb)
 have hd2:jC ((bD 32 [] text).drop 2)<=jC (bD 32 [] text):=by
   have:=List.take_append_drop 2 (bD 32 [] text)
   conv=>rhs; rw[←this]
   unfold jC
   rw[List.map_append,List.sum_append]; omega
 have hx0:=l2 (bD 32 [] text)[0] (List.getElem_mem (by omega))
 unfold y7
 rw[rQ text 32 hl,Option.bind_some,lT _ 0 0 rfl (by omega),Option.bind_some]
 by_cases hy:(bD 32 [] text)[0]=[121,101,115]
 · refine⟨true,{Head:=[],Atoms:=(evs ((bD 32 [] text).drop 2)).map aS},?_,fun g k1 k2=>?_⟩
   · rw[if_neg (by simp[hy])]
     have:=Ig hs text (bD 32 [] text) l2 l1 (((((bD 32 [] text).length:Nat):Int)-2).toNat+2) 2 [] (by omega) (by omega) (by simp[dF]; omega) (by simp)
     rw[show (2:Int)=((2:Nat):Int)from rfl]at*
     simpa using this
   · obtain⟨ho,a,r,hA,e⟩:=hsp g k1 k2
     obtain⟨g1,g2,g3,g4,g5⟩:=oh ho
     rw[hev g a r ho hA e]
     simp only[e,List.getElem_cons_zero]at hy
     have hn:g.Head=[]:=by
       by_cases hn:g.Head=[]
       · exact hn
       · unfold hTx at hy
         rw[if_neg hn]at hy
         exact absurd hy (Qs g5 hn)
     exact⟨rfl,by rw[←hn]⟩
 · obtain⟨m2,m1⟩:=xJ 44 hx0
   refine⟨true,{Head:=(bD 44 [] (bD 32 [] text)[0]).map tS,Atoms:=(evs ((bD 32 [] text).drop 2)).map aS},?_,fun g k1 k2=>?_⟩
   · rw[if_pos (by simp[hy]),Option.bind_some,rQ _ 44 hx0,Option.bind_some,M8 s text _ _ 0 [] m2 (by simp; omega)]
     have:=Ie hs text (bD 32 [] text) l2 l1 ([]++(bD 44 [] (bD 32 [] text)[0]).map tS) (((((bD 32 [] text).length:Nat):Int)-2).toNat+2) 2 [] (by omega) (by omega) (by simp[dF]; omega) (by simp)
     rw[show (2:Int)=((2:Nat):Int)from rfl]at*
     simpa using this
   · obtain⟨ho,a,r,hA,e⟩:=hsp g k1 k2
     obtain⟨g1,g2,g3,g4,g5⟩:=oh ho
     rw[hev g a r ho hA e]
     simp only[e,List.getElem_cons_zero]at hy ⊢
     have hn:g.Head≠[]:=fun hn=>hy (by unfold hTx; rw[if_pos hn])
     have eh:hTx g.Head=Lib.join (g.Head.map eO) [44]:=by unfold hTx kR; rw[if_neg hn]
     rw[eh,rY (by simpa using hn) fun z hz=>(xK g5 z hz).1,QH g5]
     exact⟨trivial,rfl⟩
theorem U2{s:List UInt8}{n:Int}(h:g_ s=some (n,true)):Lib.itoa n=s:=by
 unfold g_ h_ at h
 obtain⟨r1,-,h⟩:=bind_some h
 obtain⟨o,h1,h2⟩:=bind_some h
 dsimp only at h2
 cases o
 · rw[if_neg (by simp)]at h2
   cases h2
   cases hb:r1.2
   · rw[hb]at h1; cases h1
   rw[hb,Bool.not_true,cond_false,Option.bind_some]at h1
   cases hr:(decide (-999999999<=r1.1)&&decide (r1.1<=999999999))
   · rw[hr]at h1; cases h1
   have hr':=hr
   simp only[Bool.and_eq_true,decide_eq_true_eq]at hr'
   rw[hr,Bool.not_true,cond_false,Be _ (by omega),Option.bind_some]at h1
   simpa using h1
 · rw[if_pos rfl]at h2
   simp at h2
theorem M9(s:List UInt8):∀(m:Nat)(c1 c2 c3 n:Int),qf s 20 m c1 c2 c3=some (n,true)->fZ 20 n=some s
 |0,_,_,_,_,h=>by simp[qf]at h
 |m+1,c1,c2,c3,n,h=>by
   have fin:∀(N:Int)(o:Bool),(bif (decide ((9:Int)<c2))then (some true)else (bif (decide ((10:Int)<(s.length:Int)))then (some true)else ((fZ 20 N).bind fun kM=>some (!(kM==s)))))=some o->(if o then some ((0:Int),false)else some (N,true))=some (n,true)->fZ 20 n=some s:=by
     intro N o h1 h2
     cases o
     · rw[if_neg (by simp)]at h2
       cases h2
       cases ha:decide ((9:Int)<c2)
       · rw[ha,cond_false]at h1
         cases hb:decide ((10:Int)<(s.length:Int))
         · rw[hb,cond_false]at h1
           obtain⟨r,e,h3⟩:=bind_some h1
           have h3':=Option.some.inj h3
           simp only[Bool.not_eq_false',beq_iff_eq]at h3'
           rw[e,h3']
         · rw[hb]at h1; cases h1
       · rw[ha]at h1; cases h1
     · rw[if_pos rfl]at h2
       simp at h2
   unfold qf at h
   split at h
   · obtain⟨⟨a,b⟩,-,h'⟩:=bind_some h
     exact M9 s m a b _ n h'
   · obtain⟨wG,-,h'⟩:=bind_some h
     dsimp only at h'
     split at h'
     · obtain⟨o,h1,h2⟩:=bind_some h'
       exact fin _ o h1 h2
     · obtain⟨o,h1,h2⟩:=bind_some h'
       exact fin _ o h1 h2
theorem Xm(s:List UInt8)(hl:s.length<=1048576):∃n b n' b',g_ s=some (n,b)/\ql 20 s=some (n',b')/\(b&&ay 1 100 n)=(b'&&ay 1 100 n'):=by
 obtain⟨n,b,e1⟩:=nZ s hl
 obtain⟨n',b',e2⟩:=Bc s hl (((s.length:Int)-0).toNat+2) 0 0 0 (by omega) (by omega) (by omega)
 have e2':ql 20 s=some (n',b'):=e2
 refine⟨n,b,n',b',e1,e2',?_⟩
 have one:(b&&ay 1 100 n)=true->(b'&&ay 1 100 n')=true:=fun h=>by
   simp only[Bool.and_eq_true,ay,decide_eq_true_eq]at h
   obtain⟨rfl,h1,h2⟩:=h
   have ht:=U2 e1
   rw[←ht,(jG (n:=n) (by omega)).2.1]at e2'
   cases e2'
   simp only[Bool.true_and,ay,Bool.and_eq_true,decide_eq_true_eq]; omega
 have two:(b'&&ay 1 100 n')=true->(b&&ay 1 100 n)=true:=fun h=>by
   simp only[Bool.and_eq_true,ay,decide_eq_true_eq]at h
   obtain⟨rfl,h1,h2⟩:=h
   have ht:=M9 s _ _ _ _ _ e2
   rw[(jG (n:=n') (by omega)).2.2.1]at ht
   have ht':=Option.some.inj ht
   rw[←ht',(jG (n:=n') (by omega)).1]at e1
   cases e1
   simp only[Bool.true_and,ay,Bool.and_eq_true,decide_eq_true_eq]; omega
 cases h1:(b&&ay 1 100 n)<;>cases h2:(b'&&ay 1 100 n')
 · rfl
 · exact absurd (two h2) (by simp[h1])
 · exact absurd (one h1) (by simp[h2])
 · rfl
theorem VK(s:List Int)(hs:s.length<4294967296)(e:Event)(hl:e.Text.length<=1048576):∃b,rR s e=some b/\zy 20 s e=some b:=by
 obtain⟨m1,rm,m2⟩:=Cv (UB s hs e.Text hl) (UC s hs e.Text hl)
 obtain⟨r1,rr,r2⟩:=Cv (Vk s hs e.Text hl) (Vl s hs e.Text hl)
 obtain⟨f1,rf,f2⟩:=Cv (Vi s hs e.Text hl) (Vj s hs e.Text hl)
 obtain⟨q1,rq,q2⟩:=Cv (U0 s hs e.Text hl) (U1 s hs e.Text hl)
 obtain⟨n,b,n',b',w1,w2,w3⟩:=Xm e.Text hl
 rw[m2]at m1
 rw[r2]at r1
 rw[f2]at f1
 rw[q2]at q1
 have wi:((bif b then ((h_ n 1 100).bind fun iN=>some iN)else (some false)).bind fun EC=>match EC with|c53=>if c53 then some true else some false)=some (b&&ay 1 100 n):=by
   cases b
   · rfl
   · rw[cond_true,mI,Option.bind_some,Option.bind_some]
     cases ay 1 100 n<;>rfl
 have ws:((bif b' then ((dZ n' 1 100).bind fun gB=>some gB)else (some false)).bind fun kL=>match kL with|c20=>some c20)=some (b'&&ay 1 100 n'):=by
   cases b'
   · rfl
   · rw[cond_true,jo,Option.bind_some,Option.bind_some]; rfl
 have bb:∀x:Bool,(if x then some true else some false)=some x:=fun x=>by cases x<;>rfl
 unfold rR Bh zy
 by_cases h1:e.Kind=1
 · refine⟨rm.2,?_,?_⟩
   · rw[if_pos (by simp[h1]),m2,Option.bind_some,bb]; rfl
   · rw[if_pos (by simp[h1]),←m1]; rfl
 by_cases h2:e.Kind=2
 · refine⟨rr.2,?_,?_⟩
   · rw[if_neg (by simp[h1]),if_pos (by simp[h2]),r2,Option.bind_some,bb]; rfl
   · rw[if_neg (by simp[h1]),if_pos (by simp[h2]),←r1]; rfl
 by_cases h3:e.Kind=3
 · refine⟨rf.2,?_,?_⟩
   · rw[if_neg (by simp[h1]),if_neg (by simp[h2]),if_pos (by simp[h3]),if_pos (by simp[h3]),f2,Option.bind_some,bb]; rfl
   · rw[if_neg (by simp[h1]),if_neg (by simp[h2]),if_pos (by simp[h3]),if_pos (by simp[h3]),←f1]; rfl
 by_cases h4:e.Kind=4
 · refine⟨rf.2,?_,?_⟩
   · rw[if_neg (by simp[h1]),if_neg (by simp[h2]),if_neg (by simp[h3]),if_pos (by simp[h4]),f2,Option.bind_some,bb]; rfl
   · rw[if_neg (by simp[h1]),if_neg (by simp[h2]),if_neg (by simp[h3]),if_pos (by simp[h4]),←f1]; rfl
 by_cases h5:e.Kind=5
 · refine⟨b&&ay 1 100 n,?_,?_⟩
   · rw[if_neg (by simp[h1]),if_neg (by simp[h2]),if_neg (by simp[h3]),if_neg (by simp[h4]),if_pos (by simp[h5]),w1,Option.bind_some]
     dsimp only at wi ⊢
     rw[wi]; rfl
   · rw[if_neg (by simp[h1]),if_neg (by simp[h2]),if_neg (by simp[h3]),if_neg (by simp[h4]),if_pos (by simp[h5]),w2,Option.bind_some,w3]
     exact ws
 by_cases h6:e.Kind=6
 · refine⟨rq.2,?_,?_⟩
   · rw[if_neg (by simp[h1]),if_neg (by simp[h2]),if_neg (by simp[h3]),if_neg (by simp[h4]),if_neg (by simp[h5]),if_pos (by simp[h6]),q2,Option.bind_some,bb]; rfl
   · rw[if_neg (by simp[h1]),if_neg (by simp[h2]),if_neg (by simp[h3]),if_neg (by simp[h4]),if_neg (by simp[h5]),if_pos (by simp[h6]),←q1]; rfl
 · refine⟨false,?_,?_⟩
   · rw[if_neg (by simp[h1]),if_neg (by simp[h2]),if_neg (by simp[h3]),if_neg (by simp[h4]),if_neg (by simp[h5]),if_neg (by simp[h6])]; rfl
   · rw[if_neg (by simp[h1]),if_neg (by simp[h2]),if_neg (by simp[h3]),if_neg (by simp[h4]),if_neg (by simp[h5]),if_neg (by simp[h6])]
def qL(s:List Int)(e:Event):Bool:=(rR s e).getD false
theorem OZ(s:List Int)(hs:s.length<4294967296)(e:Event)(hl:e.Text.length<=1048576):rR s e=some (qL s e)/\zy 20 s e=some (qL s e):=by
 obtain⟨b,e1,e2⟩:=VK s hs e hl
 unfold qL
 rw[e1,e2]
 exact⟨rfl,rfl⟩
theorem Pq{s:List Int}{e:Event}(h:qL s e=true):1<=e.Kind/\e.Kind<=6:=by
 by_cases hk:1<=e.Kind/\e.Kind<=6
 · exact hk
 · exfalso
   have:rR s e=some false:=by
     unfold rR Bh
     rw[if_neg (by simp; omega),if_neg (by simp; omega),if_neg (by simp; omega),if_neg (by simp; omega),if_neg (by simp; omega),if_neg (by simp; omega)]; rfl
   unfold qL at h
   rw[this]at h
   cases h
def fB(k:Int):List UInt8:=([[],[109,101,116,104,111,100],[114,117,108,101],[97,100,100],[100,114,111,112],[119,97,105,116],[97,115,107]]:List (List UInt8))[k.toNat]?.getD []
def Su(n:Nat):Bool:=decide (BC ((n:Int)+1)=some (fB ((n:Int)+1)))&&(decide (BK ((n:Int)+1)=some (fB ((n:Int)+1)))&&(decide (ry [[],[109,101,116,104,111,100],[114,117,108,101],[97,100,100],[100,114,111,112],[119,97,105,116],[97,115,107]] (fB ((n:Int)+1))=some ((n:Int)+1))&&(decide ((32:UInt8)∉fB ((n:Int)+1))&&(decide (1<=(fB ((n:Int)+1)).length)&&decide ((fB ((n:Int)+1)).length<=6)))))
theorem Yz:(List.range 6).all Su=true:=by decide+kernel
theorem C8{k:Int}(h:1<=k/\k<=6):BC k=some (fB k)/\BK k=some (fB k)/\ry [[],[109,101,116,104,111,100],[114,117,108,101],[97,100,100],[100,114,111,112],[119,97,105,116],[97,115,107]] (fB k)=some k/\(32:UInt8)∉fB k/\1<=(fB k).length/\(fB k).length<=6:=by
 obtain⟨n,rfl⟩:∃n:Nat,k=(n:Int)+1:=⟨(k-1).toNat,by omega⟩
 have h1:=List.all_eq_true.1 Yz n (List.mem_range.2 (by omega))
 simp only[Su,Bool.and_eq_true,decide_eq_true_eq]at h1
 exact h1
def kS(s:List Int)(e:Event):Bool:=qL s e&&!(e.Text==[])
def kK(e:Event):List UInt8:=if ay 1 6 e.Kind&&!(e.Text==[])then fB e.Kind++[32]++e.Text else []
theorem xB{s:List Int}{e:Event}(h:kS s e=true):qL s e=true/\(1<=e.Kind/\e.Kind<=6)/\e.Text≠[]/\kK e=fB e.Kind++[32]++e.Text:=by
 simp only[kS,Bool.and_eq_true,Bool.not_eq_true',beq_eq_false_iff_ne]at h
 have hk:=Pq h.1
 refine⟨h.1,hk,h.2,?_⟩
 unfold kK
 rw[if_pos]
 simp only[ay,Bool.and_eq_true,decide_eq_true_eq,Bool.not_eq_true',beq_eq_false_iff_ne]
 exact⟨hk,h.2⟩
theorem UF{e:Event}(hk:1<=e.Kind/\e.Kind<=6)(hl:e.Text.length<=1048576):Bp e=some (kK e):=by
 obtain⟨-,h2,-,-,h5,h6⟩:=C8 hk
 have hp:ay 1 6 e.Kind=true:=by simp only[ay,Bool.and_eq_true,decide_eq_true_eq]; omega
 have hne:(fB e.Kind==[])=false:=by
   cases hx:fB e.Kind with
   |nil=>rw[hx]at h5; simp at h5
   |cons _ _=>rfl
 unfold Bp kK
 rw[h2,Option.bind_some,hne,hp,Bool.false_or,Bool.true_and]
 cases ht:(e.Text==[])
 · rw[if_neg (by simp),eD (by simp; omega),Option.bind_some,eD (by simp; omega),if_pos (by rfl)]; rfl
 · rfl
theorem Ps(v:List UInt8):∀(l:List (List UInt8))(k:Nat),∃n,p_ v l k=some n
 |[],k=>⟨_,rfl⟩
 |x::l,k=>by
   unfold p_
   split
   · exact⟨_,rfl⟩
   · exact Ps v l _
theorem U3(s:List Int)(hs:s.length<4294967296)(line:List UInt8)(hl:line.length<=1048576):PF (kS s) kK {Kind:=0,Text:=[]} line (vB s line):=by
 obtain⟨h,r,has,e1,l1,l2⟩:=Je line [32] hl
 obtain⟨n,e2⟩:=Ps h [[],[109,101,116,104,111,100],[114,117,108,101],[97,100,100],[100,114,111,112],[119,97,105,116],[97,115,107]] 0
 have e2':ry [[],[109,101,116,104,111,100],[114,117,108,101],[97,100,100],[100,114,111,112],[119,97,105,116],[97,115,107]] h=some n:=e2
 refine⟨true,{Kind:=n,Text:=r},?_,?_⟩
 · unfold vB Bu
   rw[e1,Option.bind_some,Option.bind_some]
   dsimp only
   rw[e2',Option.bind_some,(OZ s hs _ (show r.length<=1048576 by omega)).1,Option.bind_some]
   cases hv:qL s {Kind:=n,Text:=r}
   · simp[kS,hv]
   · have hk:=Pq hv
     rw[Bool.not_true,cond_false,UF hk (show r.length<=1048576 by omega),Option.bind_some,Option.bind_some]
     cases hf:(kK {Kind:=n,Text:=r}==line)
     · simp
     · have hr:r≠[]:=by
         rintro rfl
         have:line=[]:=by
           rw[beq_iff_eq]at hf
           rw[←hf]; unfold kK; simp
         subst this
         have hh:h=[]:=List.eq_nil_of_length_eq_zero (by simpa using l1)
         subst hh
         have:n=0:=by
           have e3:=e2'
           unfold ry p_ at e3
           simpa using e3.symm
         have h1:=hk.1
         dsimp only at h1
         omega
       have ho:kS s {Kind:=n,Text:=r}=true:=by simp[kS,hv,hr]
       simp[ho]
 · intro g h1 h2
   obtain⟨g1,g2,g3,g4⟩:=xB h1
   obtain⟨-,-,w3,w4,-,-⟩:=C8 g2
   rw[←h2,g4]at e1 hl
   rw[Cu 32 [] _ _ w4 hl]at e1
   cases e1
   rw[w3]at e2'
   cases e2'
   exact⟨rfl,rfl⟩
theorem M_(s:List Int)(hs:s.length<4294967296)(line:List UInt8)(hl:line.length<=1048576):∀(m k:Nat),1<=k->k<=7->7-k<m->(∃f,kS s f=true/\kK f=line/\qc s line 20 m (k:Int)=some (f,true))\/(qc s line 20 m (k:Int)=some ({Kind:=0,Text:=[]},false)/\ ∀g,kS s g=true->kK g=line->g.Kind<(k:Int))
 |0,_,_,_,hm=>by omega
 |m+1,k,h1,h7,hm=>by
   unfold qc
   by_cases hk:k<=6
   · obtain⟨w1,-,-,w4,w5,w6⟩:=C8 (k:=(k:Int)) (by omega)
     have hx:(fB (k:Int)++[32]).length=(fB (k:Int)).length+1:=by simp
     have next:(∀g,kS s g=true->kK g=line->g.Kind≠(k:Int))->(∃f,kS s f=true/\kK f=line/\qc s line 20 m (IntKind.i64.wrap ((k:Int)+1))=some (f,true))\/(qc s line 20 m (IntKind.i64.wrap ((k:Int)+1))=some ({Kind:=0,Text:=[]},false)/\ ∀g,kS s g=true->kK g=line->g.Kind<(k:Int)):=fun hne=>by
       rw[dU (by omega) (by omega),show (k:Int)+1=((k+1:Nat):Int) by omega]
       rcases M_ s hs line hl m (k+1) (by omega) (by omega) (by omega)with h|⟨h,hg⟩
       · exact .inl h
       · refine .inr ⟨h,fun g a b=>?_⟩
         have:=hg g a b
         have:=hne g a b
         omega
     have pre:∀g,kS s g=true->kK g=line->g.Kind=(k:Int)->line=(fB (k:Int)++[32])++g.Text/\g.Text≠[]/\qL s g=true:=fun g a b c=>by
       obtain⟨g1,g2,g3,g4⟩:=xB a
       exact⟨by rw[←b,g4,c],g3,g1⟩
     rw[if_pos (by simp only[decide_eq_true_eq]; omega),w1,Option.bind_some,eD (by simp; omega),Option.bind_some]
     by_cases hlt:(fB (k:Int)++[32]).length<line.length
     · rw[decide_eq_true (by omega),cond_true,jd (by simp; simp at hlt; omega),Option.bind_some,Option.bind_some]
       dsimp only
       simp only[Int.toNat_natCast]
       cases ht:(line.take (fB (k:Int)++[32]).length==fB (k:Int)++[32])
       · rw[if_neg (by simp),Option.bind_some]
         refine next fun g a b c=>?_
         have:=(pre g a b c).1
         rw[this,List.take_left]at ht
         simp at ht
       · rw[beq_iff_eq]at ht
         have hd:line=(fB (k:Int)++[32])++line.drop (fB (k:Int)++[32]).length:=by
           conv=>lhs; rw[←List.take_append_drop (fB (k:Int)++[32]).length line,ht]
         rw[if_pos rfl,Option.bind_some,(OZ s hs _ (show (line.drop (fB (k:Int)++[32]).length).length<=1048576 by simp; omega)).2,Option.bind_some]
         cases hv:qL s {Kind:=(k:Int),Text:=line.drop (fB (k:Int)++[32]).length}
         · rw[if_neg (by simp),Option.bind_some]
           refine next fun g a b c=>?_
           obtain⟨p1,p2,p3⟩:=pre g a b c
           have hg:g.Text=line.drop (fB (k:Int)++[32]).length:=by rw[p1,List.drop_left]
           have:g={Kind:=(k:Int),Text:=line.drop (fB (k:Int)++[32]).length}:=by
             cases g; simp only at c hg; rw[c,hg]
           rw[this,hv]at p3
           cases p3
         · rw[if_pos rfl,Option.bind_some]
           have hne:line.drop (fB (k:Int)++[32]).length≠[]:=by
             intro e
             have:=congrArg List.length e
             simp at this hlt
             omega
           have ho:kS s {Kind:=(k:Int),Text:=line.drop (fB (k:Int)++[32]).length}=true:=by
             simp only[kS,hv,Bool.true_and,Bool.not_eq_true',beq_eq_false_iff_ne]; exact hne
           exact .inl ⟨_,ho,by rw[(xB ho).2.2.2]; exact hd.symm,rfl⟩
     · rw[decide_eq_false (by omega),cond_false,Option.bind_some]
       dsimp only
       rw[if_neg (by simp),Option.bind_some]
       refine next fun g a b c=>?_
       obtain⟨p1,p2,-⟩:=pre g a b c
       apply hlt
       have hz:0<g.Text.length:=List.length_pos_iff.2 p2
       have hy:line.length=(fB (k:Int)++[32]).length+g.Text.length:=by
         conv=>lhs; rw[p1]
         exact List.length_append
       omega
   · rw[if_neg (by simp only[decide_eq_true_eq]; omega)]
     refine .inr ⟨rfl,fun g a _=>?_⟩
     have:=(xB a).2.1
     omega
theorem Xn{s:List Int}{f g:Event}(hf:kS s f=true)(hg:kS s g=true)(hl:(kK f).length<=1048576)(h:kK f=kK g):f=g:=by
 obtain⟨-,f2,-,f4⟩:=xB hf
 obtain⟨-,g2,-,g4⟩:=xB hg
 have a:=C8 f2
 have b:=C8 g2
 have hl':=hl
 rw[h]at hl'
 rw[f4]at hl
 rw[g4]at hl'
 have c1:=Cu 32 [] (fB f.Kind) f.Text a.2.2.2.1 hl
 have c2:=Cu 32 [] (fB g.Kind) g.Text b.2.2.2.1 hl'
 have e:fB f.Kind++(32::[])++f.Text=fB g.Kind++(32::[])++g.Text:=by rw[←f4,←g4]; exact h
 rw[e,c2]at c1
 simp only[Option.some.injEq,Prod.mk.injEq,and_true]at c1
 have hk:f.Kind=g.Kind:=by
   have x:=a.2.2.1
   rw[←c1.1,b.2.2.1]at x
   exact (Option.some.inj x).symm
 cases f; cases g
 simp only at hk c1
 rw[hk,c1.2]
theorem U4(s:List Int)(hs:s.length<4294967296)(line:List UInt8)(hl:line.length<=1048576):PF (kS s) kK {Kind:=0,Text:=[]} line (vz 20 s line):=by
 rcases M_ s hs line hl (((6:Int)-1).toNat+2) 1 (by omega) (by omega) (by decide)with⟨f,h1,h2,h3⟩|⟨h3,hg⟩
 · refine⟨true,f,?_,fun g a b=>⟨rfl,Xn h1 a (by rw[h2]; exact hl) (h2.trans b.symm)⟩⟩
   rw[h1,h2]
   simpa[vz]using h3
 · refine⟨false,{Kind:=0,Text:=[]},by simpa[vz]using h3,fun g a b=>?_⟩
   have h4:=hg g a b
   have h5:=(xB a).2.1
   simp only[Int.natCast_one]at h4
   omega
theorem U5(s:List Int)(hs:s.length<4294967296)(line:List UInt8)(hl:line.length<=1048576):∃r,vB s line=some r/\vz 20 s line=some r:=by
 obtain⟨h1,r,h2⟩:=Cv (U3 s hs line hl) (U4 s hs line hl)
 exact⟨r,h2,h1.symm.trans h2⟩
def pY(s:List Int)(y:List UInt8):Event×Bool:=(vB s y).getD ({Kind:=0,Text:=[]},false)
theorem QI(s:List Int)(hs:s.length<4294967296)(y:List UInt8)(hl:y.length<=1048576):vB s y=some (pY s y)/\vz 20 s y=some (pY s y):=by
 obtain⟨r,h1,h2⟩:=U5 s hs y hl
 unfold pY
 rw[h1,h2]; exact⟨rfl,rfl⟩
def uR(s:List Int):List (List UInt8)->List Event->List Event×Bool
 |[],c=>(c,true)
 |x::r,c=>if (pY s x).2 then uR s r (c++[(pY s x).1])else ([],false)
def AO(s:List Int)(z:List UInt8):List (List UInt8)->List Event->List Event×Bool
 |[],c=>if z=[]then (c,true)else ([],false)
 |x::r,c=>if (pY s x).2 then AO s z r (c++[(pY s x).1])else ([],false)
theorem QJ(s:List Int)(z:List UInt8):∀(r:List (List UInt8))(c:List Event),AO s z r c=if z=[]then uR s r c else ([],false)
 |[],c=>rfl
 |x::r,c=>by
   unfold AO uR
   rw[QJ s z r]
   by_cases h:z=[]<;>simp[h]
theorem Qt(s:List Int):∀(r:List (List UInt8))(c:List Event),(uR s r c).1.length<=c.length+r.length
 |[],c=>by simp[uR]
 |x::r,c=>by
   unfold uR
   split
   · have:=Qt s r (c++[(pY s x).1])
     simp only[List.length_append,List.length_cons,List.length_nil]at this ⊢
     omega
   · simp
theorem MW(s:List Int)(hs:s.length<4294967296):∀(r:List (List UInt8))(k:Nat)(c:List Event),(∀y∈r,y.length<=1048576)->c.length+r.length<4294967296->wQ s r k c=some (uR s r c)
 |[],k,c,_,_=>rfl
 |x::r,k,c,h,hb=>by
   simp only[List.length_cons]at hb
   unfold wQ uR
   rw[(QI s hs x (h x (by simp))).1,Option.bind_some]
   cases hp:(pY s x).2
   · simp
   · rw[if_neg (by simp),if_pos rfl,app1 (by omega),Option.bind_some]
     exact MW s hs r (k+1) _ (fun y hy=>h y (by simp[hy])) (by simp; omega)
theorem MX(s:List Int)(hs:s.length<4294967296)(L:List (List UInt8))(z:List UInt8)(hL:L.length<4294967296)(hb:∀y∈L,y.length<=1048576):∀(r A:List (List UInt8))(m:Nat)(c:List Event),L=A++(r++[z])->r.length<m->c.length+r.length<4294967296->uV s L 20 m c (A.length:Int)=some (AO s z r c)
 |_,_,0,_,_,hm,_=>by omega
 |[],A,m+1,c,e,hm,hc=>by
   have e1:L.length=A.length+1:=by rw[e]; simp
   unfold uV AO
   rw[dU (n:=(A.length:Int)+1) (by omega) (by omega),if_neg (by simp; omega),dU (by omega) (by omega),show (L.length:Int)-1=(A.length:Int) by omega,jO,show L[A.length]?=some z by rw[e]; simp,Option.bind_some]
   by_cases hz:z=[]<;>simp[hz]
 |x::r,A,m+1,c,e,hm,hc=>by
   simp only[List.length_cons]at hc hm
   have e1:L.length=A.length+(r.length+2):=by rw[e]; simp
   unfold uV AO
   rw[dU (n:=(A.length:Int)+1) (by omega) (by omega),if_pos (by simp; omega),jO,show L[A.length]?=some x by rw[e]; simp,Option.bind_some,(QI s hs x (hb x (by rw[e]; simp))).2,Option.bind_some]
   cases hp:(pY s x).2
   · simp
   · rw[if_neg (by simp),if_pos rfl,app1 (by omega),Option.bind_some]
     have:=MX s hs L z hL hb r (A++[x]) m (c++[(pY s x).1]) (by rw[e]; simp) (by omega) (by simp; omega)
     rw[List.length_append,List.length_singleton,Int.natCast_add]at this
     exact this
theorem Uv(s:List Int)(hs:s.length<4294967296)(text:List UInt8)(hl:text.length<=1048576):∃r,yU s text=some r/\Bf 1048580 s text=some r/\r.1.length<=1048577:=by
 obtain⟨g1,g2⟩:=xJ 10 hl
 obtain⟨g3,-⟩:=zN 10 text []
 have e1:lK text [10]=some (bD 10 [] text):=by
   rw[(rU text [10] (by simp) hl).1,Pn]
 have e2:=rQ text 10 hl
 generalize bD 10 [] text=L at*
 obtain⟨r,z,rfl⟩:∃r z,L=r++[z]:=by
   rcases List.eq_nil_or_concat L with h|⟨r,z,h⟩
   · rw[h]at g3; simp at g3
   · exact⟨r,z,by simpa using h⟩
 simp only[List.length_append,List.length_cons,List.length_nil]at g2 g3
 have e3:=MX s hs (r++[z]) z (by simp; omega) g1 r [] 1048580 [] rfl (by omega) (by simp; omega)
 rw[QJ]at e3
 refine⟨if z=[]then uR s r []else ([],false),?_,?_,?_⟩
 rotate_left
 · unfold Bf
   rw[e2,Option.bind_some]; exact e3
 · split
   · have:=Qt s r []
     simp only[List.length_nil]at this; omega
   · simp
 · unfold yU
   rw[e1,Option.bind_some]
   have e4:IntKind.i64.wrap (((r++[z]).length:Int)-1)=(r.length:Int):=by
     rw[dU (by simp only[List.length_append,List.length_cons,List.length_nil]; omega) (by simp only[List.length_append,List.length_cons,List.length_nil]; omega)]; simp
   rw[e4,jO,show (r++[z])[r.length]?=some z by simp,Option.bind_some]
   by_cases hz:z=[]
   · rw[if_neg (by simp[hz]),jd (by simp; omega),Option.bind_some,Int.toNat_natCast,List.take_left,if_pos hz]
     exact MW s hs r 0 [] (fun y hy=>g1 y (by simp[hy])) (by simp; omega)
   · rw[if_pos (by simp[hz]),if_neg hz]
theorem Ud{s:List Int}{text:List UInt8}(ws:Gf Ju s){W:Prop}(_:W):∃fuel,EO fuel s text=some true:=by
 refine⟨1048580,?_⟩
 unfold EO
 by_cases h:(1048576:Int)<(s.length:Int)
 · rw[if_pos (by simpa using h)]
 rw[if_neg (by simpa using h)]
 have hs:s.length<4294967296:=by omega
 have hb:mY xN s:=W_ s hs
 by_cases h2:(1048576:Int)<(text.length:Int)
 · rw[if_pos (by simpa using h2)]
 rw[if_neg (by simpa using h2)]
 obtain⟨r,e1,e2,e3⟩:=Uv s hs text (by omega)
 have hm:iM (fun _=>1) s=s.length:=XE s
 have b1:mY I1 r.1:=⟨by omega,fun _ _=>trivial⟩
 have b2:iM rT r.1<=2*r.1.length:=Q8 r.1 fun _ _=>Nat.le_refl _
 rw[XM s hb,Option.bind_some,e2,Option.bind_some,Option.bind_some,e1,Option.bind_some,Pj,Option.bind_some]
 simp only[Bool.not_true,cond_false,beq_self_eq_true,Option.bind_some,Bool.false_eq_true,if_false,XN]
 rw[WK s 1 hb (by omega) (by omega),Option.bind_some]
 dsimp only
 rw[decide_eq_false (by omega),cond_false,Option.bind_some,if_neg (by simp),V4 _ 1 b1 (by omega) (by omega),Option.bind_some]
 dsimp only
 rw[V5 _ 1 b1 (by omega) (by omega),Option.bind_some,if_neg (by simp; omega),if_neg (by simp),Option.bind_some,e1,Option.bind_some,Pj,Option.bind_some]
 simp only[Bool.not_true,cond_false,beq_self_eq_true,Option.bind_some,Bool.false_eq_true,if_false]
 rw[if_neg (by simp; omega),if_neg (by simp)]
end Go.Proofs.YtcjkjmnbdlnojaaGreatDoor
/-
 The row FnExactDecodeEvents.
-/
set_option maxRecDepth 100000
namespace Go.Proofs.YtcjkjmnbdlnojaaGreatDoor.fnExactDecodeEvents
open Go Go.Fw Go.ChangeShapes Go.WideShapes Go.ChangeAt Go.RowKit
theorem own:ownKnob Tryz.prog.godebug=none:=by kernel_rfl
theorem Xo(os:Os)(args:Array Value):laidMetH Tryz.prog Rows.fnExactDecodeEventsRow.laid ((World.laidAll Tryz.prog os Rows.fnExactDecodeEventsRow.laid).forCall (fun _ _=>0) ⟨#[],args,[]⟩).memory:=by
 rw[MakeChecks.laidMetH_plain _ _ _ (by kernel_rfl)]
 exact laidMet_laidAll _ (by kernel_rfl) (by kernel_rfl)
theorem ady:Tryz.prog.globalNamed "internal/strconv.uint64pow10" =some 5:=by kernel_rfl
theorem aba:(Tryz.prog.globals[5]?).map (·.type)=some 311:=by kernel_rfl
theorem abb:Tryz.prog.globalNamed "strconv.ErrRange" =some 2:=by kernel_rfl
theorem abd:Tryz.prog.globalNamed "strconv.ErrSyntax" =some 1:=by kernel_rfl
theorem Qu:"*" ++ "errors.errorString" = "*errors.errorString":=by decide
theorem QK(u:TypeId)(h:Tryz.prog.typeName? 3 u=some "*errors.errorString"):u=286:=
 typeName_ptr_named (nm:="errors.errorString") (by rw[Qu]; kernel_rfl) (by kernel_rfl) (by decide) u (by rw[Qu]; exact h)
theorem laidOut:laidOutB Tryz.prog=true:=by kernel_rfl
set_option maxRecDepth 100000 in
theorem lifted(os:Os)(started:os.Started)(H:Type)(enc:TypeId×Value->H):
   ReturnsInHanded {} Tryz.checked os 5 .any (fun w args=>(Rows.fnExactDecodeEventsSpec.pre enc Tryz.prog Tryz.f5 [] false w args/\laidMetH Tryz.prog Rows.fnExactDecodeEventsRow.laid w)/\sizedMet enc Tryz.prog Tryz.f5 (OpenSpec.ofChange Rows.fnExactDecodeEventsSpec) false w args) (Rows.fnExactDecodeEventsSpec.post enc Tryz.prog Tryz.f5 false true false false):=by
 refine Uj (C:=Tryz.checked) (X:=fun w _=>laidMetH Tryz.prog Rows.fnExactDecodeEventsRow.laid w) (fun _ _ _ hh h=>h.of_heap hh) own started (by kernel_rfl) Tryz.func5
   (ChangeSpec.witness_shaped (enc:=enc) (C:=Tryz.checked) (os:=os) (X:=fun w _=>laidMetH Tryz.prog Rows.fnExactDecodeEventsRow.laid w) false (World.laidAll Tryz.prog os Rows.fnExactDecodeEventsRow.laid) #[.slice none 0 0,.string ⟨#[]⟩] 16 rfl (World.shaped_of_ZipB (by kernel_rfl) (by kernel_rfl)) (by kernel_rfl) (by kernel_rfl) (by kernel_rfl) (Xo os _)) ?_
 intro W base args ds gs before hval hW _ hwt hL hsh _
 rw[MakeChecks.laidMetH_plain _ _ _ (by kernel_rfl)]at hL
 have htab:Lib.TabIs Tryz.prog W "internal/strconv.uint64pow10" .u64 Lib.pow10Tab:=Lib.tabIs_of_head ady aba (show Tryz.prog.underlying 311=some (.array 20 256) by kernel_rfl) (show Tryz.prog.underlying 256=some (.int .u64) by kernel_rfl) (by kernel_rfl) (by kernel_rfl) (laidMet.tail (laidMet.tail hL))
 have adz:∃m,W.cell? ⟨0,0,none⟩=some (.int .i64 m):=Go.Proofs.cell_of_shapedOpen_int (t:=3) (zero:=#[.int .i64 0]) hsh (by decide+kernel) (by kernel_rfl) rfl (by kernel_rfl) (by kernel_rfl) (by kernel_rfl)
 have WP:∃tp p,W.var? Tryz.prog "strconv.ErrRange" =some #[.iface tp p]:=by
   obtain⟨a,_,h,-⟩:=laid_sentinel (tp:=286) (te:=288) (ts:=9) (laidMet.tail (laidMet.tail (laidMet.tail (laidMet.tail hL)))) abb (by kernel_rfl) (show Tryz.prog.underlying 128=some (.interface (Tryz.prog.methodsAt 128)) by kernel_rfl) QK (by kernel_rfl) Tryz.underlying288 rfl rfl (by kernel_rfl) (by kernel_rfl) (by kernel_rfl)
   exact⟨_,_,h⟩
 have Wy:∃tp p,W.var? Tryz.prog "strconv.ErrSyntax" =some #[.iface tp p]:=by
   obtain⟨a,_,h,-⟩:=laid_sentinel (tp:=286) (te:=288) (ts:=9) (laidMet.tail (laidMet.tail (laidMet.tail (laidMet.tail (laidMet.tail hL))))) abd (by kernel_rfl) (show Tryz.prog.underlying 128=some (.interface (Tryz.prog.methodsAt 128)) by kernel_rfl) QK (by kernel_rfl) Tryz.underlying288 rfl rfl (by kernel_rfl) (by kernel_rfl) (by kernel_rfl)
   exact⟨_,_,h⟩
 have hW':=hW
 obtain⟨p,q,MN,hV,rfl,hfz,hnd⟩:=hW
 obtain⟨rfl,rfl⟩:=trodVars_none hV
 have hA:DataW.TrodAll enc Tryz.prog W 0 (fun _=>true) true [22,9] args.toList ds p:=MN
 have hw:∀n∈DataW.weightsEach Tryz.prog [22,9] ds,n<=reachBytes:=fun n hn=>by
   have:=List.all_eq_true.1 hwt n (by rw[List.append_nil]; exact hn)
   simpa using this
 obtain⟨v0,vs0,d0,ds0,p0,ρ0,H0,av0,a0,e0,rfl,MN,hw0,r0,f0,u0,i0,rv0,q0,w0⟩:=P_ hA hw (lC.slice (s:=1) (by kernel_rfl) (by kernel_rfl) (by decide) (Nat.lt_of_lt_of_le (by decide) (Nat.le_of_eq (show 8=_ from by kernel_rfl))) (lC.int (by kernel_rfl))) (fun H v a h=>by obtain⟨_,_,rfl⟩:=b_.len h; kernel_rfl) (r:=.any) (base:=base) (fun v h=>hval 0 22 v rfl (Qy h)) (Rel.nil _ W ⟨htab,Wy,WP,adz⟩) lw.nil
 obtain⟨v1,vs1,d1,ds1,p1,ρ1,H1,av1,a1,e1,rfl,hA1,hw1,r1,f1,u1,i1,rv1,q1,w1⟩:=P_ MN hw0 (lC.str (by kernel_rfl)) (fun H v a h=>by subst h; kernel_rfl) (r:=.any) (base:=base) (fun v h=>hval 1 9 v rfl (Qy (by rw[e0]; exact h))) r0 f0
 obtain⟨en,rfl⟩:=WZ hA1
 subst en
 obtain⟨Tw,Tx,rfl⟩:=b_.len q0
 obtain rfl:av1=(sv a1):=q1
 have hargs:aV ρ1 [(.slice Tw a0.length Tx),(sv a1)] args.toList:=by
   rw[e0,e1]
   exact (.cons _ _ _ _ (rv0.up u1) (.cons _ _ _ _ rv1 .nil))
 obtain⟨fuel,adA⟩:=Ud w0 w1
 refine ((@Ub fuel a0 ⟨Tw,_,Tx⟩ a1 true adA) H1 [] (Ctx.dup (Ctx.start _) (dA.up q0 i1) rfl) ρ1 W args r1 hargs).mono ?_
 rintro e w' ⟨v,r,ρ',H',rfl,h1,h2,h3,x,h5,-⟩
 have h6:r= .bool true:=h5
 subst h6
 refine⟨_,rfl,?_⟩
 rw[h1.bool_inv]
 refine WU hW' rfl laidOut (by kernel_rfl) rfl (by kernel_rfl) (fun d=>?_) (h3.below f1)
 by_cases hd:d=[d0,d1]
 · subst hd; exact .inl ⟨rfl,rfl,rfl⟩
 · exact .inr (by simpa using hd)
theorem named:Tryz.pinned.checked.prog.funcNamed Rows.fnExactDecodeEventsRow.func=some 5:=by kernel_rfl
set_option maxHeartbeats 10000000 in
theorem closed:joinedFacts Tryz.pinned.checked.prog 5 Tryz.f5 Rows.fnExactDecodeEventsSpec Rows.fnExactDecodeEventsRow=true:=by
 simp only[joinedFacts,Bool.and_eq_true]
 repeat' refine And.intro ?_ ?_
 all_goals (as_aux_lemma=>kernel_rfl)
theorem over:Rows.fnExactDecodeEventsRow.holds Tryz.pinned (OpenSpec.ofChange Rows.fnExactDecodeEventsSpec):=
 OpenClaim.holds_of_wide 5 Tryz.f5 rfl rfl rfl rfl rfl rfl rfl ⟨rfl,rfl,rfl,rfl,rfl⟩ rfl rfl rfl rfl rfl named Tryz.func5 closed
   (of_decide_eq_true (by kernel_rfl)) (by unfold Func.isWrapper; first|(rw[if_pos (by decide+kernel)]; kernel_rfl)|(rw[if_neg (by decide+kernel)]; exact⟨rfl,rfl⟩))
   (fun os started H enc _=>lifted os started H enc)
theorem proved:Rows.FnExactDecodeEventsCardSaid:=
 Claim7.holds_tied_plain_at .later [] [.data,.data,.data,.data,.sentinel,.sentinel,.pinned] true (true,"f5f29142461482cda904e2be373e60663bd88d19b28a0364700a1047fcdb8440") true
   over (fun _ h=>by cases h) (by as_aux_lemma=>kernel_rfl) (fun _ h=>by cases h) fnExactDecodeEvents_row_tie rfl ⟨rfl,rfl⟩ (by as_aux_lemma=>kernel_rfl) rfl
   (fun f fn hf hfn=>by
     obtain rfl:f=5:=Option.some.inj ((show Tryz.prog.funcNamed "loop.example/g01989/laws.FnExactDecodeEvents" =some 5 by as_aux_lemma=>kernel_rfl).symm.trans hf) |>.symm
     obtain rfl:fn=Tryz.f5:=(Option.some.inj (Tryz.func5.symm.trans hfn)).symm
     exact⟨by as_aux_lemma=>kernel_rfl,fun j t ht=>by
       have hm:t∈[22,9]:=by simpa using (Array.mem_of_getElem? ht:t∈(#[22,9]:Array TypeId))
       have hall:([22,9].all fun u=>!Tryz.prog.wantsStandIn u)=true:=by as_aux_lemma=>kernel_rfl
       exact (show Tryz.prog.wantsStandIn t=false by simpa using List.all_eq_true.1 hall t hm)⟩)
   (by as_aux_lemma=>kernel_rfl)
end Go.Proofs.YtcjkjmnbdlnojaaGreatDoor.fnExactDecodeEvents
