/-
  FnViews: the plain law and the row: for all arguments.
-/
import Derived.Test.YtmmlepaliceaiaaGreatDoorFnViewsG1
import Derived.Test.YtmmlepaliceaiaaGreatDoorFc
import Derived.Test.YtmmlepaliceaiaaGreatDoorRows
import Derived.Test.YtmmlepaliceaiaaGreatDoorTie
import Derived.Test.YtmmlepaliceaiaaGreatDoorCards
import Derived.LaidMore
import Derived.OpenShut
import Derived.Stop.Joined
import Derived.Stop.LaidErr
import Derived.SevenTiedAt
import Derived.Lib.LaidTab
import Derived.Lay
import Derived.WalkKit
import Derived.KernelRfl
/-
 Plain laws of the helpers. Written by a program.
-/
set_option maxRecDepth 100000
set_option maxHeartbeats 4000000
set_option linter.unusedVariables false
namespace Go.Proofs.YtmmlepaliceaiaaGreatDoor
open Go Go.Fw
def zT(a:Method):Prop:=(fB Ay) a.Inputs
def mR(a:ak):Prop:=(fB Ay) a.Values
def jr(a:aL):Prop:=(fB Ay) a.Values
end Go.Proofs.YtmmlepaliceaiaaGreatDoor
/-
 Plain laws.
-/
set_option maxRecDepth 100000
set_option linter.unusedVariables false
namespace Go.Proofs.YtmmlepaliceaiaaGreatDoor
open Go Go.Fw
theorem NU(a b:List Int):zY a b=some (gy (fun x y=>x==y) a b):=
 w_ (L:=qW) (f:=fun x y=>some (x==y)) (fun _ _=>rfl) (fun _ _=>rfl) (fun b x r k y h=>by rw[qW,jv,h]; rfl) a b (fun _ _ _ _=>rfl)
theorem LW(a b:List Int):zm a b=some (gy (fun x y=>x==y) a b):=
 w_ (L:=qy) (f:=fun x y=>some (x==y)) (fun _ _=>rfl) (fun _ _=>rfl) (fun b x r k y h=>by rw[qy,jv,h]; rfl) a b (fun _ _ _ _=>rfl)
def mY:List Int->List Int->Bool:=gy (fun x y=>x==y)
def nS(a b:aL):Int:=if l8 a.Rel b.Rel !=0 then l8 a.Rel b.Rel else cmpL a.Values b.Values
theorem FR(a b:aL)(ha:a.Values.length<4294967296):∀(m k:Nat),k<=a.Values.length->k<=b.Values.length->a.Values.length<k+m->oZ a b m k=some (cmpL (a.Values.drop k) (b.Values.drop k))
 |0,k,h1,_,h2=>by omega
 |m+1,k,h1,h1',h2=>by
   rw[oZ]
   by_cases h:k<a.Values.length/\k<b.Values.length
   · rw[if_pos (by simp[h.1,h.2])]
     simp only[jv,List.getElem?_eq_getElem h.1,List.getElem?_eq_getElem h.2,Option.bind_some]
     rw[List.drop_eq_getElem_cons h.1,List.drop_eq_getElem_cons h.2,cmpL,l8]
     by_cases e1:a.Values[k]<b.Values[k]
     · simp[e1]
     · rw[if_neg (by simpa using e1)]
       by_cases e2:b.Values[k]<a.Values[k]
       · simp[e1,e2]
       · rw[if_neg (by simpa using e2),if_neg e1,if_neg e2,show ((k:Int)+1)=((k+1:Nat):Int)from rfl,Pj (by omega),FR a b ha m (k+1) h.1 h.2 (by omega)]
         simp
   · rw[if_neg (by simp only[Bool.and_eq_true,decide_eq_true_eq]; omega)]
     by_cases h3:k<b.Values.length
     · have:k=a.Values.length:=by omega
       subst this
       rw[if_pos (by simp; omega),List.drop_of_length_le (Nat.le_refl _),List.drop_eq_getElem_cons h3]; rfl
     · rw[List.drop_of_length_le (show b.Values.length<=k by omega),if_neg (by simp; omega)]
       by_cases h4:k<a.Values.length
       · rw[if_pos (by simp; omega),List.drop_eq_getElem_cons h4]; rfl
       · rw[if_neg (by simp; omega),List.drop_of_length_le (by omega)]; rfl
theorem F5(a b:aL)(ha:a.Values.length<4294967296):t_ a b=some (nS a b):=by
 unfold t_ nS l8
 by_cases h:a.Rel=b.Rel
 · rw[if_neg (by simp[h])]
   have:=FR a b ha (((a.Values.length:Int)-0).toNat+2) 0 (by omega) (by omega) (by omega)
   rw[show oZ a b (((a.Values.length:Int)-0).toNat+2) 0=_ from this]
   simp[h]
 · rw[if_pos (by simpa using h)]
   by_cases h2:a.Rel<b.Rel
   · simp[h2]
   · have:b.Rel<a.Rel:=by omega
     simp[h2,this]
def kR(a b:ak):Bool:=a.Method==b.Method&&mY a.Values b.Values
theorem NV(a b:ak):uH a b=some (kR a b):=by
 simp only[uH,NU,kR,mY,Option.bind_some]
 generalize (a.Method==b.Method)=b1
 cases b1<;>rfl
theorem ML(a b:ak):uk a b=some (kR a b):=by
 simp only[uk,LW,kR,mY,Option.bind_some]
 generalize (a.Method==b.Method)=b1
 cases b1<;>rfl
theorem BM(a b:List ak):uf a b=some (gy kR a b):=
 w_ (L:=qA) (f:=uH) (fun _ _=>rfl) (fun _ _=>rfl) (fun b x r k y h=>by rw[qA,jv,h]; rfl) a b (fun x _ y _=>NV x y)
theorem Mj(a b:List ak):wm a b=some (gy kR a b):=by
 have:y_ a b=some (gy kR a b):=
   w_ (L:=qx) (f:=uk) (fun _ _=>rfl) (fun _ _=>rfl) (fun b x r k y h=>by rw[qx,jv,h]; rfl) a b (fun x _ y _=>ML x y)
 rw[wm,this]; rfl
theorem LX(a:List Int)(h:a.length<4294967296):vV a=some a:=by simp[vV,Ad h]
theorem MM(a:ak)(h:mR a):wB a=some a:=by simp[wB,LX _ h.1]
theorem Ml(l:List ak)(h:fB mR l):zt l=some l:=
 Pm (L:=qz) (fun _ _=>rfl) (fun x r k c hx hc=>by rw[qz,MM x hx,Option.bind_some,app1 hc,Option.bind_some]) l h
theorem Nb(m:Int)(v:List Int)(h:v.length<4294967296):wL m v=some {Method:=m,Values:=v}:=by simp[wL,Ad h]
def qg(l:List Method)(rel:Int)(a:ak):Bool:=decide (0<=a.Method)&&decide (a.Method<=(l.length:Int)-1)&&((l[a.Method.toNat]?.map (·.Rel))==some rel)
theorem Jl{l:List Method}{m:Int}(h:(decide (0<=m)&&decide (m<=(l.length:Int)-1))=true):∃x,ix l m=some x/\l[m.toNat]?=some x:=by
 simp at h
 have hlt:m.toNat<l.length:=by omega
 exact⟨l[m.toNat],by unfold ix; rw[if_pos h.1,List.getElem?_eq_getElem hlt],List.getElem?_eq_getElem hlt⟩
theorem Nc(a:ak)(l:List Method)(rel:Int)(hl:l.length<4294967296):lM a l rel=some (!qg l rel a):=by
 simp only[lM,nR,Option.bind_some,qg]
 rw[dD (by omega) (by omega)]
 cases h:(decide (0<=a.Method)&&decide (a.Method<=(l.length:Int)-1))
 · simp
 · obtain⟨x,h1,h2⟩:=Jl h
   rw[h1,h2]
   simp[bne]
def ni(l:List Method)(log:List ak)(rel:Int):List ak:=log.filter (qg l rel)
theorem zL(l:List Method)(log:List ak)(rel:Int)(hl:l.length<4294967296)(hb:fB mR log):pO l log rel=some (ni l log rel):=by
 rw[pO,Ml log hb,Option.bind_some,za,Jb (p:=fun a=>!qg l rel a) (fun x _=>Nc x l rel hl)]
 simp[ni]
theorem zM(l:List Method)(log:List ak)(rel:Int)(hl:l.length<4294967296)(hb:fB mR log):pQ l log rel=some (ni l log rel):=by
 have:=G9 (L:=qV l rel) (p:=qg l rel) (P:=mR) (fun _ _=>rfl) (fun x r k c hx hc=>by
   rw[qV]
   simp only[lU,Option.bind_some,Nb _ _ hx.1,app1 hc]
   rw[dD (by omega) (by omega)]
   unfold qg
   cases h:(decide (0<=x.Method)&&decide (x.Method<=(l.length:Int)-1))
   · simp
   · obtain⟨y,h1,h2⟩:=Jl h
     rw[h1,h2]
     by_cases e:y.Rel=rel<;>simp[e]) log 0 [] hb.2 (by simpa using hb.1)
 simpa[pQ,ni]using this
def vD(n:Int):Bool:=decide (1<=n)&&decide (n<=3)
def rE(s:List Int):Bool:=vD (s.length:Int)&&s.all vD
theorem BZ(s:List Int):rf s=some (rE s):=by
 unfold rf
 rw[IC (L:=qK s) (f:=fun n=>lU n 1 3) (p:=vD) (e:=vD (s.length:Int)) (fun k=>by simp[qK,lU,vD]) (fun x r k=>rfl) s 0 (fun x _=>rfl),rE,Bool.and_comm]
theorem Ih(x lo hi:Int):lU x lo hi=some (iT lo hi x):=rfl
theorem NW(x lo hi:Int):nR x lo hi=some (iT lo hi x):=rfl
theorem LF(l:List Int):vT l=some (l.any fun x=>!iT 0 9 x):=by
 unfold vT zb
 rw[Cj (L:=tV) (f:=fun x=>zB x) (p:=fun x=>!iT 0 9 x) (fun k=>rfl) (fun x r k=>rfl) l 0 (fun x hx=>rfl),Option.bind_some,I_]
theorem M0(l:List Int):wF l=some (l.all (iT 0 9)):=by
 simp only[wF,LF,Option.bind_some,List.all_eq_not_any_not]
theorem wO(r:Int)(v:List Int)(h:v.length<4294967296):pV r v=some {Rel:=r,Values:=v}:=by simp[pV,Ad h]
theorem Ii(x y:Int):l8 y x= -l8 x y:=by
 unfold l8
 repeat' split
 all_goals omega
theorem Ij:∀(a b:List Int),cmpL b a= -cmpL a b
 |[],[]=>rfl
 |[],_::_=>rfl
 |_::_,[]=>rfl
 |x::a,y::b=>by
   simp only[cmpL,Ii x y,Ij a b]
   by_cases h:l8 x y=0
   · simp[h]
   · rw[if_pos (by simp only[bne_iff_ne]; omega),if_pos (by simpa using h)]
theorem Nf(a b:aL):nS b a= -nS a b:=by
 unfold nS
 rw[Ii a.Rel b.Rel,Ij a.Values b.Values]
 by_cases h:l8 a.Rel b.Rel=0
 · simp[h]
 · rw[if_pos (by simp only[bne_iff_ne]; omega),if_pos (by simpa using h)]
def AJ(l:List aL)(f:aL):Bool:=l.any fun x=>nS x f==0
theorem NB(l:List aL)(f:aL)(h:fB jr l):wP l f=some (AJ l f):=by
 have hx:∀x∈l,x.Values.length<4294967296:=fun x hx=>(h.2 x hx).1
 clear h
 unfold wP
 generalize 0=k
 induction l generalizing k with
 |nil=>rfl
 |cons x l ih=>
   unfold uj
   rw[F5 x f (hx x (by simp)),Option.bind_some]
   by_cases h:nS x f=0
   · rw[if_pos (by simpa using h)]; simp[AJ,h]
   · rw[if_neg (by simpa using h),ih (fun y hy=>hx y (by simp[hy]))]; simp[AJ,h]
def nk(f:aL):List aL->List aL
 |[]=>[f]
 |x::l=>if 0<nS x f then f::x::l else x::nk f l
theorem Ik(f:aL):∀l:List aL,(nk f l).length=l.length+1
 |[]=>rfl
 |x::l=>by
   unfold nk
   split
   · rfl
   · simp[Ik f l]
theorem Il{f y:aL}:∀{l:List aL},y∈nk f l->y=f\/y∈l
 |[],h=>by simp[nk]at h; exact .inl h
 |x::l,h=>by
   unfold nk at h
   split at h
   · simp at h; simp[h]
   · rcases List.mem_cons.1 h with h|h
     · simp[h]
     · rcases Il h with h|h<;>simp[h]
def rM(l:List aL)(f:aL):List aL:=if AJ l f then l else nk f l
theorem Im(l:List aL)(f:aL):(rM l f).length<=l.length+1:=by
 unfold rM
 split
 · omega
 · rw[Ik]; exact Nat.le_refl _
theorem OZ{l:List aL}{f y:aL}(h:y∈rM l f):y=f\/y∈l:=by
 unfold rM at h
 split at h
 · exact .inr h
 · exact Il h
theorem BN(f:aL):∀(l:List aL)(k:Nat)(c:List aL),(∀x∈l,jr x)->c.length+l.length<4294967296->lK f l k c true=some (c++l)
 |[],k,c,_,_=>by simp[lK]
 |x::l,k,c,hx,h=>by
   simp only[List.length_cons]at h
   unfold lK
   rw[Bool.not_true,cond_false,Option.bind_some]
   dsimp only
   rw[if_neg (by simp),wO _ _ (hx x (by simp)).1,Option.bind_some,jU (by simp; omega),Option.bind_some,Option.bind_some]
   dsimp only
   rw[BN f l _ _ (fun y hy=>hx y (by simp[hy])) (by simp; omega)]
   simp
theorem Gl(f:aL)(hf:jr f):∀(l:List aL)(k:Nat)(c:List aL)(b:Bool),(∀x∈l,jr x)->c.length+l.length+1<4294967296->lK f l k c b=some (if b then c++l else c++nk f l)
 |[],k,c,b,_,h=>by
   unfold lK
   cases b
   · rw[if_pos (show (!false)=true from rfl),wO _ _ hf.1,Option.bind_some,jU (by simp at h ⊢; omega),if_neg (by simp)]; rfl
   · simp
 |x::l,k,c,b,hx,h=>by
   simp only[List.length_cons]at h
   have hx1:=hx x (by simp)
   have hx2:∀y∈l,jr y:=fun y hy=>hx y (by simp[hy])
   unfold lK
   cases b
   · rw[Bool.not_false,cond_true,F5 f x hf.1,Option.bind_some,Option.bind_some]
     dsimp only
     have ha:=Nf f x
     by_cases hc:0<nS x f
     · rw[if_pos (by simp only[decide_eq_true_eq]; omega),wO _ _ hf.1,Option.bind_some,jU (by simp; omega),Option.bind_some,wO _ _ hx1.1,Option.bind_some,jU (by simp; omega),Option.bind_some,Option.bind_some]
       dsimp only
       rw[BN f l _ _ hx2 (by simp; omega),if_neg (by simp)]
       simp[nk,hc]
     · rw[if_neg (by simp only[decide_eq_true_eq]; omega),wO _ _ hx1.1,Option.bind_some,jU (by simp; omega),Option.bind_some,Option.bind_some]
       dsimp only
       rw[Gl f hf l _ _ _ hx2 (by simp; omega),if_neg (by simp),if_neg (by simp)]
       simp[nk,hc]
   · rw[if_pos rfl]
     exact BN f (x::l) k c hx (by simp; omega)
theorem NC(l:List aL)(f:aL)(hb:fB jr l)(hl:l.length+1<4294967296)(hf:jr f):wQ l f=some (rM l f):=by
 unfold wQ rM
 rw[NB l f hb,Option.bind_some,Gl f hf l 0 [] _ hb.2 (by simpa using hl),List.nil_append,List.nil_append]
def dY(n:Int):List UInt8:=[UInt8.ofNat (48+n.toNat)]
theorem BU{K:Nat}(hK:2<=K)(n:Int)(h:0<=n/\n<=9):kr K n=some (dY n):=by
 obtain⟨k,rfl⟩:∃k,K=k+2:=⟨K-2,by omega⟩
 obtain⟨h0,h1⟩:=h
 have:n=0\/n=1\/n=2\/n=3\/n=4\/n=5\/n=6\/n=7\/n=8\/n=9:=by omega
 rcases this with rfl|rfl|rfl|rfl|rfl|rfl|rfl|rfl|rfl|rfl<;>rfl
theorem Pz(n:Int)(h:0<=n/\n<=9):Lib.itoa n=dY n:=by
 unfold Lib.itoa dY
 rw[if_neg (by omega),Lib.decDigits,dif_pos (by omega)]
theorem Gr(n:Int)(h:0<=n/\n<=9):nN n=some (dY n):=by
 rw[nN,vY,if_pos (by omega),Pz n h]; rfl
theorem Ov(x y:List UInt8)(l:List (List UInt8))(sep:List UInt8):Lib.join (x::y::l) sep=x++(sep++Lib.join (y::l) sep):=by
 simp[Lib.join,List.intercalate,List.intersperse]
theorem join_one(x:List UInt8)(sep:List UInt8):Lib.join [x] sep=x:=by
 simp[Lib.join,List.intercalate,List.intersperse]
def lg(sep:List UInt8)(l:List (List UInt8)):List UInt8:=l.flatMap fun x=>sep++x
theorem pI(x:List UInt8)(sep:List UInt8):∀l:List (List UInt8),Lib.join (x::l) sep=x++lg sep l
 |[]=>by rw[join_one]; simp[lg]
 |y::l=>by rw[Ov,pI y sep l]; simp[lg]
theorem wT(sep:List UInt8)(n:Nat):∀l:List (List UInt8),(∀x∈l,x.length<=n)->(lg sep l).length<=(sep.length+n)*l.length
 |[],_=>by simp[lg]
 |x::l,h=>by
   have h1:=wT sep n l fun y hy=>h y (by simp[hy])
   have h2:=h x (by simp)
   simp only[lg,List.flatMap_cons,List.length_append,List.length_cons,Nat.mul_succ]at*
   omega
theorem Gs{K:Nat}(hK:2<=K):∀(l:List Int)(k:Nat)(c:List UInt8),0<k->(∀x∈l,0<=x/\x<=9)->c.length+2*l.length<4294967296->nO K l k c=some (c++lg [44] (l.map dY))
 |[],k,c,_,_,_=>by simp[nO,lg]
 |x::l,k,c,hk,h,hl=>by
   simp only[List.length_cons]at hl
   have e1:bM c [44]=some (c++[44]):=by unfold bM; rw[if_pos (by simp; omega)]
   have e2:bM (c++[44]) (dY x)=some (c++[44]++dY x):=by unfold bM; rw[if_pos (by simp[dY]; omega)]
   unfold nO
   rw[if_pos (by simpa using hk),e1,Option.bind_some,BU hK x (h x (by simp)),Option.bind_some,e2,Option.bind_some,Option.bind_some]
   dsimp only
   rw[Gs hK l _ _ (by omega) (fun y hy=>h y (by simp[hy])) (by simp[dY]; omega)]
   simp[lg]
theorem NY{K:Nat}(hK:2<=K)(l:List Int)(h:∀x∈l,0<=x/\x<=9)(hl:l.length<=3):wY K l=some (Lib.join (l.map dY) [44]):=by
 unfold wY
 cases l with
 |nil=>rfl
 |cons x l=>
   simp only[List.length_cons]at hl
   have e2:bM [] (dY x)=some (dY x):=by unfold bM; rw[if_pos (by simp[dY])]; rfl
   unfold nO
   rw[if_neg (by simp),BU hK x (h x (by simp)),Option.bind_some,e2,Option.bind_some,Option.bind_some]
   dsimp only
   rw[Gs hK l _ _ (by omega) (fun y hy=>h y (by simp[hy])) (by simp[dY]; omega),List.map_cons,pI]
theorem Gt:∀(l:List Int)(k:Nat)(c:List (List UInt8)),(∀x∈l,0<=x/\x<=9)->c.length+l.length<=3->(∀x∈c,x.length<=1)->pq [44] l k c=some (Lib.join (c++l.map dY) [44])
 |[],k,c,_,hl,hc=>by
   have hj:(Lib.join c [44]).length<=10:=by
     cases c with
     |nil=>simp[Lib.join,List.intercalate]
     |cons x c=>
       rw[pI,List.length_append]
       have h1:=wT [44] 1 c fun y hy=>hc y (by simp[hy])
       have h2:=hc x (by simp)
       simp only[List.length_cons,List.length_nil]at h1 hl
       omega
   simp only[List.length_nil,Nat.add_zero]at hl
   unfold pq
   rw[ug,if_pos ⟨by omega,by omega⟩]
   simp
 |x::l,k,c,h,hl,hc=>by
   simp only[List.length_cons]at hl
   unfold pq
   rw[Gr x (h x (by simp)),Option.bind_some,jU (by simp; omega),Option.bind_some,Gt l _ _ (fun y hy=>h y (by simp[hy])) (by simp; omega) (fun y hy=>by
     rcases List.mem_append.1 hy with hy|hy
     · exact hc y hy
     · rw[List.mem_singleton.1 hy]; simp[dY])]
   simp
theorem NZ(l:List Int)(h:∀x∈l,0<=x/\x<=9)(hl:l.length<=3):wX l [44]=some (Lib.join (l.map dY) [44]):=by
 rw[wX,Gt l 0 [] h (by simpa using hl) (by simp)]; rfl
def kX(a:ak):Bool:=iT 0 4 a.Method&&(!decide ((3:Int)<(a.Values.length:Int))&&a.Values.all (iT 0 9))
def cZ(a:ak):List UInt8:=if kX a then [109]++dY a.Method++[40]++Lib.join (a.Values.map dY) [44]++[41]else []
theorem Ct(l:List Int)(hl:l.length<=3):(Lib.join (l.map dY) [44]).length<=7:=by
 cases l with
 |nil=>simp[Lib.join,List.intercalate]
 |cons x l=>
   rw[List.map_cons,pI,List.length_append]
   have h1:=wT [44] 1 (l.map dY) fun y hy=>by
     obtain⟨z,-,rfl⟩:=List.mem_map.1 hy
     simp[dY]
   simp only[List.length_cons,List.length_nil,List.length_map]at h1 hl
   have:(dY x).length=1:=rfl
   omega
theorem He{a:ak}(h:kX a=true):(0<=a.Method/\a.Method<=4)/\a.Values.length<=3/\ ∀x∈a.Values,0<=x/\x<=9:=by
 simp only[kX,Bool.and_eq_true,Bool.not_eq_true',decide_eq_false_iff_not,List.all_eq_true,iT,decide_eq_true_eq]at h
 exact⟨h.1,by omega,h.2.2⟩
theorem Hw{m v:List UInt8}(hm:m.length<=1)(hv:v.length<=7):(((bM [109] m).bind fun x=>(bM x [40]).bind fun y=>(bM y v).bind fun z=>bM z [41]):Option (List UInt8))=some ([109]++m++[40]++v++[41]):=by
 have e1:bM [109] m=some ([109]++m):=by unfold bM; rw[if_pos (by simp; omega)]
 have e2:bM ([109]++m) [40]=some ([109]++m++[40]):=by unfold bM; rw[if_pos (by simp; omega)]
 have e3:bM ([109]++m++[40]) v=some ([109]++m++[40]++v):=by unfold bM; rw[if_pos (by simp; omega)]
 have e4:bM ([109]++m++[40]++v) [41]=some ([109]++m++[40]++v++[41]):=by unfold bM; rw[if_pos (by simp; omega)]
 rw[e1,Option.bind_some,e2,Option.bind_some,e3,Option.bind_some,e4]
theorem FP{K:Nat}(hK:2<=K)(a:ak)(hm:0<=a.Method/\a.Method<=4)(hl:a.Values.length<=3):∀(l:List Int)(k:Nat),(l.all (iT 0 9)=true-> ∀x∈a.Values,0<=x/\x<=9)->o5 a K l k=some (if l.all (iT 0 9)then [109]++dY a.Method++[40]++Lib.join (a.Values.map dY) [44]++[41]else [])
 |[],k,hv=>by
   have hv':=hv rfl
   have hj:=Ct a.Values hl
   have:=Hw (m:=dY a.Method) (v:=Lib.join (a.Values.map dY) [44]) (by simp[dY]) hj
   unfold o5
   rw[BU hK _ (by omega),Option.bind_some,NY hK a.Values hv' hl]
   simp only[Option.bind_some]at this ⊢
   rw[if_pos (by rfl),←this]
   cases bM [109] (dY a.Method)with
   |none=>rfl
   |some x=>
     simp only[Option.bind_some]
     cases bM x [40]with
     |none=>rfl
     |some y=>
       simp only[Option.bind_some]
       cases bM y (Lib.join (a.Values.map dY) [44])with
       |none=>rfl
       |some z=>
         simp only[Option.bind_some]
         cases bM z [41]<;>rfl
 |x::l,k,hv=>by
   unfold o5
   rw[Ih,Option.bind_some]
   cases h:iT 0 9 x
   · simp[h]
   · rw[if_neg (by simp),FP hK a hm hl l _ (fun h'=>hv (by simp[h,h']))]; simp[h]
theorem Io{l:List Int}(h:l.all (iT 0 9)=true):∀x∈l,0<=x/\x<=9:=by
 simpa only[List.all_eq_true,iT,Bool.and_eq_true,decide_eq_true_eq]using h
theorem BO{K:Nat}(hK:2<=K)(a:ak):v_ K a=some (cZ a):=by
 unfold v_ cZ kX
 rw[Ih,Option.bind_some]
 cases h1:iT 0 4 a.Method
 · rfl
 by_cases h2:(3:Int)<(a.Values.length:Int)
 · simp[h2]
 · have hm:0<=a.Method/\a.Method<=4:=by simpa only[iT,Bool.and_eq_true,decide_eq_true_eq]using h1
   simp only[h2,Bool.not_true,cond_false,decide_false,Option.bind_some,Bool.false_eq_true,if_false,Bool.not_false,Bool.true_and]
   exact FP hK a hm (by omega) a.Values 0 Io
theorem F6(a:ak):uh a=some (cZ a):=by
 unfold uh cZ kX
 rw[NW,Option.bind_some]
 cases h1:iT 0 4 a.Method
 · rfl
 by_cases h2:(3:Int)<(a.Values.length:Int)
 · simp[h2]
 · have hm:0<=a.Method/\a.Method<=4:=by simpa only[iT,Bool.and_eq_true,decide_eq_true_eq]using h1
   simp only[h2,Bool.not_true,cond_false,decide_false,M0,Option.bind_some,Bool.not_false,Bool.true_and]
   cases h3:a.Values.all (iT 0 9)
   · rfl
   · have hl:a.Values.length<=3:=by omega
     have:=Hw (m:=dY a.Method) (v:=Lib.join (a.Values.map dY) [44]) (by simp[dY]) (Ct a.Values hl)
     simp only[Bool.not_true,Bool.false_eq_true,if_false,if_true]
     rw[Gr _ (by omega),Option.bind_some,NZ a.Values (Io h3) hl]
     simp only[Option.bind_some]at this ⊢
     rw[←this]
     cases bM [109] (dY a.Method)with
     |none=>rfl
     |some x=>
       simp only[Option.bind_some]
       cases bM x [40]with
       |none=>rfl
       |some y=>
         simp only[Option.bind_some]
         cases bM y (Lib.join (a.Values.map dY) [44])with
         |none=>rfl
         |some z=>
           simp only[Option.bind_some]
           cases bM z [41]<;>rfl
theorem rA(a:ak):(cZ a).length<=11:=by
 unfold cZ
 split
 · rename_i h
   have:=Ct a.Values (He h).2.1
   simp[dY]; omega
 · simp
def eU(log:List ak):List UInt8:=if log=[]then [110,111,110,101]else if log.any (fun a=>cZ a==[])then []else Lib.join (log.map cZ) [32]
theorem BP{K:Nat}(hK:2<=K):∀(l:List ak)(k:Nat)(c:List UInt8),0<k->c≠[]->c.length+12*l.length<4611686018427387904->mM K l k c=some (if l.any (fun a=>cZ a==[])then []else c++lg [32] (l.map cZ))
 |[],k,c,_,hc,_=>by
   unfold mM
   rw[if_neg (by simpa using hc)]; simp[lg]
 |a::l,k,c,hk,hc,hl=>by
   simp only[List.length_cons]at hl
   have h11:=rA a
   unfold mM
   rw[BO hK,Option.bind_some]
   cases he:cZ a==[]
   · have e1:bM c [32]=some (c++[32]):=by unfold bM; rw[if_pos (by simp; omega)]
     have e2:bM (c++[32]) (cZ a)=some (c++[32]++cZ a):=by unfold bM; rw[if_pos (by simp; omega)]
     rw[if_neg (by simp),if_pos (by simpa using hk),e1,Option.bind_some,e2,Option.bind_some,Option.bind_some]
     dsimp only
     rw[BP hK l _ _ (by omega) (by simp) (by simp; omega)]
     have hne:cZ a≠[]:=by simpa using he
     simp[hne,lg]
   · rw[if_pos rfl,Option.bind_some]
     have hE:cZ a=[]:=by simpa using he
     simp[hE]
theorem BV{K:Nat}(hK:2<=K)(log:List ak)(h:log.length<=1048576):lL K log=some (eU log):=by
 unfold lL eU
 cases log with
 |nil=>rfl
 |cons a l=>
   simp only[List.length_cons]at h
   have h11:=rA a
   rw[if_neg (by simp)]
   unfold mM
   rw[BO hK,Option.bind_some]
   cases he:cZ a==[]
   · have e2:bM [] (cZ a)=some (cZ a):=by unfold bM; rw[if_pos (by simp; omega)]; rfl
     have hne:cZ a≠[]:=by simpa using he
     rw[if_neg (by simp),if_neg (by simp),e2,Option.bind_some,Option.bind_some]
     dsimp only
     rw[BP hK l _ _ (by omega) hne (by omega)]
     simp only[List.any_cons,he,Bool.false_or,List.map_cons]
     rw[pI]
   · rw[if_pos rfl,Option.bind_some]
     have hE:cZ a=[]:=by simpa using he
     simp[hE]
theorem F_:∀(l:List ak)(k:Nat)(c:List (List UInt8)),c.length+l.length<=1048576->(∀x∈c,x.length<=11)->o7 l k c=some (if l.any (fun a=>cZ a==[])then []else Lib.join (c++l.map cZ) [32])
 |[],k,c,hl,hc=>by
   have hj:(Lib.join c [32]).length<=12*c.length:=by
     cases c with
     |nil=>simp[Lib.join,List.intercalate]
     |cons x c=>
       rw[pI,List.length_append]
       have h1:=wT [32] 11 c fun y hy=>hc y (by simp[hy])
       have h2:=hc x (by simp)
       simp only[List.length_cons,List.length_nil]at h1 hl ⊢
       omega
   simp only[List.length_nil,Nat.add_zero]at hl
   unfold o7
   rw[ug,if_pos ⟨by omega,by omega⟩]
   simp
 |a::l,k,c,hl,hc=>by
   simp only[List.length_cons]at hl
   unfold o7
   rw[F6,Option.bind_some]
   cases he:cZ a==[]
   · rw[if_neg (by simp),jU (by simp; omega),Option.bind_some,F_ l _ _ (by simp; omega) (fun y hy=>by
       rcases List.mem_append.1 hy with hy|hy
       · exact hc y hy
       · rw[List.mem_singleton.1 hy]; exact rA a)]
     have hne:cZ a≠[]:=by simpa using he
     simp[hne]
   · have hE:cZ a=[]:=by simpa using he
     rw[if_pos rfl]; simp[hE]
theorem Gu(log:List ak)(h:log.length<=1048576):uu log=some (eU log):=by
 unfold uu eU
 cases log with
 |nil=>rfl
 |cons a l=>
   rw[if_neg (by simp only[List.length_cons,beq_iff_eq]; omega),if_neg (by simp),F_ (a::l) 0 [] (by simpa using h) (by simp),List.nil_append]
theorem PD(log:List ak)(h:log.length<=1048576):(eU log).length<4294967296:=by
 unfold eU
 split
 · simp
 split
 · simp
 · cases log with
   |nil=>simp[Lib.join,List.intercalate]
   |cons a l=>
     simp only[List.length_cons]at h
     rw[List.map_cons,pI,List.length_append]
     have h1:=wT [32] 11 (l.map cZ) fun y hy=>by
       obtain⟨z,-,rfl⟩:=List.mem_map.1 hy
       exact rA z
     have h2:=rA a
     simp only[List.length_cons,List.length_nil,List.length_map]at h1
     omega
theorem Ng(r:List UInt8)(hr:r.length<4294967296):∀(m i:Nat)(c:Int),i<=r.length->r.length-i<m-> ∃d,qF r m c (i:Int)=some d/\qE r m c (i:Int)=some d:=by
 intro m
 induction m with
 |zero=>intro i c _ h; omega
 |succ m ih=>
   intro i c hi hm
   unfold qF qE
   by_cases hlt:i<r.length
   · rw[if_pos (by simpa using hlt),if_pos (by simpa using hlt),jv,List.getElem?_eq_getElem hlt,Option.bind_some,Option.bind_some,show IntKind.i64.wrap ((i:Int)+1)=((i+1:Nat):Int)from by rw[dD (by omega) (by omega)]; rfl,Int.mul_comm c 257]
     exact ih (i+1) _ (by omega) (by omega)
   · rw[if_neg (by simpa using hlt),if_neg (by simpa using hlt)]
     exact⟨c,rfl,rfl⟩
theorem zC(u:Nat):Lib.decDigits u=if u<10 then [UInt8.ofNat (48+u)]else Lib.decDigits (u / 10)++[UInt8.ofNat (48+u % 10)]:=by
 rw[Lib.decDigits]
 by_cases h:u<10
 · rw[dif_pos h,if_pos h]
 · rw[dif_neg h,if_neg h]
theorem GL:∀(m u:Nat),u<10 ^ (m+1)->(Lib.decDigits u).length<=m+1
 |0,u,h=>by rw[zC,if_pos (by simpa using h)]; simp
 |m+1,u,h=>by
   rw[zC]
   split
   · simp
   · have:=GL m (u / 10) (by rw[Nat.pow_succ]at h; omega)
     rw[List.length_append,List.length_singleton]; omega
theorem FU:∀(m u:Nat)(n:Int)(c:List UInt8),n.natAbs=u->u<10 ^ m-> -9223372036854775808<=n/\n<=9223372036854775807->c.length+m<4294967296->mK (m+1) n c=some ((if u=0 then []else Lib.decDigits u)++c)
 |0,u,n,c,hu,h,_,_=>by
   have h0:n=0:=by simp at h; omega
   subst h0
   have:u=0:=by simpa using hu.symm
   subst this
   unfold mK
   rw[if_neg (by simp)]; rfl
 |m+1,u,n,c,hu,h,hr,hc=>by
   by_cases h0:u=0
   · have hn:n=0:=by omega
     subst hn
     subst h0
     unfold mK
     rw[if_neg (by simp)]; rfl
   · have hn:n≠0:=by omega
     have hc1:∀b:UInt8,bM [b] c=some (b::c):=fun b=>by unfold bM; rw[if_pos (by simp; omega)]; rfl
     have hd:n.tdiv 10=if n<0 then -((u / 10:Nat):Int)else ((u / 10:Nat):Int):=by
       split
       · have:n= -(u:Int):=by omega
         rw[this,Int.neg_tdiv]; rfl
       · have:n=(u:Int):=by omega
         rw[this]; rfl
     have hm:n.tmod 10=if n<0 then -((u % 10:Nat):Int)else ((u % 10:Nat):Int):=by
       split
       · have:n= -(u:Int):=by omega
         rw[this,Int.neg_tmod]; rfl
       · have:n=(u:Int):=by omega
         rw[this]; rfl
     have hw:IntKind.i64.wrap (n.tdiv 10)=n.tdiv 10:=dD (by rw[hd]; split<;>omega) (by rw[hd]; split<;>omega)
     have FM:∀r:Nat,r<10->dO (IntKind.i64.wrap (48+(r:Int)))=UInt8.ofNat (48+r):=by
       intro r hr
       have:r=0\/r=1\/r=2\/r=3\/r=4\/r=5\/r=6\/r=7\/r=8\/r=9:=by omega
       rcases this with rfl|rfl|rfl|rfl|rfl|rfl|rfl|rfl|rfl|rfl<;>decide
     have hlt:u % 10<10:=Nat.mod_lt _ (by omega)
     have hgo:=FU m (u / 10) (n.tdiv 10) (UInt8.ofNat (48+u % 10)::c) (by rw[hd]; split<;>omega) (by rw[Nat.pow_succ]at h; omega) (by rw[hd]; split<;>omega) (by simp; omega)
     have hfin:((if u / 10=0 then []else Lib.decDigits (u / 10))++UInt8.ofNat (48+u % 10)::c)=(if u=0 then []else Lib.decDigits u)++c:=by
       rw[if_neg h0,zC u]
       by_cases h9:u<10
       · rw[if_pos h9,if_pos (by omega),Nat.mod_eq_of_lt h9]; rfl
       · rw[if_neg h9,if_neg (by omega)]; simp
     rw[hfin]at hgo
     unfold mK
     rw[if_pos (by simpa using hn),hw,hm]
     by_cases hneg:n<0
     · rw[if_pos hneg]
       by_cases hz:u % 10=0
       · rw[if_neg (by simp only[decide_eq_true_eq]; omega),show -((u % 10:Nat):Int)=((u % 10:Nat):Int)from by omega,FM _ hlt,hc1,Option.bind_some]
         exact hgo
       · rw[if_pos (by simp only[decide_eq_true_eq]; omega),show IntKind.i64.wrap (- -((u % 10:Nat):Int))=((u % 10:Nat):Int)from by rw[Int.neg_neg]; exact dD (by omega) (by omega),FM _ hlt,hc1,Option.bind_some]
         exact hgo
     · rw[if_neg hneg,if_neg (by simp only[decide_eq_true_eq]; omega),FM _ hlt,hc1,Option.bind_some]
       exact hgo
theorem MN(k:Nat)(n:Int)(hr:-9223372036854775808<=n/\n<=9223372036854775807)(hk:19<=k)(hk2:k<1000):kr (k+1) n=some (Lib.itoa n):=by
 unfold kr Lib.itoa
 by_cases h0:n=0
 · subst h0
   rw[if_pos (by decide),if_neg (by decide),show Int.toNat 0=0 from rfl,zC]; rfl
 · rw[if_neg (by simpa using h0),FU k n.natAbs n [] rfl (Nat.lt_of_lt_of_le (show n.natAbs<10 ^ 19 by omega) (Nat.pow_le_pow_right (by decide) hk)) hr (by simp; omega),Option.bind_some,if_neg (show ¬ n.natAbs=0 by omega),List.append_nil]
   dsimp only
   by_cases hneg:n<0
   · have:=GL 18 n.natAbs (by omega)
     rw[if_pos (by simpa using hneg),if_pos hneg]
     unfold bM
     rw[if_pos (by simp; omega)]; rfl
   · rw[if_neg (by simpa using hneg),if_neg hneg,show n.natAbs=n.toNat from by omega]
theorem MO(n:Int)(hr:-9223372036854775808<=n/\n<=9223372036854775807):nN n=some (Lib.itoa n):=by
 rw[nN,vY,if_pos hr]; rfl
theorem QH{a b:List UInt8}(h:a.length+b.length<4294967296):bM a b=some (a++b):=by unfold bM; rw[if_pos (by omega)]
theorem Nh{zs:List Int}(h:zs.Pairwise (· <= ·)):∀m,m<=zs.length->
   (Lib.compactUpTo zs.toArray m).Pairwise (· < ·)/\(∀x,x∈Lib.compactUpTo zs.toArray m↔x∈zs.take m)/\(∀x∈Lib.compactUpTo zs.toArray m,∀y,zs[m]?=some y->x<=y):=by
 intro m
 induction m with
 |zero=>intro _; simp[Lib.compactUpTo]
 |succ m ih=>
   intro hm
   obtain⟨i1,i2,i3⟩:=ih (by omega)
   have hlt:m<zs.length:=by omega
   have hg:zs.toArray[m]! =zs[m]:=by simp[hlt]
   have hnext:∀x,x∈zs.take (m+1)-> ∀y,zs[m+1]?=some y->x<=y:=by
     intro x hx y hy
     obtain⟨j,hj,rfl⟩:=List.mem_iff_getElem.1 hx
     obtain⟨hy1,rfl⟩:=List.getElem?_eq_some_iff.1 hy
     rw[List.getElem_take]
     simp only[List.length_take]at hj
     exact List.pairwise_iff_getElem.1 h j (m+1) (by omega) hy1 (by omega)
   rw[Lib.compactUpTo_succ,hg]
   have htake:zs.take (m+1)=zs.take m++[zs[m]]:=by rw[List.take_succ_eq_append_getElem hlt]
   by_cases hk:Lib.keeps zs.toArray m=true
   · rw[if_pos hk]
     have hlow:∀x∈Lib.compactUpTo zs.toArray m,x<zs[m]:=by
       intro x hx
       have hm0:m≠0:=by
         intro e; subst e; simp[Lib.compactUpTo]at hx
       have hpl:m-1<zs.length:=by omega
       have hpm:zs.toArray[m-1]! =zs[m-1]:=by simp[hpl]
       have hne:zs[m]≠zs[m-1]:=by
         simp only[Lib.keeps,decide_eq_true_eq,hg,hpm]at hk
         rcases hk with h0|h0
         · exact absurd h0 hm0
         · exact h0
       have hx1:=(i2 x).1 hx
       obtain⟨j,hj,rfl⟩:=List.mem_iff_getElem.1 hx1
       rw[List.getElem_take]at*
       simp only[List.length_take]at hj
       have a1:zs[j]<=zs[m-1]:=by
         rcases Nat.lt_or_ge j (m-1)with h1|h1
         · exact List.pairwise_iff_getElem.1 h j (m-1) (by omega) hpl h1
         · have:j=m-1:=by omega
           subst this; exact Int.le_refl _
       have a2:zs[m-1]<=zs[m]:=List.pairwise_iff_getElem.1 h (m-1) m hpl hlt (by omega)
       omega
     refine⟨?_,?_,?_⟩
     · rw[List.pairwise_append]
       exact⟨i1,by simp,fun a ha b hb=>by simp at hb; subst hb; exact hlow a ha⟩
     · intro x; rw[htake,List.mem_append,List.mem_append,i2]
     · intro x hx y hy
       apply hnext x _ y hy
       rw[htake,List.mem_append,←i2,←List.mem_append]; exact hx
   · rw[if_neg hk,List.append_nil]
     have hm0:m≠0:=fun e=>hk (by simp[Lib.keeps,e])
     have hpl:m-1<zs.length:=by omega
     have hpm:zs.toArray[m-1]! =zs[m-1]:=by simp[hpl]
     have he:zs[m]=zs[m-1]:=by
       simp only[Lib.keeps,decide_eq_true_eq,hg,hpm]at hk
       exact Classical.byContradiction fun hc=>hk (.inr hc)
     have hin:zs[m]∈zs.take m:=by
       rw[he]
       exact List.mem_iff_getElem.2 ⟨m-1,by simp; omega,by rw[List.getElem_take]⟩
     have hiff:∀x,x∈zs.take (m+1)↔x∈zs.take m:=by
       intro x; rw[htake,List.mem_append,List.mem_singleton]
       exact⟨fun h=>h.elim id fun h=>h ▸ hin,.inl⟩
     refine⟨i1,fun x=>by rw[i2,hiff],fun x hx y hy=>hnext x ((hiff x).2 ((i2 x).1 hx)) y hy⟩
theorem ND{zs:List Int}(h:zs.Pairwise (· <= ·)):(Lib.compact zs).Pairwise (· < ·)/\ ∀x,x∈Lib.compact zs↔x∈zs:=by
 obtain⟨h1,h2,-⟩:=Nh h zs.length (Nat.le_refl _)
 exact⟨h1,fun x=>by rw[Lib.compact,h2,List.take_length]⟩
theorem JH:∀{a b:List Int},a.Pairwise (· < ·)->b.Pairwise (· < ·)->(∀x,x∈a↔x∈b)->a=b
 |[],[],_,_,_=>rfl
 |[],y::b,_,_,h=>absurd ((h y).2 (by simp)) (by simp)
 |x::a,[],_,_,h=>absurd ((h x).1 (by simp)) (by simp)
 |x::a,y::b,ha,hb,h=>by
   rw[List.pairwise_cons]at ha hb
   have e:x=y:=by
     have h1:=(h x).1 (by simp)
     have h2:=(h y).2 (by simp)
     rw[List.mem_cons]at h1 h2
     rcases h1 with h1|h1
     · exact h1
     · rcases h2 with h2|h2
       · exact h2.symm
       · have:=hb.1 x h1; have:=ha.1 y h2; omega
   subst e
   rw[JH ha.2 hb.2 fun z=>?_]
   constructor
   · intro hz
     have h1:=(h z).1 (by simp[hz])
     have:=ha.1 z hz
     rcases List.mem_cons.1 h1 with h1|h1
     · omega
     · exact h1
   · intro hz
     have h1:=(h z).2 (by simp[hz])
     have:=hb.1 z hz
     rcases List.mem_cons.1 h1 with h1|h1
     · omega
     · exact h1
def kH(x:Int):List Int->List Int
 |[]=>[x]
 |y::l=>if x<y then x::y::l else y::kH x l
theorem Cz{x:Int}:∀{l:List Int}{y:Int},y∈kH x l↔y=x\/y∈l
 |[],y=>by simp[kH]
 |z::l,y=>by
   unfold kH
   split
   · simp
   · rw[List.mem_cons,Cz,List.mem_cons]
     constructor<;>rintro (h|h|h)<;>simp[h]
theorem Jm{x:Int}:∀{l:List Int},l.Pairwise (· < ·)->x∉l->(kH x l).Pairwise (· < ·)
 |[],_,_=>by simp[kH]
 |z::l,h,hn=>by
   unfold kH
   rw[List.mem_cons,not_or]at hn
   rw[List.pairwise_cons]at h
   split
   · rename_i hx
     rw[List.pairwise_cons,List.pairwise_cons]
     refine⟨fun a ha=>?_,h⟩
     rcases List.mem_cons.1 ha with rfl|ha
     · exact hx
     · have:=h.1 a ha; omega
   · rename_i hx
     rw[List.pairwise_cons]
     refine⟨fun a ha=>?_,Jm h.2 hn.2⟩
     rcases Cz.1 ha with rfl|ha
     · omega
     · exact h.1 a ha
theorem IM{x:Int}:∀{l:List Int},(kH x l).length=l.length+1
 |[]=>rfl
 |z::l=>by
   unfold kH
   split
   · rfl
   · simp[IM]
def jC(l:List Int)(x:Int):List Int:=if x∈l then l else kH x l
theorem PE{l:List Int}{x y:Int}:y∈jC l x↔y=x\/y∈l:=by
 unfold jC
 split
 · rename_i h; exact⟨.inr,fun h'=>h'.elim (fun e=>e ▸ h) id⟩
 · exact Cz
theorem Qa{l:List Int}{x:Int}(h:l.Pairwise (· < ·)):(jC l x).Pairwise (· < ·):=by
 unfold jC
 split
 · exact h
 · exact Jm h (by assumption)
theorem IP{l:List Int}{x:Int}:(jC l x).length<=l.length+1:=by
 unfold jC
 split
 · omega
 · rw[IM]; exact Nat.le_refl _
theorem IQ{y:Int}:∀{v l:List Int},y∈v.foldl jC l↔y∈l\/y∈v
 |[],l=>by simp
 |x::v,l=>by
   rw[List.foldl_cons,IQ,PE,List.mem_cons]
   constructor
   · rintro ((h|h)|h)<;>simp[h]
   · rintro (h|h|h)<;>simp[h]
theorem Jn:∀{v l:List Int},l.Pairwise (· < ·)->(v.foldl jC l).Pairwise (· < ·)
 |[],_,h=>h
 |x::v,l,h=>Jn (v:=v) (Qa h)
theorem IR:∀{v l:List Int},(v.foldl jC l).length<=l.length+v.length
 |[],_=>Nat.le_refl _
 |x::v,l=>by
   have h1:=IR (v:=v) (l:=jC l x)
   have h2:=IP (l:=l) (x:=x)
   simp only[List.foldl_cons,List.length_cons]; omega
theorem O0(v:List Int):v.foldl jC []=Lib.compact (v.mergeSort fun x y=>decide (x<=y)):=by
 have hs:(v.mergeSort fun x y=>decide (x<=y)).Pairwise (· <= ·):=by
   have:=List.pairwise_mergeSort (le:=fun x y:Int=>decide (x<=y)) (fun a b c h1 h2=>by simp only[decide_eq_true_eq]at*; omega) (fun a b=>by simp only[Bool.or_eq_true,decide_eq_true_eq]; omega) v
   exact this.imp fun h=>by simpa using h
 obtain⟨c1,c2⟩:=ND hs
 exact JH (Jn (by simp)) c1 fun x=>by rw[IQ,c2,List.mem_mergeSort]; simp
theorem Ow(x:Int)(l:List Int):xe l x=some (decide (x∈l)):=by
 unfold xe
 generalize 0=k
 induction l generalizing k with
 |nil=>rfl
 |cons y l ih=>
   unfold uy
   by_cases h:y=x
   · subst h; simp
   · rw[if_neg (by simpa using h),ih]
     congr 1
     simp only[List.mem_cons,decide_eq_decide]
     exact⟨.inr,fun h'=>h'.elim (fun e=>absurd e.symm h) id⟩
theorem zD(l:List Int)(x:Int)(hl:l.length<4294967296):∀(m i:Nat)(c:List Int)(b:Bool),i<=l.length->l.length-i<m->c.length+(l.length-i)+(bif b then 0 else 1)<4294967296->ry l x m c b (i:Int)=some (if b then c++l.drop i else c++kH x (l.drop i))
 |0,_,_,_,_,hm,_=>by omega
 |m+1,i,c,b,hi,hm,h=>by
   unfold ry
   by_cases hlt:i<l.length
   · obtain⟨y,t,hg,hd,ht⟩:∃y t,ix l (i:Int)=some y/\l.drop i=y::t/\l.drop (i+1)=t:=⟨_,_,by rw[jv,List.getElem?_eq_getElem hlt],List.drop_eq_getElem_cons hlt,rfl⟩
     have hw:IntKind.i64.wrap ((i:Int)+1)=((i+1:Nat):Int):=by rw[dD (by omega) (by omega)]; rfl
     rw[if_pos (by simp only[decide_eq_true_eq]; omega)]
     simp only[hg,Option.bind_some,hw]
     cases b
     · simp only[cond_false]at h
       by_cases hx:x<y
       · simp only[Bool.not_false,cond_true,hx,decide_true,if_true,Option.bind_some]
         rw[jU (by simp; omega),Option.bind_some,jU (by simp; omega),Option.bind_some,Option.bind_some]
         dsimp only
         rw[zD l x hl m (i+1) _ _ hlt (by omega) (by simp; omega),ht,hd]
         simp[kH,hx]
       · simp only[Bool.not_false,cond_true,hx,decide_false,Bool.false_eq_true,if_false,Option.bind_some]
         rw[jU (by simp; omega),Option.bind_some,Option.bind_some]
         dsimp only
         rw[zD l x hl m (i+1) _ _ hlt (by omega) (by simp; omega),ht,hd]
         simp[kH,hx]
     · simp only[cond_true]at h
       simp only[Bool.not_true,cond_false,Bool.false_eq_true,if_false,Option.bind_some]
       rw[jU (by simp; omega),Option.bind_some,Option.bind_some]
       dsimp only
       rw[zD l x hl m (i+1) _ _ hlt (by omega) (by simp; omega),ht,hd]
       simp
   · have hd:l.drop i=[]:=List.drop_eq_nil_of_le (by omega)
     rw[if_neg (by simp only[decide_eq_true_eq]; omega),hd]
     cases b
     · simp only[cond_false]at h
       rw[if_pos (show (!false)=true from rfl),jU (by simp; omega),if_neg (by simp)]; rfl
     · simp
theorem Ox(l:List Int)(x:Int)(h:l.length+1<4294967296):xg l x=some (jC l x):=by
 unfold xg jC
 rw[Ow,Option.bind_some]
 by_cases hx:x∈l
 · rw[if_pos (by simpa using hx),if_pos hx]
 · rw[if_neg (by simpa using hx),if_neg hx]
   have:=zD l x (by omega) (((l.length:Int)-0).toNat+2) 0 [] false (by omega) (by omega) (by simpa using h)
   rw[show ((0:Nat):Int)=0 from rfl]at this
   rw[this]
   simp
def Ok{α:Type}(o:Option α)(P:α->Prop):Prop:=∃a,o=some a/\P a
theorem Ok.bind{α β:Type}{o:Option α}{g:α->Option β}{P:α->Prop}{Q:β->Prop}(h:Ok o P)(hg:∀a,P a->Ok (g a) Q):Ok (o.bind g) Q:=by
 obtain⟨a,rfl,ha⟩:=h; exact hg a ha
theorem Ok.pure{α:Type}{a:α}{P:α->Prop}(h:P a):Ok (some a) P:=⟨a,rfl,h⟩
theorem Ok.eqb{α β:Type}{o:Option α}{a:α}{g:α->Option β}{Q:β->Prop}(h:o=some a)(hg:Ok (g a) Q):Ok (o.bind g) Q:=by
 subst h; exact hg
theorem Ok.weak{α:Type}{o:Option α}{P Q:α->Prop}(h:Ok o P)(hq:∀a,P a->Q a):Ok o Q:=by
 obtain⟨a,e,ha⟩:=h; exact⟨a,e,hq a ha⟩
def bW(b:List UInt8)(i:Int):Prop:=0<=i/\i<=(b.length:Int)/\b.length<=1048576
theorem GM(code:List UInt8)(hc:code.length<=1048576):∀(m:Nat)(h:Int)(i:Nat),i<=code.length->code.length-i<m->Ok (q9 code m h (i:Int)) fun c=>c.b=code/\bW code c.i
 |0,_,_,_,hm=>by omega
 |m+1,h,i,hi,hm=>by
   unfold q9
   split
   · rename_i hlt
     simp only[Bool.and_eq_true,decide_eq_true_eq]at hlt
     have h1:i<code.length:=by omega
     refine Ok.eqb (a:=code[i]) (by rw[jv,List.getElem?_eq_getElem h1]) ?_
     rw[show IntKind.i64.wrap ((i:Int)+1)=((i+1:Nat):Int)from by rw[dD (by omega) (by omega)]; rfl]
     exact GM code hc m _ (i+1) h1 (by omega)
   · exact .pure ⟨rfl,by show (0:Int)<=0; omega,by show (0:Int)<=_; omega,hc⟩
theorem Hy(code:List UInt8)(hc:code.length<=1048576):Ok (xc code) fun c=>c.b=code/\bW code c.i:=
 GM code hc _ _ 0 (by omega) (by omega)
theorem Jo(x:Int):0<=nz .i64 x 255/\nz .i64 x 255<=255:=by
 unfold nz
 have h:(BitVec.ofInt (IntKind.bits .i64) x &&& BitVec.ofInt (IntKind.bits .i64) 255).toNat<=255:=by
   rw[BitVec.toNat_and]
   exact Nat.le_trans Nat.and_le_right (by decide)
 rw[dD (by omega) (by omega)]
 omega
theorem qY{c:ai}(h:bW c.b c.i):Ok (kT c) fun p=>(0<=p.1/\p.1<=255)/\bW c.b p.2.i:=by
 obtain⟨h1,h2,h3⟩:=h
 unfold kT
 refine Ok.eqb rfl (Ok.eqb rfl ?_)
 split
 · rename_i hlt
   simp only[decide_eq_true_eq]at hlt
   refine Ok.eqb (a:=c.b[c.i.toNat]'(by omega)) (by rw[ix,if_pos h1,List.getElem?_eq_getElem]) (.pure ⟨Jo _,?_⟩)
   show bW _ (IntKind.i64.wrap (c.i+1))
   rw[dD (by omega) (by omega)]
   exact⟨by omega,by omega,h3⟩
 · exact .pure ⟨Jo _,h1,h2,h3⟩
theorem Jp{x n:Int}(hx:0<=x)(hn:0<n):Ok (u_ x n) fun r=>0<=r/\r<n:=by
 unfold u_
 rw[if_neg (by omega)]
 exact .pure ⟨Int.tmod_nonneg _ hx,Int.tmod_lt_of_pos _ hn⟩
theorem eX{c:ai}(n:Int)(h:bW c.b c.i):Ok (dR c n) fun p=>((n<=0/\p.1=0)\/(0<=p.1/\p.1<n))/\bW c.b p.2.i:=by
 unfold dR
 split
 · rename_i hn
   simp only[decide_eq_true_eq]at hn
   exact .pure ⟨.inl ⟨hn,rfl⟩,h⟩
 rename_i hn
 simp only[decide_eq_true_eq]at hn
 split
 · refine (qY h).bind fun r1 h1=>?_
   exact (Jp h1.1.1 (by omega)).bind fun x hx=>.pure ⟨.inr hx,h1.2⟩
 · refine (qY h).bind fun r1 h1=>?_
   refine (qY (c:={b:=c.b,i:=r1.2.i,h:=r1.2.h}) h1.2).bind fun r2 h2=>?_
   refine (qY (c:={b:=c.b,i:=r2.2.i,h:=r2.2.h}) h2.2).bind fun r3 h3=>?_
   refine (qY (c:={b:=c.b,i:=r3.2.i,h:=r3.2.h}) h3.2).bind fun r4 h4=>?_
   have b1:=h1.1; have b2:=h2.1; have b3:=h3.1; have b4:=h4.1
   rw[dD (n:=r1.1*16777216) (by omega) (by omega),dD (n:=r2.1*65536) (by omega) (by omega),dD (n:=r3.1*256) (by omega) (by omega),dD (n:=r1.1*16777216+r2.1*65536) (by omega) (by omega),dD (n:=r1.1*16777216+r2.1*65536+r3.1*256) (by omega) (by omega),dD (by omega) (by omega)]
   exact (Jp (by omega) (by omega)).bind fun x hx=>.pure ⟨.inr hx,h4.2⟩
theorem wG{c:ai}(n:Int)(h:bW c.b c.i):Ok (pM c n) fun p=>bW c.b p.2.i:=
 (eX n h).bind fun _ hr=>.pure hr.2
theorem o_{c:ai}(l:List Int)(hl:0<l.length)(h:bW c.b c.i):Ok (iY c l) fun p=>p.1∈l/\bW c.b p.2.i:=by
 refine (eX (l.length:Int) h).bind fun r hr=>?_
 have h1:r.1.toNat<l.length:=by omega
 refine Ok.eqb (a:=l[r.1.toNat]) (by rw[ix,if_pos (by omega),List.getElem?_eq_getElem h1]) (.pure ⟨List.getElem_mem h1,hr.2⟩)
def nu(s:List Int):Prop:=1<=s.length/\s.length<=3/\ ∀x∈s,1<=x/\x<=3
theorem Gc(c:ai):∀(m:Nat)(i h:Int)(acc:List Int)(n:Int),bW c.b i->0<=n->n<m->(acc.length:Int)+n<=3->1<=(acc.length:Int)+n->(∀x∈acc,1<=x/\x<=3)->Ok (qI c m i h acc n) fun p=>nu p.1/\bW c.b p.2.i
 |0,_,_,_,_,_,_,hm,_,_,_=>by omega
 |m+1,i,h,acc,n,hi,h0,hm,h3,h1,ha=>by
   unfold qI
   split
   · rename_i hn
     simp only[decide_eq_true_eq]at hn
     refine Ok.bind (P:=fun o=>bW c.b o.1/\ ∃x,o.2.2=acc++[x]/\1<=x/\x<=3) ?_ ?_
     · refine (eX (c:={b:=c.b,i:=i,h:=h}) 2 hi).bind fun r hr=>?_
       refine (wG (c:={b:=c.b,i:=r.2.i,h:=r.2.h}) 4 hr.2).bind fun q hq=>?_
       split
       · exact Ok.eqb (app1 (by omega)) (.pure ⟨hq,3,rfl,by (try dsimp only); omega,by (try dsimp only); omega⟩)
       · have:=hr.1
         exact Ok.eqb (app1 (by omega)) (.pure ⟨hq,_,rfl,by rw[dD (by (try dsimp only); omega) (by (try dsimp only); omega)]; omega,by rw[dD (by (try dsimp only); omega) (by (try dsimp only); omega)]; omega⟩)
     · rintro⟨i',h',acc'⟩ ⟨o1,x,o2,o3,o4⟩
       obtain rfl:acc'=acc++[x]:=o2
       dsimp only
       rw[dD (by omega) (by omega)]
       refine Gc c m i' h' _ _ o1 (by omega) (by omega) (by simp; omega) (by simp; omega) fun y hy=>?_
       rcases List.mem_append.1 hy with hy|hy
       · exact ha y hy
       · simp only[List.mem_singleton]at hy; omega
   · rename_i hn
     simp only[decide_eq_true_eq]at hn
     exact .pure ⟨⟨by (try dsimp only); omega,by (try dsimp only); omega,ha⟩,hi⟩
theorem GN{c:ai}(h:bW c.b c.i):Ok (wI c) fun p=>nu p.1/\bW c.b p.2.i:=by
 refine (eX 3 h).bind fun r hr=>?_
 have:=hr.1
 rw[dD (by omega) (by omega)]
 exact Gc c _ _ _ _ _ hr.2 (by omega) (by omega) (by simp; omega) (by simp; omega) (by simp)
theorem JI{s:List Int}(hs:nu s){r:Int}(h0:0<=r)(h1:r<(s.length:Int)):∃x,ix s r=some x/\1<=x/\x<=3:=by
 have h2:r.toNat<s.length:=by omega
 exact⟨s[r.toNat],by rw[ix,if_pos h0,List.getElem?_eq_getElem h2],hs.2.2 _ (List.getElem_mem h2)⟩
theorem Gd(c:ai)(s:List Int)(r2 r6 r9 eP:Int×ai){x:Int}(hx:ix s r2.1=some x)(hx3:x<=3):∀(m:Nat)(i h:Int)(acc:List Int)(k:Int),bW c.b i->0<=k->k<=3->3-k<m->(acc.length:Int)<=k->Ok (qJ c s r2 r6 r9 eP m i h acc k) fun p=>p.1.Inputs.length<=3/\bW c.b p.2.i
 |0,_,_,_,_,_,_,hm,_,_=>by omega
 |m+1,i,h,acc,k,hi,h0,h3,hm,ha=>by
   unfold qJ
   refine Ok.eqb hx ?_
   split
   · rename_i hn
     simp only[decide_eq_true_eq]at hn
     refine Ok.bind (P:=fun o=>bW c.b o.1/\o.2.2.length<=acc.length+1) ?_ ?_
     · refine (wG (c:={b:=c.b,i:=i,h:=h}) 3 hi).bind fun q hq=>?_
       split
       · exact Ok.eqb (app1 (by omega)) (.pure ⟨hq,by simp⟩)
       · exact .pure ⟨hq,by simp⟩
     · rintro⟨i',h',acc'⟩ ⟨o1,o2⟩
       dsimp only at o1 o2 ⊢
       rw[dD (by omega) (by omega)]
       exact Gd c s r2 r6 r9 eP hx hx3 m i' h' acc' (k+1) o1 (by omega) (by omega) (by omega) (by omega)
   · exact .pure ⟨by show acc.length<=3; omega,hi⟩
theorem GQ{c:ai}{s:List Int}(hs:nu s)(h:bW c.b c.i):Ok (wJ 20 c s) fun p=>p.1.Inputs.length<=3/\bW c.b p.2.i:=by
 have hl:=hs.1
 refine (eX (s.length:Int) h).bind fun r2 h2=>?_
 refine (o_ (c:={b:=c.b,i:=r2.2.i,h:=r2.2.h}) [0,0,0,1,2] (by decide) h2.2).bind fun r6 h6=>?_
 refine (eX (c:={b:=c.b,i:=r6.2.i,h:=r6.2.h}) 5 h6.2).bind fun r9 h9=>?_
 refine (eX (c:={b:=c.b,i:=r9.2.i,h:=r9.2.h}) 6 h9.2).bind fun eP h12=>?_
 have:=h2.1
 obtain⟨x,e,-,hx⟩:=JI hs (r:=r2.1) (by omega) (by omega)
 exact Gd c s r2 r6 r9 eP e hx _ _ _ _ _ h12.2 (by omega) (by omega) (by decide) (by simp)
theorem N7{m:Method}(h:m.Inputs.length<=100):zT m:=Cy _ (by omega)
theorem Jq{α:Type}{p:α->Prop}{l:List α}{x:α}(h:fB p l)(hl:l.length<=1000)(hx:p x):fB p (l++[x]):=⟨by simp; omega,fun y hy=>by
 rcases List.mem_append.1 hy with hy|hy
 · exact h.2 y hy
 · rw[List.mem_singleton]at hy; exact hy ▸ hx⟩
theorem Gv(c:ai)(s:List Int)(w:Int)(hw:0<w)(r2:Int×ai){x:Int}(hx:ix s r2.1=some x)(hx1:1<=x)(hx3:x<=3):∀(m:Nat)(i h:Int)(acc:List Int)(k:Int),bW c.b i->0<=k->k<=3->k<=x->3-k<m->(acc.length:Int)=k->Ok (qU c s w r2 m i h acc k) fun p=>(1<=p.1.Values.length/\p.1.Values.length<=3)/\bW c.b p.2.i
 |0,_,_,_,_,_,_,hm,_,_,_=>by omega
 |m+1,i,h,acc,k,hi,h0,h3,hkx,hm,ha=>by
   unfold qU
   refine Ok.eqb hx ?_
   split
   · rename_i hn
     simp only[decide_eq_true_eq]at hn
     refine (eX (c:={b:=c.b,i:=i,h:=h}) w hi).bind fun r hr=>?_
     refine Ok.eqb (app1 (by omega)) ?_
     rw[dD (by omega) (by omega)]
     exact Gv c s w hw r2 hx hx1 hx3 m _ _ _ (k+1) hr.2 (by omega) (by omega) (by omega) (by omega) (by simp; omega)
   · rename_i hn
     simp only[decide_eq_true_eq]at hn
     exact .pure ⟨⟨by show 1<=acc.length; omega,by show acc.length<=3; omega⟩,hi⟩
theorem Hf{c:ai}{s:List Int}(hs:nu s)(w:Int)(hw:0<w)(h:bW c.b c.i):Ok (wV 20 c s w) fun p=>(1<=p.1.Values.length/\p.1.Values.length<=3)/\bW c.b p.2.i:=by
 have hl:=hs.1
 refine (eX (s.length:Int) h).bind fun r2 h2=>?_
 have:=h2.1
 obtain⟨x,e,h1,hx⟩:=JI hs (r:=r2.1) (by omega) (by omega)
 exact Gv c s w hw r2 e h1 hx _ _ _ _ _ h2.2 (by omega) (by omega) (by omega) (by decide) (by simp)
theorem Cn{f:aL}(h:f.Values.length<=100):jr f:=Cy _ (by omega)
theorem PG{l:List aL}{f:aL}(h:fB jr l)(hl:l.length<=1000)(hf:jr f):fB jr (rM l f):=⟨by have:=Im l f; omega,fun y hy=>by
 rcases OZ hy with rfl|hy
 · exact hf
 · exact h.2 y hy⟩
theorem Gm(c:ai){s:List Int}(hs:nu s){M:Nat}(hM:M<=500):∀(m:Nat)(i h:Int)(acc:List aL)(n:Int),bW c.b i->0<=n->n<m->(acc.length:Int)+n<=M->fB jr acc->Ok (qQ c s 20 m i h acc n) fun p=>(p.1.length<=M/\fB jr p.1)/\bW c.b p.2.i
 |0,_,_,_,_,_,_,hm,_,_=>by omega
 |m+1,i,h,acc,n,hi,h0,hm,h4,ha=>by
   unfold qQ
   split
   · rename_i hn
     simp only[decide_eq_true_eq]at hn
     refine (Hf (c:={b:=c.b,i:=i,h:=h}) hs 4 (by decide) hi).bind fun r hr=>?_
     have hb:jr r.1:=Cn (by omega)
     refine Ok.eqb (NC acc r.1 ha (by omega) hb) ?_
     have:=Im acc r.1
     rw[dD (by omega) (by omega)]
     exact Gm c hs hM m _ _ _ _ hr.2 (by omega) (by omega) (by omega) (PG ha (by omega) hb)
   · rename_i hn
     simp only[decide_eq_true_eq]at hn
     exact .pure ⟨⟨by (try dsimp only); omega,ha⟩,hi⟩
theorem G5{c:ai}{s:List Int}(hs:nu s){M:Nat}(hM:M<=500)(h:bW c.b c.i):Ok (uE 20 c s (M:Int)) fun p=>(p.1.length<=M/\fB jr p.1)/\bW c.b p.2.i:=by
 unfold uE
 rw[dD (by omega) (by omega)]
 refine (eX _ h).bind fun r hr=>?_
 have:=hr.1
 exact Gm c hs hM _ _ _ _ _ hr.2 (by omega) (by omega) (by simp; omega) CL
theorem CB{s:List Int}(h:rE s=true):nu s:=by
 simp only[rE,vD,Bool.and_eq_true,List.all_eq_true,decide_eq_true_eq]at h
 exact⟨by omega,by omega,h.2⟩
theorem Mw{c:ai}(s:List Int)(h:bW c.b c.i):Ok (wo 20 c s) fun p=>p.1.Inputs.length<=4/\bW c.b p.2.i:=by
 unfold wo
 refine Ok.eqb (BZ s) ?_
 have key:∀(m:Method)(c':ai),m.Inputs.length<=3->bW c'.b c'.i->c'.b=c.b->Ok ((dR c' 10).bind fun r9=>
   if ((r9.1:Int)==0)then (
     (iY ({b:=c.b,i:=r9.2.i,h:=r9.2.h}:ai) ([(-1),9,10]:List Int)).bind fun dx=>
     some (({Rel:=m.Rel,Inputs:=m.Inputs,Limit:=dx.1,Cost:=m.Cost,Quota:=m.Quota}:Method),({b:=c.b,i:=dx.2.i,h:=dx.2.h}:ai)))
   else (
     if ((r9.1:Int)==1)then (
       (dR ({b:=c.b,i:=r9.2.i,h:=r9.2.h}:ai) 5).bind fun r16=>
       (app m.Inputs ([(IntKind.i64.wrap (r16.1-1))]:List Int)).bind fun z20=>
       some (({Rel:=m.Rel,Inputs:=z20,Limit:=m.Limit,Cost:=m.Cost,Quota:=m.Quota}:Method),({b:=c.b,i:=r16.2.i,h:=r16.2.h}:ai)))
     else (
       if ((r9.1:Int)==2)then (
         (iY ({b:=c.b,i:=r9.2.i,h:=r9.2.h}:ai) ([0,99,100]:List Int)).bind fun gV=>
         some (({Rel:=m.Rel,Inputs:=m.Inputs,Limit:=m.Limit,Cost:=m.Cost,Quota:=gV.1}:Method),({b:=c.b,i:=gV.2.i,h:=gV.2.h}:ai)))
       else (
         if ((r9.1:Int)==3)then (
           (iY ({b:=c.b,i:=r9.2.i,h:=r9.2.h}:ai) ([(-1),99,100]:List Int)).bind fun nJ=>
           some (({Rel:=m.Rel,Inputs:=m.Inputs,Limit:=m.Limit,Cost:=nJ.1,Quota:=m.Quota}:Method),({b:=c.b,i:=nJ.2.i,h:=nJ.2.h}:ai)))
         else (
           some (m,({b:=c.b,i:=r9.2.i,h:=r9.2.h}:ai))))))) fun p=>p.1.Inputs.length<=4/\bW c.b p.2.i:=by
   intro m c' hm hc he
   refine (eX 10 hc).bind fun r9 h9=>?_
   rw[he]at h9
   split
   · exact (o_ (c:={b:=c.b,i:=r9.2.i,h:=r9.2.h}) _ (by decide) h9.2).bind fun r hr=>.pure ⟨Nat.le_succ_of_le hm,hr.2⟩
   split
   · refine (eX (c:={b:=c.b,i:=r9.2.i,h:=r9.2.h}) 5 h9.2).bind fun r hr=>?_
     exact Ok.eqb (app1 (by omega)) (.pure ⟨by simp; omega,hr.2⟩)
   split
   · exact (o_ (c:={b:=c.b,i:=r9.2.i,h:=r9.2.h}) _ (by decide) h9.2).bind fun r hr=>.pure ⟨Nat.le_succ_of_le hm,hr.2⟩
   split
   · exact (o_ (c:={b:=c.b,i:=r9.2.i,h:=r9.2.h}) _ (by decide) h9.2).bind fun r hr=>.pure ⟨Nat.le_succ_of_le hm,hr.2⟩
   · exact .pure ⟨Nat.le_succ_of_le hm,h9.2⟩
 cases hsc:rE s
 · rw[if_neg (by simp)]
   exact key {Rel:=0,Inputs:=[],Limit:=0,Cost:=0,Quota:=1} c (by simp) h rfl
 · rw[if_pos rfl]
   refine (GQ (CB hsc) h).bind fun r6 h6=>?_
   exact key r6.1 {b:=c.b,i:=r6.2.i,h:=r6.2.h} h6.1 h6.2 rfl
theorem Gw{c:ai}(s:List Int)(h:bW c.b c.i):Ok (ut 20 c s) fun p=>p.1.Values.length<=4/\bW c.b p.2.i:=by
 unfold ut
 refine Ok.eqb (BZ s) ?_
 cases hsc:rE s
 · rw[if_neg (by simp)]
   refine (eX 8 h).bind fun r9 h9=>?_
   split
   · exact (eX (c:={b:=c.b,i:=r9.2.i,h:=r9.2.h}) 5 h9.2).bind fun r hr=>.pure ⟨by simp,hr.2⟩
   split
   · refine (o_ (c:={b:=c.b,i:=r9.2.i,h:=r9.2.h}) _ (by decide) h9.2).bind fun r hr=>?_
     exact Ok.eqb rfl (Ok.eqb rfl (.pure ⟨by simp,hr.2⟩))
   split
   · exact Ok.eqb (app1 (by decide)) (.pure ⟨by simp,h9.2⟩)
   · exact .pure ⟨by simp,h9.2⟩
 · rw[if_pos rfl]
   refine (Hf (CB hsc) 10 (by decide) h).bind fun r7 h7=>?_
   obtain⟨v1,v2⟩:=h7.1
   refine (eX (c:={b:=c.b,i:=r7.2.i,h:=r7.2.h}) 8 h7.2).bind fun r9 h9=>?_
   split
   · exact (eX (c:={b:=c.b,i:=r9.2.i,h:=r9.2.h}) 5 h9.2).bind fun r hr=>.pure ⟨Nat.le_succ_of_le v2,hr.2⟩
   split
   · refine (o_ (c:={b:=c.b,i:=r9.2.i,h:=r9.2.h}) _ (by decide) h9.2).bind fun r hr=>?_
     exact Ok.eqb (kv (by simp; omega)) (Ok.eqb rfl (.pure ⟨by simp; omega,hr.2⟩))
   split
   · exact Ok.eqb (app1 (by omega)) (.pure ⟨by simp; omega,h9.2⟩)
   · exact .pure ⟨Nat.le_succ_of_le v2,h9.2⟩
theorem MP{c:ai}(s:List Int)(h:bW c.b c.i):Ok (wy 20 c s) fun p=>(p.1.length<=9/\fB jr p.1)/\bW c.b p.2.i:=by
 unfold wy
 refine Ok.eqb (BZ s) ?_
 cases hsc:rE s
 · rw[if_neg (by simp)]
   refine (wG 10 h).bind fun r9 h9=>?_
   split
   · refine (Gw (c:={b:=c.b,i:=r9.2.i,h:=r9.2.h}) s h9).bind fun r hr=>?_
     exact Ok.eqb (app1 (by decide)) (.pure ⟨⟨by simp,Jq CL (by simp) (Cn (by (try dsimp only); omega))⟩,hr.2⟩)
   · exact .pure ⟨⟨by simp,CL⟩,h9⟩
 · rw[if_pos rfl]
   refine (G5 (CB hsc) (M:=8) (by decide) h).bind fun r5 h5=>?_
   refine (wG (c:={b:=c.b,i:=r5.2.i,h:=r5.2.h}) 10 h5.2).bind fun r9 h9=>?_
   have:=h5.1.1
   split
   · refine (Gw (c:={b:=c.b,i:=r9.2.i,h:=r9.2.h}) s h9).bind fun r hr=>?_
     exact Ok.eqb (app1 (by omega)) (.pure ⟨⟨by simp; omega,Jq h5.1.2 (by (try dsimp only); omega) (Cn (by (try dsimp only); omega))⟩,hr.2⟩)
   · exact .pure ⟨⟨by (try dsimp only); omega,h5.1.2⟩,h9⟩
theorem Mx{c:ai}(h:bW c.b c.i):Ok (zz c) fun p=>p.1.length<=4/\bW c.b p.2.i:=by
 refine (GN h).bind fun r1 h1=>?_
 have:=h1.1.2.1
 refine (wG (c:={b:=c.b,i:=r1.2.i,h:=r1.2.h}) 14 h1.2).bind fun r4 h4=>?_
 split
 · refine (o_ (c:={b:=c.b,i:=r4.2.i,h:=r4.2.h}) _ (by decide) h4).bind fun r hr=>?_
   exact Ok.eqb (app1 (by omega)) (.pure ⟨by simp; omega,hr.2⟩)
 · exact .pure ⟨by (try dsimp only); omega,h4⟩
theorem Co:∀{a b:List Int},mY a b=true↔a=b
 |[],[]=>by simp[mY,gy]
 |[],_::_=>by simp[mY,gy]
 |_::_,[]=>by simp[mY,gy]
 |x::a,y::b=>by
   have h:=Co (a:=a) (b:=b)
   simp only[mY]at h
   simp[mY,gy,h]
theorem M3{a b:ak}:kR a b=true↔a=b:=by
 cases a; cases b; simp[kR,Co]
theorem Jr{α:Type}{p:α->α->Bool}(h:∀x y,p x y=true↔x=y):∀{a b:List α},gy p a b=true↔a=b
 |[],[]=>by simp[gy]
 |[],_::_=>by simp[gy]
 |_::_,[]=>by simp[gy]
 |x::a,y::b=>by simp[gy,h,Jr h (a:=a) (b:=b)]
theorem Ni(a b:List Int):zO a b=some (mY a b):=
 w_ (L:=qM) (f:=fun x y=>some (x==y)) (fun _ _=>rfl) (fun _ _=>rfl) (fun b x r k y h=>by rw[qM,jv,h]; rfl) a b (fun _ _ _ _=>rfl)
theorem Js(c:UInt8):∀l:List UInt8,Lib.indexByte l c= -1\/ ∃i:Nat,i<l.length/\Lib.indexByte l c=(i:Int)
 |[]=>.inl rfl
 |b::l=>by
   rw[Lib.indexByte]
   split
   · exact .inr ⟨0,by simp,rfl⟩
   · rcases Js c l with h|⟨i,h1,h2⟩
     · exact .inl (by rw[h]; rfl)
     · refine .inr ⟨i+1,by simp; omega,?_⟩
       rw[h2,if_neg (by simp)]; rfl
theorem QI(w:List UInt8)(c:UInt8)(hl:w.length<=1048576):∃h r b,wu w [c]=some (h,r,b)/\h.length<=w.length/\r.length<=w.length:=by
 unfold wu zl zk
 simp only[Option.bind_some]
 rcases Js c w with h|⟨i,h1,h2⟩
 · rw[h,if_neg (by simp)]
   exact⟨w,[],false,rfl,by omega,by simp⟩
 · rw[h2,if_pos (by simp)]
   have e:IntKind.i64.wrap ((i:Int)+([c].length:Int))=((i+1:Nat):Int):=by
     rw[dD (by simp; omega) (by simp; omega)]; simp
   rw[e,kv (by simp; omega),Option.bind_some,kv (by simp; omega),Option.bind_some,Option.bind_some]
   exact⟨_,_,_,rfl,by simp; omega,by simp⟩
theorem Qb(s p:List UInt8):∃b,vU s p=some b/\(b=true->p.length<=s.length):=by
 unfold vU
 by_cases h:(p.length:Int)<=(s.length:Int)
 · rw[decide_eq_true h,cond_true,kv (by simp),Option.bind_some,Option.bind_some]
   exact⟨_,rfl,fun _=>by omega⟩
 · rw[decide_eq_false h,cond_false,Option.bind_some]
   exact⟨_,rfl,fun h=>by simp at h⟩
theorem PH(s p:List UInt8):∃r,vW s p=some r/\r.length<=s.length:=by
 unfold vW zf
 obtain⟨b,e,h⟩:=Qb s p
 rw[e,Option.bind_some]
 cases b
 · exact⟨s,rfl,Nat.le_refl _⟩
 · have:=h rfl
   rw[if_pos rfl,kv (by simp; omega),Option.bind_some,Option.bind_some]
   exact⟨_,rfl,by simp⟩
theorem Jt(s p:List UInt8)(hl:s.length<=1048576):∃b,tX s p=some b/\(b=true->p.length<=s.length):=by
 unfold tX
 by_cases h:(p.length:Int)<=(s.length:Int)
 · rw[decide_eq_true h,cond_true,dD (by omega) (by omega),kv (by simp; omega),Option.bind_some,Option.bind_some]
   exact⟨_,rfl,fun _=>by omega⟩
 · rw[decide_eq_false h,cond_false,Option.bind_some]
   exact⟨_,rfl,fun h=>by simp at h⟩
theorem PI(s p:List UInt8)(hl:s.length<=1048576):∃r,tY s p=some r/\r.length<=s.length:=by
 unfold tY zh
 obtain⟨b,e,h⟩:=Jt s p hl
 rw[e,Option.bind_some]
 cases b
 · exact⟨s,rfl,Nat.le_refl _⟩
 · have:=h rfl
   rw[if_pos rfl,dD (by omega) (by omega),kv (by simp; omega),Option.bind_some,Option.bind_some]
   exact⟨_,rfl,by simp⟩
theorem Hz(sep:List UInt8):∀(k:Nat)(s:List UInt8),(Lib.splitK sep 0 k s).length<=k+1/\ ∀y∈Lib.splitK sep 0 k s,y.length<=s.length
 |0,s=>by simp[Lib.splitK]
 |k+1,s=>by
   rw[Lib.splitK]
   split
   · simp
   · obtain⟨h1,h2⟩:=Hz sep k (s.drop ((Lib.index s sep).toNat+sep.length))
     refine⟨by simp only[List.length_cons]; omega,fun y hy=>?_⟩
     rcases List.mem_cons.1 hy with rfl|hy
     · simp; omega
     · have:=h2 y hy
       simp at this; omega
theorem IU(s:List UInt8)(c:UInt8)(hl:s.length<=1048576):qD s [c]=some (Lib.split s [c])/\(Lib.split s [c]).length<=s.length+1/\ ∀y∈Lib.split s [c],y.length<=s.length:=by
 have hc:Lib.count s [c]<=s.length:=by rw[Lib.count_one]; exact List.count_le_length
 obtain⟨h1,h2⟩:=Hz [c] (Lib.count s [c]) s
 have h1':(Lib.split s [c]).length<=Lib.count s [c]+1:=h1
 refine⟨?_,by omega,h2⟩
 unfold qD zo
 dsimp only
 rw[if_pos ⟨rfl,rfl,by omega,by omega⟩]; rfl
theorem GR(s:List UInt8)(hl:s.length<=1048576):∃n b,uz s=some (n,b):=by
 unfold uz zu nR
 rw[if_pos (by omega),Option.bind_some]
 cases h1:(oC s).2
 · exact⟨_,_,rfl⟩
 simp only[Bool.not_true,cond_false,Option.bind_some]
 cases h2:(decide (-999999999<=(oC s).1)&&decide ((oC s).1<=999999999))
 · exact⟨_,_,rfl⟩
 simp only[Bool.and_eq_true,decide_eq_true_eq]at h2
 rw[Bool.not_true,cond_false,MO _ (by omega),Option.bind_some,Option.bind_some]
 split
 · exact⟨_,_,rfl⟩
 · exact⟨_,_,rfl⟩
theorem GU:∀(l:List (List UInt8))(k:Nat)(c:List Int),(∀y∈l,y.length<=1048576)->c.length+l.length<4294967295-> ∃v b,qN l k c=some (v,b)
 |[],k,c,_,_=>⟨_,_,rfl⟩
 |y::l,k,c,h,hc=>by
   simp only[List.length_cons]at hc
   obtain⟨n,b,e⟩:=GR y (h y (by simp))
   rw[qN,e,Option.bind_some]
   cases b
   · exact⟨_,_,rfl⟩
   · rw[if_neg (by simp),app1 (by omega),Option.bind_some]
     exact GU l _ _ (fun x hx=>h x (by simp[hx])) (by simp; omega)
theorem Nj(w:List UInt8)(hl:w.length<=1048576):∃n ws b,wM [109] w=some (n,ws,b)/\(∀y∈ws,y.length<=1048576)/\ws.length<=1048577:=by
 unfold wM
 obtain⟨h,r,b,e1,l1,l2⟩:=QI w 40 hl
 obtain⟨t,e2,l3⟩:=PH h [109]
 obtain⟨n,b2,e3⟩:=GR t (by omega)
 obtain⟨b3,e4,-⟩:=Jt r [41] (by omega)
 obtain⟨u,e5,l5⟩:=PI r [41] (by omega)
 obtain⟨e6,l6,l7⟩:=IU u 44 (by omega)
 rw[e1,Option.bind_some,e2,Option.bind_some,e3,Option.bind_some,zn,e4]
 dsimp only
 have key:∀o:Bool,∃n' ws b',((if o then some ((0:Int),([]:List (List UInt8)),false)else (tY r [41]).bind fun nI=>if (nI==[])then some (n,[],true)else (qD nI [44]).bind fun kN=>some (n,kN,true)):Option (Int×List (List UInt8)×Bool))=some (n',ws,b')/\(∀y∈ws,y.length<=1048576)/\ws.length<=1048577:=by
   intro o
   cases o
   · rw[if_neg (by simp),e5,Option.bind_some]
     split
     · exact⟨_,_,_,rfl,by simp,by simp⟩
     · rw[e6,Option.bind_some]
       exact⟨_,_,_,rfl,fun y hy=>by have:=l7 y hy; omega,by omega⟩
   · exact⟨_,_,_,rfl,by simp,by simp⟩
 cases b
 · exact key true
 cases b2
 · exact key true
 cases b3
 · exact key true
 · exact key false
theorem MQ(w:List UInt8)(hl:w.length<=1048576):∃a b,mO w=some (a,b)/\(b=true->cZ a=w):=by
 obtain⟨n,ws,b,e1,l1,l2⟩:=Nj w hl
 obtain⟨v,b2,e2⟩:=GU ws 0 [] l1 (by simp; omega)
 unfold mO zP
 rw[e1,Option.bind_some]
 dsimp only
 rw[e2,Option.bind_some,F6]
 cases b
 · exact⟨_,_,rfl,by simp⟩
 cases b2
 · exact⟨_,_,rfl,by simp⟩
 · exact⟨_,_,rfl,by simp⟩
def cz(c:UInt8):List UInt8->List UInt8->List (List UInt8)
 |p,[]=>[p]
 |p,b::l=>if b=c then p::cz c [] l else cz c (p++[b]) l
def sI(p:List UInt8):List (List UInt8)->List (List UInt8)
 |[]=>[]
 |h::t=>(p++h)::t
theorem CO(c:UInt8):∀(l p:List UInt8),cz c p l=sI p (cz c [] l)
 |[],p=>by simp[cz,sI]
 |b::l,p=>by
   unfold cz
   split
   · simp[sI]
   · rw[CO c l (p++[b]),List.nil_append,CO c l [b]]
     cases cz c [] l<;>simp[sI]
theorem uN(c:UInt8):∀(l p:List UInt8),1<=(cz c p l).length/\(cz c p l).length<=l.length+1
 |[],p=>by simp[cz]
 |b::l,p=>by
   unfold cz
   split
   · have:=uN c l []
     simp only[List.length_cons]; omega
   · have:=uN c l (p++[b])
     simp only[List.length_cons]; omega
theorem JJ(c:UInt8):∀(l p:List UInt8),c∉p-> ∀y∈cz c p l,c∉y
 |[],p,h,y,hy=>by simp[cz]at hy; subst hy; exact h
 |b::l,p,h,y,hy=>by
   unfold cz at hy
   split at hy
   · rcases List.mem_cons.1 hy with rfl|hy
     · exact h
     · exact JJ c l [] (by simp) y hy
   · rename_i hb
     exact JJ c l (p++[b]) (by simp[h]; exact fun e=>hb e.symm) y hy
theorem Ak(c:UInt8):∀(l p:List UInt8),∀y∈cz c p l,y.length<=p.length+l.length
 |[],p,y,hy=>by simp[cz]at hy; subst hy; simp
 |b::l,p,y,hy=>by
   unfold cz at hy
   simp only[List.length_cons]
   split at hy
   · rcases List.mem_cons.1 hy with rfl|hy
     · omega
     · have:=Ak c l [] y hy
       simp at this; omega
   · have:=Ak c l (p++[b]) y hy
     simp at this; omega
theorem Oy{c b:UInt8}(hb:b≠c)(l:List UInt8):∀k,Lib.splitK [c] 0 k (b::l)=sI [b] (Lib.splitK [c] 0 k l)
 |0=>rfl
 |k+1=>by
   have hp:[c].isPrefixOf (b::l)=false:=by simp[List.isPrefixOf,beq_eq_false_iff_ne.2 (Ne.symm hb)]
   rw[Lib.splitK,Lib.splitK,Lib.index,hp]
   have hge:=Lib.index_ge l [c]
   by_cases h:Lib.index l [c]= -1
   · simp[h,sI]
   · obtain⟨i,hi⟩:∃i:Nat,Lib.index l [c]=(i:Int):=⟨(Lib.index l [c]).toNat,by omega⟩
     rw[hi]
     have e1:((i:Int)== -1)=false:=by simp
     have e2:(((i:Int)+1)== -1)=false:=by simp; omega
     simp only[e1,Bool.false_eq_true,if_false,e2,sI]
     have e3:((i:Int)+1).toNat=i+1:=by omega
     rw[e3]
     simp
theorem Ip(c:UInt8):∀s:List UInt8,Lib.split s [c]=cz c [] s
 |[]=>by simp[Lib.split,cz,Lib.count_one,Lib.splitK]
 |b::l=>by
   have ih:=Ip c l
   unfold Lib.split at ih ⊢
   rw[Lib.count_one]at ih ⊢
   unfold cz
   by_cases h:b=c
   · subst h
     rw[if_pos rfl,List.count_cons_self,Lib.splitK]
     have:Lib.index (b::l) [b]=0:=by rw[Lib.index,if_pos (by simp[List.isPrefixOf])]
     rw[this,if_neg (by decide)]
     simp[ih]
   · rw[if_neg h,List.count_cons_of_ne (by simpa using h),Oy h,ih,List.nil_append,←CO]
theorem HV(s:List UInt8)(c:UInt8)(hl:s.length<=1048576):xh s c=some (cz c [] s):=by
 have key:∀(r:List UInt8)(i m:Nat)(out:List (List UInt8))(p:List UInt8),s.drop i=r->i<=s.length->r.length<m->out.length+r.length<4294967290->p.length+r.length<4294967290->pF s c m out p (i:Int)=some (out++cz c p r):=by
   intro r
   induction r with
   |nil=>
     intro i m out p h1 h2 h3 h4 h5
     obtain⟨m,rfl⟩:∃k,m=k+1:=⟨m-1,by omega⟩
     have hi:s.length<=i:=List.drop_eq_nil_iff.1 h1
     rw[pF,if_neg (by simp; omega),app1 (by simp at h4; omega),Option.bind_some,cz]
   |cons b r ih=>
     intro i m out p h1 h2 h3 h4 h5
     simp only[List.length_cons]at h3 h4 h5
     obtain⟨m,rfl⟩:∃k,m=k+1:=⟨m-1,by omega⟩
     have hg:s[i]?=some b:=by
       have:(s.drop i)[0]?=some b:=by rw[h1]; rfl
       simpa using this
     have hlt:=(List.getElem?_eq_some_iff.1 hg).1
     have hd:s.drop (i+1)=r:=by rw[←List.drop_drop,h1]; rfl
     have hw:IntKind.i64.wrap ((i:Int)+1)=((i+1:Nat):Int):=by rw[dD (by omega) (by omega)]; rfl
     rw[pF,if_pos (by simp; omega),jv,hg,Option.bind_some,hw]
     unfold cz
     by_cases h:b=c
     · subst h
       rw[if_pos (by simp),app1 (by omega),Option.bind_some,Option.bind_some]
       dsimp only
       rw[ih (i+1) m _ _ hd (by omega) (by omega) (by simp; omega) (by simp; omega),if_pos rfl,List.append_assoc]; rfl
     · have hne:¬ ((b.toNat:Int)==(c.toNat:Int))=true:=by
         rw[beq_iff_eq]; intro e
         exact h (UInt8.toNat_inj.1 (by omega))
       have hsl:(s.take ((i+1:Nat):Int).toNat).drop ((i:Nat):Int).toNat=[b]:=by
         rw[Int.toNat_natCast,Int.toNat_natCast,List.take_add_one,hg,List.drop_append_of_le_length (by simp; omega)]
         simp
       rw[if_neg hne,kv (by simp; omega),Option.bind_some,hsl,QH (by simp; omega),Option.bind_some,Option.bind_some]
       dsimp only
       rw[ih (i+1) m _ _ hd (by omega) (by omega) (by omega) (by simp; omega),if_neg h]
 exact key s 0 (((s.length:Int)-0).toNat+2) [] [] rfl (by omega) (by omega) (by simp; omega) (by simp; omega)
theorem IV(n:Int):-9223372036854775808<=IntKind.i64.wrap n/\IntKind.i64.wrap n<=9223372036854775807:=by
 unfold IntKind.wrap
 simp only[IntKind.bits,IntKind.signed]
 simp
 split<;>omega
theorem zq(s:List UInt8)(hl:s.length<=1048576):∀(m i:Nat)(c1 c2:Int),i<=s.length->s.length-i<m-> -9223372036854775808<=c1/\c1<=9223372036854775807-> ∃n b,qO s 20 m c1 c2 (i:Int)=some (n,b)
 |0,_,_,_,_,h,_=>by omega
 |m+1,i,c1,c2,hi,hm,hc=>by
   rw[qO]
   split
   · rename_i hlt
     simp only[Bool.and_eq_true,decide_eq_true_eq]at hlt
     have hi':i<s.length:=by omega
     have hw:IntKind.i64.wrap ((i:Int)+1)=((i+1:Nat):Int):=by rw[dD (by omega) (by omega)]; rfl
     rw[jv,List.getElem?_eq_getElem hi',hw]
     simp only[Option.bind_some]
     cases decide ((48:Int)<=(s[i].toNat:Int))
     · simp only[cond_false,Option.bind_some,Bool.false_eq_true,if_false]
       exact zq s hl m (i+1) c1 c2 (by omega) (by omega) hc
     · simp only[cond_true,Option.bind_some]
       split
       · simp only[Option.bind_some]
         exact zq s hl m (i+1) _ _ (by omega) (by omega) (IV _)
       · simp only[Option.bind_some]
         exact zq s hl m (i+1) c1 c2 (by omega) (by omega) hc
   · have fin:∀x:Int,-9223372036854775808<=x/\x<=9223372036854775807-> ∃n b,((bif (decide ((9:Int)<c2))then (some true)
           else (bif (decide ((10:Int)<(s.length:Int)))then (some true)
             else ((kr 20 x).bind fun tO=>
               some (!(tO==s))))).bind fun oV=>if oV then some ((0:Int),false)else some (x,true))=some (n,b):=fun x hx=>by
       rw[MN 19 x hx (by omega) (by omega)]
       cases decide ((9:Int)<c2)
       · cases decide ((10:Int)<(s.length:Int))
         · simp only[cond_false,Option.bind_some]
           split
           · exact⟨_,_,rfl⟩
           · exact⟨_,_,rfl⟩
         · exact⟨_,_,rfl⟩
       · exact⟨_,_,rfl⟩
     have tail:∀o:Bool,∃n b,((some o:Option Bool).bind fun jR=>if jR then (
         (bif (decide ((9:Int)<c2))then (some true)
           else (bif (decide ((10:Int)<(s.length:Int)))then (some true)
             else ((kr 20 (IntKind.i64.wrap (-c1))).bind fun tO=>
               some (!(tO==s))))).bind fun oV=>if oV then some ((0:Int),false)else some ((IntKind.i64.wrap (-c1)),true))
       else (
         (bif (decide ((9:Int)<c2))then (some true)
           else (bif (decide ((10:Int)<(s.length:Int)))then (some true)
             else ((kr 20 c1).bind fun y8=>
               some (!(y8==s))))).bind fun kP=>if kP then some (0,false)else some (c1,true)))=some (n,b):=fun o=>by
       cases o
       · rw[Option.bind_some,if_neg (by simp)]; exact fin c1 hc
       · rw[Option.bind_some,if_pos rfl]; exact fin _ (IV _)
     cases s with
     |nil=>exact tail false
     |cons b l=>
       have hx:ix (b::l) 0=some b:=rfl
       rw[hx]
       have hp:decide ((0:Int)<((b::l).length:Int))=true:=by simp
       rw[hp,cond_true,Option.bind_some]
       exact tail _
theorem HY(s:List UInt8)(hl:s.length<=1048576):∃n,uM 20 s=some n:=by
 obtain⟨n,b,e⟩:=zq s hl (((s.length:Int)-0).toNat+2) 0 0 0 (by omega) (by omega) (by omega)
 have e':zQ 20 s=some (n,b):=e
 rw[uM,e',Option.bind_some]
 cases b
 · exact⟨_,rfl⟩
 · exact⟨_,rfl⟩
theorem Ga(r:Int):∀(l:List (List UInt8))(k:Nat)(c:List Int),(∀y∈l,y.length<=1048576)->c.length+l.length<4294967295-> ∃a,qH 20 r l k c=some (.inl a)
 |[],k,c,_,_=>⟨_,rfl⟩
 |y::l,k,c,h,hc=>by
   simp only[List.length_cons]at hc
   obtain⟨n,e⟩:=HY y (h y (by simp))
   rw[qH,e,Option.bind_some,app1 (by omega),Option.bind_some]
   exact Ga r l _ _ (fun x hx=>h x (by simp[hx])) (by simp; omega)
theorem Gb(s:List UInt8)(hl:s.length<=1048576):∀(m i:Nat),i<=s.length->s.length-i<m-> ∃a,o8 s 20 m (i:Int)=some a
 |0,_,_,h=>by omega
 |m+1,i,hi,hm=>by
   rw[o8]
   split
   · rename_i hlt
     simp only[decide_eq_true_eq]at hlt
     have hi':i<s.length:=by omega
     have hw:IntKind.i64.wrap ((i:Int)+1)=((i+1:Nat):Int):=by rw[dD (by omega) (by omega)]; rfl
     have hw2:IntKind.i64.wrap ((s.length:Int)-1)=((s.length-1:Nat):Int):=by rw[dD (by omega) (by omega)]; omega
     have next:∃a,o8 s 20 m (IntKind.i64.wrap ((i:Int)+1))=some a:=by
       rw[hw]; exact Gb s hl m (i+1) (by omega) (by omega)
     obtain⟨a0,next⟩:=next
     have g1:ix s (i:Int)=some s[i]:=by rw[jv,List.getElem?_eq_getElem hi']
     have g2:ix s (((s.length-1:Nat):Int))=some (s[s.length-1]'(by omega)):=by rw[jv,List.getElem?_eq_getElem]
     have g3:ix s 0=some (s[0]'(by omega)):=by rw[show (0:Int)=((0:Nat):Int)from rfl,jv,List.getElem?_eq_getElem]
     rw[g1,hw2,g2,g3,next]
     simp only[Option.bind_some]
     cases h1:((s[i].toNat:Int)==40)
     · exact⟨a0,rfl⟩
     cases h2:(((s[s.length-1]'(by omega)).toNat:Int)==41)
     · exact⟨a0,rfl⟩
     cases h3:(((s[0]'(by omega)).toNat:Int)==109)
     · exact⟨a0,rfl⟩
     rw[beq_iff_eq]at h1 h2 h3
     have n0:i≠0:=fun e=>by subst e; omega
     have n1:i≠s.length-1:=fun e=>by subst e; omega
     obtain⟨jG,e33⟩:=HY ((s.take (i:Int).toNat).drop (1:Int).toNat) (by simp; omega)
     simp only[cond_true,Option.bind_some,if_true]
     rw[kv (by simp; omega),Option.bind_some,e33,Option.bind_some,hw,kv (by simp; omega),Option.bind_some]
     split
     · exact⟨_,rfl⟩
     · have hlen:((s.take ((s.length-1:Nat):Int).toNat).drop ((i+1:Nat):Int).toNat).length<=1048576:=by simp; omega
       rw[HV _ 44 hlen,Option.bind_some]
       obtain⟨a,ea⟩:=Ga jG (cz 44 [] ((s.take ((s.length-1:Nat):Int).toNat).drop ((i+1:Nat):Int).toNat)) 0 [] (fun y hy=>by have:=Ak 44 _ [] y hy; simp only[List.length_nil]at this; omega) (by have:=(uN 44 ((s.take ((s.length-1:Nat):Int).toNat).drop ((i+1:Nat):Int).toNat) []).2; simp only[List.length_nil]; omega)
       rw[ea]
       exact⟨a,rfl⟩
   · exact⟨_,rfl⟩
theorem M4(s:List UInt8)(hl:s.length<=1048576):∃a,pu 20 s=some a:=Gb s hl (((s.length:Int)-0).toNat+2) 0 (by omega) (by omega)
def pY(a:ak):Bool:=
 !(cZ a).contains 32&&(match mO (cZ a)with|some (b,true)=>b.Method==a.Method&&b.Values==a.Values|_=>false)&&
 (match pu 20 (cZ a)with|some b=>b.Method==a.Method&&b.Values==a.Values|_=>false)
def dg:List Int:=[0,1,2,3,4,5,6,7,8,9]
theorem uS{x:Int}(h:0<=x/\x<=9):x∈dg:=by
 simp only[dg,List.mem_cons,List.not_mem_nil,or_false]; omega
def rF(m:Int):Bool:=pY {Method:=m,Values:=[]}&&dg.all fun x=>pY {Method:=m,Values:=[x]}&&dg.all fun y=>pY {Method:=m,Values:=[x,y]}&&dg.all fun z=>pY {Method:=m,Values:=[x,y,z]}
theorem Tc:rF 0=true:=by decide+kernel
theorem Td:rF 1=true:=by decide+kernel
theorem Te:rF 2=true:=by decide+kernel
theorem Tf:rF 3=true:=by decide+kernel
theorem Tg:rF 4=true:=by decide+kernel
theorem CP{a:ak}(h:kX a=true):pY a=true:=by
 obtain⟨h1,h2,h3⟩:=He h
 obtain⟨m,v⟩:=a
 dsimp only at h1 h2 h3
 have hm:rF m=true:=by
   have:m=0\/m=1\/m=2\/m=3\/m=4:=by omega
   rcases this with rfl|rfl|rfl|rfl|rfl
   · exact Tc
   · exact Td
   · exact Te
   · exact Tf
   · exact Tg
 simp only[rF,Bool.and_eq_true,List.all_eq_true]at hm
 obtain⟨k0,k1⟩:=hm
 match v,h2,h3 with
 |[],_,_=>exact k0
 |[x],_,h3=>exact (k1 x (uS (h3 x (by simp)))).1
 |[x,y],_,h3=>exact ((k1 x (uS (h3 x (by simp)))).2 y (uS (h3 y (by simp)))).1
 |[x,y,z],_,h3=>exact ((k1 x (uS (h3 x (by simp)))).2 y (uS (h3 y (by simp)))).2 z (uS (h3 z (by simp)))
 |_::_::_::_::_,h2,_=>simp at h2
theorem JK{a b:ak}(h:(b.Method==a.Method&&b.Values==a.Values)=true):b=a:=by
 cases a; cases b
 simp only[Bool.and_eq_true,beq_iff_eq]at h
 rw[h.1,h.2]
theorem Kg{a:ak}(h:kX a=true):mO (cZ a)=some (a,true):=by
 have:=CP h
 unfold pY at this
 simp only[Bool.and_eq_true]at this
 have h1:=this.1.2
 split at h1
 · rename_i b e
   rw[e,JK h1]
 · simp at h1
theorem Ti{a:ak}(h:kX a=true):pu 20 (cZ a)=some a:=by
 have:=CP h
 unfold pY at this
 simp only[Bool.and_eq_true]at this
 have h1:=this.2
 split at h1
 · rename_i b e
   rw[e,JK h1]
 · simp at h1
theorem JL{a:ak}(h:kX a=true):(32:UInt8)∉cZ a:=by
 have:=CP h
 unfold pY at this
 simp only[Bool.and_eq_true]at this
 have h1:=this.1.1
 intro hm
 simp[hm]at h1
def gF(w:List UInt8):ak:=(pu 20 w).getD {Method:=-1,Values:=[]}
theorem QJ{w:List UInt8}(hl:w.length<=1048576):pu 20 w=some (gF w):=by
 obtain⟨a,e⟩:=M4 w hl
 unfold gF; rw[e]; rfl
theorem CE{a:ak}(h:kX a=true):gF (cZ a)=a:=by unfold gF; rw[Ti h]; rfl
theorem rG{a:ak}(h:cZ a≠[]):kX a=true:=by
 unfold cZ at h
 cases hk:kX a
 · rw[hk]at h; simp at h
 · rfl
theorem CQ{c:UInt8}:∀(x p t:List UInt8),c∉x->cz c p (x++t)=cz c (p++x) t
 |[],p,t,_=>by simp
 |b::x,p,t,h=>by
   rw[List.cons_append,cz,if_neg (fun e=>h (by simp[e])),CQ x _ t (fun hx=>h (by simp[hx]))]
   simp
theorem IW{c:UInt8}:∀(r:List (List UInt8))(p:List UInt8),(∀y∈r,c∉y)->cz c p (Lib.joinTail [c] r)=p::r
 |[],p,_=>rfl
 |y::r,p,h=>by
   have e:Lib.joinTail [c] (y::r)=c::(y++Lib.joinTail [c] r):=by simp[Lib.joinTail]
   rw[e,cz,if_pos rfl,CQ y [] _ (h y (by simp)),List.nil_append,IW r y fun z hz=>h z (by simp[hz])]
theorem IX{c:UInt8}{A:List (List UInt8)}(hA:A≠[])(h:∀y∈A,c∉y):cz c [] (Lib.join A [c])=A:=by
 cases A with
 |nil=>exact absurd rfl hA
 |cons x r=>rw[Lib.join_cons,CQ x [] _ (h x (by simp)),List.nil_append,IW r x fun z hz=>h z (by simp[hz])]
theorem CG{c:UInt8}:∀(s p:List UInt8),Lib.join (cz c p s) [c]=p++s
 |[],p=>by simp[cz,Lib.join_one]
 |b::s,p=>by
   unfold cz
   split
   · rename_i h
     subst h
     have ih:=CG (c:=b) s []
     rw[Lib.join_cons]
     have hne:=(uN b s []).1
     cases hL:cz b [] s with
     |nil=>rw[hL]at hne; simp at hne
     |cons y r=>
       rw[hL,Lib.join_cons,List.nil_append]at ih
       simp only[Lib.joinTail,List.map_cons,List.flatten_cons,List.cons_append,List.nil_append]at ih ⊢
       rw[ih]
   · rw[CG s (p++[b])]; simp
def good(w:List UInt8):Bool:=cZ (gF w)==w&&!(w==[])
theorem uI{w:List UInt8}:good w=true↔cZ (gF w)=w/\w≠[]:=by
 simp[good]
theorem VP{w:List UInt8}(hl:w.length<=1048576):∃a,mO w=some (a,good w)/\(good w=true->a=gF w):=by
 obtain⟨a,b,e,h⟩:=MQ w hl
 cases b
 · cases hg:good w
   · exact⟨a,e,by simp⟩
   · obtain⟨g1,g2⟩:=uI.1 hg
     have:=Kg (rG (a:=gF w) (by rw[g1]; exact g2))
     rw[g1,e]at this
     simp at this
 · have h1:=h rfl
   have hne:w≠[]:=by
     intro hw
     subst hw
     have e0:∃a,mO []=some (a,false):=⟨_,rfl⟩
     obtain⟨a0,e0⟩:=e0
     rw[e0]at e
     simp at e
   have ha:gF w=a:=by rw[←h1]; exact CE (rG (by rw[h1]; exact hne))
   have hg:good w=true:=uI.2 ⟨by rw[ha]; exact h1,hne⟩
   exact⟨a,by rw[hg]; exact e,fun _=>ha.symm⟩
theorem Gf:∀(p:List (List UInt8))(k:Nat)(c:List ak),(∀y∈p,y.length<=1048576)->c.length+p.length<4294967295->pg p k c=some (if p.all good then (c++p.map gF,true)else ([],false))
 |[],k,c,_,_=>by simp[pg]
 |w::p,k,c,h,hc=>by
   simp only[List.length_cons]at hc
   obtain⟨a,e,ha⟩:=VP (h w (by simp))
   rw[pg,e,Option.bind_some,List.all_cons]
   cases hg:good w
   · rfl
   · have:=ha hg
     subst this
     rw[if_neg (by simp),app1 (by omega),Option.bind_some,Gf p _ _ (fun y hy=>h y (by simp[hy])) (by simp; omega),Bool.true_and,List.map_cons,List.append_assoc]
     rfl
theorem Qd{s:List UInt8}(hs:s≠[]):(eU ((cz 32 [] s).map gF)==s)=(cz 32 [] s).all good:=by
 have hne:cz 32 [] s≠[]:=fun e=>by have:=(uN 32 s []).1; rw[e]at this; simp at this
 rw[Bool.eq_iff_iff,beq_iff_eq,List.all_eq_true]
 have hmap:(cz 32 [] s).map gF≠[]:=by simpa using hne
 unfold eU
 rw[if_neg hmap]
 constructor
 · intro h
   split at h
   · exact absurd h.symm hs
   · rename_i hany
     simp only[List.any_eq_true,not_exists,not_and,beq_iff_eq]at hany
     have hk:cz 32 [] s=((cz 32 [] s).map gF).map cZ:=by
       have:=IX (c:=32) (A:=((cz 32 [] s).map gF).map cZ) (by simpa using hne) fun y hy=>by
         obtain⟨a,ha,rfl⟩:=List.mem_map.1 hy
         exact JL (rG (hany a ha))
       rw[h]at this
       exact this
     intro w hw
     have hk2:(cz 32 [] s).map id=(cz 32 [] s).map fun w=>cZ (gF w):=by rw[List.map_id]; rw[List.map_map]at hk; exact hk
     have:=List.map_inj_left.1 hk2 w hw
     refine uI.2 ⟨this.symm,fun e=>?_⟩
     exact hany (gF w) (List.mem_map_of_mem hw) (by rw[←this]; exact e)
 · intro h
   have hk:((cz 32 [] s).map gF).map cZ=cz 32 [] s:=by
     rw[List.map_map]
     conv=>rhs; rw[←List.map_id (cz 32 [] s)]
     exact List.map_congr_left fun w hw=>(uI.1 (h w hw)).1
   rw[if_neg (by
     simp only[List.any_eq_true,not_exists,not_and,beq_iff_eq]
     intro a ha
     obtain⟨w,hw,rfl⟩:=List.mem_map.1 ha
     obtain⟨g1,g2⟩:=uI.1 (h w hw)
     rw[g1]; exact g2),hk]
   exact CG s []
theorem MR{K:Nat}(hK:2<=K)(log:List ak)(h:log.length<=2000000):lL K log=some (eU log):=by
 unfold lL eU
 cases log with
 |nil=>rfl
 |cons a l=>
   simp only[List.length_cons]at h
   have h11:=rA a
   rw[if_neg (by simp)]
   unfold mM
   rw[BO hK,Option.bind_some]
   cases he:cZ a==[]
   · have e2:bM [] (cZ a)=some (cZ a):=by unfold bM; rw[if_pos (by simp; omega)]; rfl
     have hne:cZ a≠[]:=by simpa using he
     rw[if_neg (by simp),if_neg (by simp),e2,Option.bind_some,Option.bind_some]
     dsimp only
     rw[BP hK l _ _ (by omega) hne (by omega)]
     simp only[List.any_cons,he,Bool.false_or,List.map_cons]
     rw[pI]
   · rw[if_pos rfl,Option.bind_some]
     have hE:cZ a=[]:=by simpa using he
     simp[hE]
theorem Gg(s:List UInt8)(p:List (List UInt8))(hp:∀y∈p,y.length<=1048576)(hl:p.length<=1048577):∀(m i:Nat),i<=p.length->p.length-i<m->qP s p 20 m ((p.take i).map gF) (i:Int)=some (if eU (p.map gF)==s then (p.map gF,true)else ([],false))
 |0,_,_,h=>by omega
 |m+1,i,hi,hm=>by
   rw[qP]
   split
   · rename_i hlt
     simp only[decide_eq_true_eq]at hlt
     have hi':i<p.length:=by omega
     have hw:IntKind.i64.wrap ((i:Int)+1)=((i+1:Nat):Int):=by rw[dD (by omega) (by omega)]; rfl
     rw[jv,List.getElem?_eq_getElem hi',Option.bind_some,QJ (hp _ (List.getElem_mem hi')),Option.bind_some,app1 (by simp; omega),Option.bind_some,hw]
     have:=Gg s p hp hl m (i+1) (by omega) (by omega)
     rw[List.take_add_one,List.getElem?_eq_getElem hi',List.map_append]at this
     exact this
   · rename_i hlt
     simp only[decide_eq_true_eq]at hlt
     have:p.take i=p:=List.take_of_length_le (by omega)
     rw[this,MR (by omega) _ (by simp; omega),Option.bind_some]
     cases eU (p.map gF)==s
     · rfl
     · rfl
def kY(s:List UInt8):List ak×Bool:=if s=[110,111,110,101]then ([],true)else if (cz 32 [] s).all good then ((cz 32 [] s).map gF,true)else ([],false)
theorem AL{s:List UInt8}(hl:s.length<=1048576):(∀y∈cz 32 [] s,y.length<=1048576)/\(cz 32 [] s).length<=1048577:=⟨fun y hy=>by
 have:=Ak 32 s [] y hy
 simp at this; omega,by have:=(uN 32 s []).2; omega⟩
theorem GV(s:List UInt8)(hl:s.length<=1048576):uA s=some (kY s):=by
 unfold uA kY
 by_cases h:s=[110,111,110,101]
 · rw[if_pos (by simpa using h),if_pos h]
 · rw[if_neg (by simpa using h),if_neg h,(IU s 32 hl).1,Option.bind_some,Ip,Gf _ 0 [] (AL hl).1 (by have:=(AL hl).2; simp; omega),List.nil_append]
theorem IY:good []=false:=by simp[good]
theorem Nk(s:List UInt8)(hl:s.length<=1048576):wN 20 s=some (kY s):=by
 unfold wN kY
 by_cases h:s=[110,111,110,101]
 · subst h; rfl
 · by_cases h0:s=[]
   · subst h0
     simp[cz,IY]
   · rw[if_neg (by simp[h,h0]),if_neg h,HV s 32 hl,Option.bind_some]
     have:=Gg s (cz 32 [] s) (AL hl).1 (AL hl).2 ((((cz 32 [] s).length:Int)-0).toNat+2) 0 (by omega) (by omega)
     rw[Qd h0]at this
     exact this
theorem Ma(a:ak):∀(m:Nat)(c:List Int)(i:Nat),i<=a.Values.length->a.Values.length-i<m->c.length+(a.Values.length-i)<4294967295->a.Values.length<4294967296->
   qB a m c (i:Int)=some ((a.Values.drop i).foldl jC c):=by
 intro m
 induction m with
 |zero=>intro c i _ h _ _; omega
 |succ m ih=>
   intro c i hi hm hc hb
   unfold qB
   by_cases hlt:i<a.Values.length
   · rw[if_pos (by simpa using hlt),jv,List.getElem?_eq_getElem hlt,Option.bind_some,Ox _ _ (by omega),Option.bind_some,show IntKind.i64.wrap ((i:Int)+1)=((i+1:Nat):Int)from by rw[dD (by omega) (by omega)]; rfl]
     have:=IP (l:=c) (x:=a.Values[i])
     rw[ih _ (i+1) (by omega) (by omega) (by omega) hb,List.drop_eq_getElem_cons hlt,List.foldl_cons]
   · rw[if_neg (by simpa using hlt),List.drop_eq_nil_of_le (by omega)]; rfl
def jy(v:List ak):List Int:=v.flatMap (·.Values)
theorem FV:∀(v:List ak)(k:Nat)(c:List Int),c.length+(jy v).length<4294967295->qC v k c=some ((jy v).foldl jC c)
 |[],k,c,_=>rfl
 |a::v,k,c,h=>by
   simp only[jy,List.flatMap_cons,List.length_append]at h
   unfold qC
   rw[show (((a.Values.length:Int)-0).toNat+2)=a.Values.length+2 by omega,show (0:Int)=((0:Nat):Int)from rfl,Ma a _ c 0 (by omega) (by omega) (by omega) (by omega),Option.bind_some]
   dsimp only
   have:=IR (v:=a.Values) (l:=c)
   rw[List.drop_zero,FV v _ _ (by simp only[jy]; omega)]
   simp[jy]
theorem FW:∀(v:List ak)(k:Nat)(c:List Int),c.length+(jy v).length<4294967296->o6 v k c=some (Lib.compact ((c++jy v).mergeSort fun x y=>decide (x<=y)))
 |[],k,c,_=>by simp[o6,BK,BJ,jy]
 |a::v,k,c,h=>by
   simp only[jy,List.flatMap_cons,List.length_append]at h
   unfold o6
   rw[jU (by omega),Option.bind_some,FW v _ _ (by simp only[jy,List.length_append]; omega)]
   simp[jy]
theorem FX(c:ai){s:List Int}(hs:nu s):∀(m:Nat)(i h:Int)(acc:List Method)(n:Int),bW c.b i->0<=n->n<m->(acc.length:Int)+n<=4->(∀x∈acc,x.Inputs.length<=4)->Ok (qG c s 20 m i h acc n) fun p=>(p.1.length<=4/\ ∀x∈p.1,x.Inputs.length<=4)/\bW c.b p.2.i
 |0,_,_,_,_,_,_,hm,_,_=>by omega
 |m+1,i,h,acc,n,hi,h0,hm,h4,ha=>by
   unfold qG
   split
   · rename_i hn
     simp only[decide_eq_true_eq]at hn
     refine (GQ (c:={b:=c.b,i:=i,h:=h}) hs hi).bind fun r hr=>?_
     refine Ok.eqb (app1 (by omega)) ?_
     rw[dD (by omega) (by omega)]
     refine FX c hs m _ _ _ _ hr.2 (by omega) (by omega) (by simp; omega) fun x hx=>?_
     rcases List.mem_append.1 hx with hx|hx
     · exact ha x hx
     · rw[List.mem_singleton]at hx; subst hx; have:=hr.1; omega
   · exact .pure ⟨⟨by (try dsimp only); omega,ha⟩,hi⟩
theorem MS{c:ai}{s:List Int}(hs:nu s)(h:bW c.b c.i):Ok (zG 20 c s) fun p=>(p.1.length<=4/\ ∀x∈p.1,x.Inputs.length<=4)/\bW c.b p.2.i:=by
 refine (eX 4 h).bind fun r hr=>?_
 have:=hr.1
 rw[dD (by omega) (by omega)]
 exact FX c hs _ _ _ _ _ hr.2 (by omega) (by omega) (by simp; omega) (by simp)
theorem QK{l:List Method}(hl:l.length<=5)(h:∀x∈l,x.Inputs.length<=4):fB zT l:=⟨by omega,fun x hx=>N7 (by have:=h x hx; omega)⟩
theorem NE{c:ai}(h:bW c.b c.i):Ok (wW 20 c) fun p=>(p.2.1.length<=5/\fB zT p.2.1/\ ∀x∈p.2.1,x.Inputs.length<=4)/\bW c.b p.2.2.2.i:=by
 have key:Ok (wW 20 c) fun p=>(p.2.1.length<=5/\ ∀x∈p.2.1,x.Inputs.length<=4)/\bW c.b p.2.2.2.i:=by
   refine (GN h).bind fun r1 h1=>?_
   have hs:=h1.1.2.1
   refine (MS (c:={b:=c.b,i:=r1.2.i,h:=r1.2.h}) h1.1 h1.2).bind fun r4 h4=>?_
   refine (G5 (c:={b:=c.b,i:=r4.2.i,h:=r4.2.h}) h1.1 (M:=8) (by decide) h4.2).bind fun r7 h7=>?_
   refine (eX (c:={b:=c.b,i:=r7.2.i,h:=r7.2.h}) 20 h7.2).bind fun r9 h9=>?_
   have hm:=h4.1.1
   split
   · refine (Mw (c:={b:=c.b,i:=r9.2.i,h:=r9.2.h}) r1.1 h9.2).bind fun r hr=>?_
     refine Ok.eqb (app1 (by omega)) (.pure ⟨⟨by simp; omega,fun x hx=>?_⟩,hr.2⟩)
     rcases List.mem_append.1 hx with hx|hx
     · exact h4.1.2 x hx
     · rw[List.mem_singleton]at hx; subst hx; exact hr.1
   split
   · exact (MP (c:={b:=c.b,i:=r9.2.i,h:=r9.2.h}) r1.1 h9.2).bind fun r hr=>.pure ⟨⟨by (try dsimp only); omega,h4.1.2⟩,hr.2⟩
   split
   · exact (Mx (c:={b:=c.b,i:=r9.2.i,h:=r9.2.h}) h9.2).bind fun r hr=>.pure ⟨⟨by (try dsimp only); omega,h4.1.2⟩,hr.2⟩
   · exact .pure ⟨⟨by (try dsimp only); omega,h4.1.2⟩,h9.2⟩
 exact key.weak fun p hp=>⟨⟨hp.1.1,QK hp.1.1 hp.1.2,hp.1.2⟩,hp.2⟩
theorem Gh(c:ai){l:List Method}(r2:Int×ai){x:Method}(hx:ix l r2.1=some x)(hx4:x.Inputs.length<=4):∀(m:Nat)(i h:Int)(acc:List Int)(k:Int),bW c.b i->0<=k->k<=4->4-k<m->(acc.length:Int)=k->Ok (qL c l r2 m i h acc k) fun p=>p.1.Values.length<=5/\bW c.b p.2.i
 |0,_,_,_,_,_,_,_,hm,_=>by omega
 |m+1,i,h,acc,k,hi,h0,h4,hm,ha=>by
   unfold qL
   refine Ok.eqb hx ?_
   split
   · rename_i hlt
     simp only[decide_eq_true_eq]at hlt
     refine (eX (c:={b:=c.b,i:=i,h:=h}) 4 hi).bind fun r hr=>?_
     refine Ok.eqb (app1 (by omega)) ?_
     rw[dD (by omega) (by omega)]
     exact Gh c r2 hx hx4 m _ _ _ _ hr.2 (by omega) (by omega) (by omega) (by simp; omega)
   · exact .pure ⟨by (try dsimp only); omega,hi⟩
theorem Nl{c:ai}{l:List Method}(hl:l.length<=5)(hb:∀x∈l,x.Inputs.length<=4)(h:bW c.b c.i):Ok (wK 20 c l) fun p=>p.1.Values.length<=5/\bW c.b p.2.i:=by
 unfold wK
 split
 · exact .pure ⟨by simp,h⟩
 rename_i hne
 have hne':l.length≠0:=by simpa using hne
 refine (eX (l.length:Int) h).bind fun r hr=>?_
 have h1:r.1.toNat<l.length:=by omega
 exact Gh c r (x:=l[r.1.toNat]) (by rw[ix,if_pos (by omega),List.getElem?_eq_getElem h1]) (hb _ (List.getElem_mem h1)) 20 _ _ _ _ hr.2 (by omega) (by omega) (by omega) (by simp)
theorem MB{c:ai}{l:List Method}(hl:l.length<=5)(hb:∀x∈l,x.Inputs.length<=4)(h:bW c.b c.i):Ok (zA 20 c l) fun p=>p.1.Values.length<=6/\bW c.b p.2.i:=by
 refine (Nl hl hb h).bind fun r hr=>?_
 refine (eX (c:={b:=c.b,i:=r.2.i,h:=r.2.h}) 12 hr.2).bind fun r6 h6=>?_
 have:=hr.1
 split
 · exact (eX (c:={b:=c.b,i:=r6.2.i,h:=r6.2.h}) 7 h6.2).bind fun r9 h9=>.pure ⟨by (try dsimp only); omega,h9.2⟩
 split
 · refine (o_ (c:={b:=c.b,i:=r6.2.i,h:=r6.2.h}) _ (by decide) h6.2).bind fun dx WH=>?_
   exact Ok.eqb (app1 (by omega)) (.pure ⟨by simp; omega,WH.2⟩)
 · exact .pure ⟨by (try dsimp only); omega,h6.2⟩
theorem GX(r1:ai)(r4:List Int×List Method×List aL×ai)(hl:r4.2.1.length<=5)(hb:∀x∈r4.2.1,x.Inputs.length<=4):∀(m:Nat)(i h:Int)(acc:List ak)(n:Int),bW r1.b i->0<=n->n<m->(acc.length:Int)+n<=7->(∀a∈acc,a.Values.length<=6)->
   Ok (ru r1 20 r4 m i h acc n) fun p=>p.1=r4.2.1/\p.2.length<=7/\ ∀a∈p.2,a.Values.length<=6
 |0,_,_,_,_,_,_,hm,_,_=>by omega
 |m+1,i,h,acc,n,hi,h0,hm,h7,ha=>by
   unfold ru
   split
   · rename_i hn
     simp only[decide_eq_true_eq]at hn
     refine (MB (c:={b:=r1.b,i:=i,h:=h}) hl hb hi).bind fun r hr=>?_
     refine Ok.eqb (app1 (by omega)) ?_
     rw[dD (by omega) (by omega)]
     refine GX r1 r4 hl hb m _ _ _ _ hr.2 (by omega) (by omega) (by simp; omega) fun a hm=>?_
     rcases List.mem_append.1 hm with hm|hm
     · exact ha a hm
     · simp at hm; subst hm; exact hr.1
   · exact .pure ⟨rfl,by (try dsimp only); omega,ha⟩
theorem zR(code:List UInt8)(hc:code.length<=1048576):Ok (uL 20 code) fun p=>(p.1.length<=5/\fB zT p.1)/\p.2.length<=7/\ ∀a∈p.2,a.Values.length<=6:=by
 refine (Hy code hc).bind fun r1 h1=>?_
 have vH:bW r1.b r1.i:=by rw[h1.1]; exact h1.2
 refine (NE vH).bind fun r4 h4=>?_
 refine (eX (c:={b:=r1.b,i:=r4.2.2.2.i,h:=r4.2.2.2.h}) 8 h4.2).bind fun r8 h8=>?_
 exact (GX r1 r4 h4.1.1 h4.1.2.2 _ _ _ _ _ h8.2 (by omega) (by omega) (by simp; omega) (by simp)).weak fun p hp=>⟨by rw[hp.1]; exact⟨h4.1.1,h4.1.2.1⟩,hp.2⟩
theorem Gx(c:ai)(r2:Int×ai):∀(m:Nat)(i h:Int)(acc:List UInt8)(n:Int),bW c.b i->0<=n->n<m->(acc.length:Int)+n<=100->Ok (qX c r2 m i h acc n) fun p=>p.1.length<=100/\bW c.b p.2.i
 |0,_,_,_,_,_,_,hm,_=>by omega
 |m+1,i,h,acc,n,hi,h0,hm,h3=>by
   unfold qX
   split
   · rename_i hn
     simp only[decide_eq_true_eq]at hn
     have key:Ok ((kT ({b:=c.b,i:=i,h:=h}:ai)).bind fun dN=>
       if ((r2.1:Int)==1)then (
         if ((r2.1:Int)==2)then (
           (app acc ([(dO (IntKind.i64.wrap (97+(Int.tmod (Int.tmod dN.1 2) 4))))]:List UInt8)).bind fun z69=>
           some (dN.2.i,dN.2.h,z69))
         else (
           (app acc ([(dO (Int.tmod dN.1 2))]:List UInt8)).bind fun z73=>
           some (dN.2.i,dN.2.h,z73)))
       else (
         if ((r2.1:Int)==2)then (
           (app acc ([(dO (IntKind.i64.wrap (97+(Int.tmod dN.1 4))))]:List UInt8)).bind fun z78=>
           some (dN.2.i,dN.2.h,z78))
         else (
           (app acc ([(dO dN.1)]:List UInt8)).bind fun z82=>
           some (dN.2.i,dN.2.h,z82)))) fun p=>bW c.b p.1/\p.2.2.length=acc.length+1:=by
       refine (qY (c:={b:=c.b,i:=i,h:=h}) hi).bind fun r hr=>?_
       split
       · split
         · exact Ok.eqb (app1 (by omega)) (.pure ⟨hr.2,by simp⟩)
         · exact Ok.eqb (app1 (by omega)) (.pure ⟨hr.2,by simp⟩)
       · split
         · exact Ok.eqb (app1 (by omega)) (.pure ⟨hr.2,by simp⟩)
         · exact Ok.eqb (app1 (by omega)) (.pure ⟨hr.2,by simp⟩)
     refine key.bind fun p hp=>?_
     obtain⟨p1,p2,p3⟩:=p
     dsimp only at hp ⊢
     rw[dD (by omega) (by omega)]
     exact Gx c r2 m _ _ _ _ hp.1 (by omega) (by omega) (by omega)
   · exact .pure ⟨by (try dsimp only); omega,hi⟩
theorem N8{c:ai}(n:Int)(h0:0<=n)(hn:n<=50)(h:bW c.b c.i):Ok (z8 c n) fun p=>p.1.length<=100/\bW c.b p.2.i:=by
 refine (eX 4 h).bind fun r2 h2=>?_
 rw[dD (by omega) (by omega)]
 refine (eX (c:={b:=c.b,i:=r2.2.i,h:=r2.2.h}) (n+1) h2.2).bind fun r5 h5=>?_
 exact Gx c r2 _ _ _ _ _ h5.2 (by omega) (by omega) (by simp; omega)
theorem xx{s t:List UInt8}(h:s.length+t.length<4611686018427387904):bM s t=some (s++t):=by unfold bM; rw[if_pos h]
theorem NF{c:ai}{s:List UInt8}(hs:s.length<=2000)(h:bW c.b c.i):Ok (wS c s) fun p=>p.1.length<=2100:=by
 unfold wS
 split
 · exact (N8 3 (by decide) (by decide) h).bind fun r hr=>.pure (by have:=hr.1; (try dsimp only); omega)
 rename_i hne
 have hne':s.length≠0:=by simpa using hne
 refine (eX (s.length:Int) h).bind fun r4 h4=>?_
 have hr:0<=r4.1/\r4.1<s.length:=by omega
 have hw:IntKind.i64.wrap (r4.1+1)=r4.1+1:=dD (by omega) (by omega)
 have c1:fP (decide (0<=r4.1)&&decide (r4.1<=((s).length:Int)))=some ():=kv (by simp; omega)
 have c2:fP (decide (0<=(IntKind.i64.wrap (r4.1+1)))&&decide ((IntKind.i64.wrap (r4.1+1))<=((s).length:Int)))=some ():=kv (by rw[hw]; simp; omega)
 have hix:ix s r4.1=some (s[r4.1.toNat]'(by omega)):=by rw[ix,if_pos hr.1,List.getElem?_eq_getElem]
 refine (eX (c:={b:=c.b,i:=r4.2.i,h:=r4.2.h}) 4 h4.2).bind fun r7 h7=>?_
 split
 · exact Ok.eqb c1 (Ok.eqb c2 (Ok.eqb (xx (by simp; omega)) (.pure (by simp; omega))))
 split
 · refine Ok.eqb c1 (Ok.eqb c1 ?_)
   refine (qY (c:={b:=c.b,i:=r7.2.i,h:=r7.2.h}) h7.2).bind fun jF h26=>?_
   exact Ok.eqb (xx (by simp; omega)) (Ok.eqb (xx (by simp; omega)) (.pure (by simp; omega)))
 split
 · exact Ok.eqb c1 (.pure (by simp; omega))
 · refine Ok.eqb c1 (Ok.eqb hix (Ok.eqb c2 ?_))
   refine (eX (c:={b:=c.b,i:=r7.2.i,h:=r7.2.h}) 255 h7.2).bind fun mJ h51=>?_
   exact Ok.eqb (xx (by simp; omega)) (Ok.eqb (xx (by simp; omega)) (.pure (by simp; omega)))
theorem N9{c:ai}(l:List (List UInt8))(hl:0<l.length)(h:bW c.b c.i):Ok (z_ c l) fun p=>p.1∈l:=by
 refine (eX (l.length:Int) h).bind fun r hr=>?_
 have h1:r.1.toNat<l.length:=by omega
 exact Ok.eqb (a:=l[r.1.toNat]) (by rw[ix,if_pos (by omega),List.getElem?_eq_getElem h1]) (.pure (List.getElem_mem h1))
theorem Qe:∀(A:List (List UInt8)),(∀y∈A,y.length<=30)->(Lib.join A [32]).length<=31*A.length
 |[],_=>by simp[Lib.join]
 |x::r,h=>by
   have h1:=h x (by simp)
   rw[Lib.join_cons,List.length_append]
   have key:∀r:List (List UInt8),(∀y∈r,y.length<=30)->(Lib.joinTail [32] r).length<=31*r.length:=by
     intro r
     induction r with
     |nil=>intro _; simp[Lib.joinTail]
     |cons y r ih=>
       intro h
       have h2:=ih fun z hz=>h z (by simp[hz])
       have h3:=h y (by simp)
       simp only[Lib.joinTail,List.map_cons,List.flatten_cons,List.length_append,List.length_cons,List.length_nil]at*
       omega
   have:=key r fun y hy=>h y (by simp[hy])
   rw[List.length_cons]; omega
theorem Ju(x:List ak)(h:x.length<=7):(eU x).length<=300:=by
 unfold eU
 split
 · simp
 split
 · simp
 · have:=Qe (x.map cZ) fun y hy=>by
     obtain⟨a,_,rfl⟩:=List.mem_map.1 hy
     have:=rA a
     omega
   rw[List.length_map]at this; omega
theorem Mm(code:List UInt8)(hc:code.length<=1048576):Ok (zw 20 code) fun s=>s.length<=2100:=by
 refine (Hy code hc).bind fun r1 h1=>?_
 have vH:bW r1.b r1.i:=by rw[h1.1]; exact h1.2
 obtain⟨p,e,hp⟩:=zR code hc
 refine Ok.eqb (a:=p.2) (by rw[tZ,e]; rfl) (Ok.eqb (BV (by decide) p.2 (by omega)) ?_)
 have hl:=Ju p.2 hp.2.1
 refine (eX 4 vH).bind fun dm h10=>?_
 split
 · exact (NF (c:={b:=r1.b,i:=dm.2.i,h:=dm.2.h}) (by omega) h10.2).bind fun r hr=>.pure hr
 split
 · refine (N9 (c:={b:=r1.b,i:=dm.2.i,h:=dm.2.h}) _ (by decide) h10.2).bind fun r hr=>.pure ?_
   simp only[List.mem_cons,List.not_mem_nil,or_false]at hr
   rcases hr with h|h|h|h|h|h|h|h<;>rw[h]<;>decide
 · exact .pure (by omega)
theorem PK:∃a,mO [110,111,110,101]=some (a,false):=⟨_,rfl⟩
theorem Oz(x:List ak)(h:eU x≠[]):kY (eU x)=(x,true):=by
 by_cases hx:x=[]
 · subst hx; rfl
 have hany:¬ (x.any fun a=>cZ a==[])=true:=by
   intro h2; unfold eU at h; rw[if_neg hx,if_pos h2]at h; exact h rfl
 have e:eU x=Lib.join (x.map cZ) [32]:=by unfold eU; rw[if_neg hx,if_neg hany]
 simp only[List.any_eq_true,not_exists,not_and,beq_iff_eq]at hany
 have hs:cz 32 [] (eU x)=x.map cZ:=by
   rw[e]
   exact IX (by simpa using hx) fun y hy=>by
     obtain⟨a,ha,rfl⟩:=List.mem_map.1 hy
     exact JL (rG (hany a ha))
 have hn:eU x≠[110,111,110,101]:=by
   intro h2
   have h3:cz 32 [] (eU x)=[[110,111,110,101]]:=by rw[h2]; rfl
   rw[hs]at h3
   cases x with
   |nil=>exact hx rfl
   |cons a r=>
     have ha:cZ a=[110,111,110,101]:=by simpa using congrArg (·.head?) h3
     have:=Kg (rG (hany a (by simp)))
     rw[ha]at this
     obtain⟨b,hb⟩:=PK
     rw[hb]at this
     simp at this
 unfold kY
 rw[if_neg hn,hs,if_pos]
 · rw[List.map_map]
   congr 1
   conv=>rhs; rw[←List.map_id x]
   exact List.map_congr_left fun a ha=>CE (rG (hany a ha))
 · rw[List.all_eq_true]
   intro w hw
   obtain⟨a,ha,rfl⟩:=List.mem_map.1 hw
   exact uI.2 ⟨by rw[CE (rG (hany a ha))],hany a ha⟩
theorem N_:(kY []).2=false:=by
 unfold kY
 rw[if_neg (by simp)]
 simp[cz,IY]
theorem Am{l:List ak}(hl:l.length<=1000)(h:∀a∈l,a.Values.length<=6):fB mR l:=⟨by omega,fun a ha=>Cy a.Values (by have:=h a ha; omega)⟩
theorem Iq:∀{v:List ak},(∀a∈v,a.Values.length<=6)->(jy v).length<=6*v.length
 |[],_=>by simp[jy]
 |a::v,h=>by
   have h1:=Iq (v:=v) fun x hx=>h x (by simp[hx])
   have h2:=h a (by simp)
   simp only[jy,List.flatMap_cons,List.length_append,List.length_cons]at*
   omega
theorem O1{l:List Method}{log:List ak}(rel:Int)(hl:l.length<=5)(hg:log.length<=7)(hv:∀a∈log,a.Values.length<=6):∃R,wD l log rel=some R/\wC l log rel=some R:=by
 have b2:=Am (by omega) hv
 have hs:(ni l log rel).Sublist log:=List.filter_sublist
 have hw:(jy (ni l log rel)).length<=42:=by
   have:=Iq (v:=ni l log rel) fun a ha=>hv a (hs.subset ha)
   have:=hs.length_le
   omega
 refine⟨(jy (ni l log rel)).foldl jC [],?_,?_⟩
 · unfold wD
   rw[zM l log rel (by omega) b2,Option.bind_some,FV _ _ _ (by simp only[List.length_nil]; omega)]
 · unfold wC
   rw[zL l log rel (by omega) b2,Option.bind_some,FW _ _ _ (by simp only[List.length_nil]; omega),List.nil_append,O0]
theorem Mo(code:List UInt8)(hc:code.length<=1048576):Ok (zy 20 code) fun p=>p.1.length<=5/\fB mR p.2.1/\fB mR p.2.2.1:=by
 refine (zR code hc).bind fun r hr=>?_
 have hb:=Am (by have:=hr.2.1; omega) hr.2.2
 have h7:=hr.2.1
 split
 · rename_i h
   simp only[Bool.and_eq_true,decide_eq_true_eq]at h
   exact Ok.eqb (kv (by simp; omega)) (.pure ⟨hr.1.1,hb,Am (by simp; omega) fun a ha=>hr.2.2 a (List.mem_of_mem_drop ha)⟩)
 · exact Ok.eqb (Ad (by omega)) (.pure ⟨hr.1.1,hb,hb⟩)
theorem O3(l:List Method)(a b:List ak)(rel:Int)(hl:l.length<=5)(ha:fB mR a)(hb:fB mR b):∃x,uC l a b rel=some x/\uB l a b rel=some x:=
 ⟨gy kR (ni l a rel) (ni l b rel),by simp only[uC,zM l a rel (by omega) ha,zM l b rel (by omega) hb,Option.bind_some,BM],by simp only[uB,zL l a rel (by omega) ha,zL l b rel (by omega) hb,Option.bind_some,Mj]⟩
theorem PL{log:List ak}(hl:log.length<=1048576):∃d,uo 20 log=some d/\um log=some d:=by
 have hr:=PD log hl
 obtain⟨d,d1,d2⟩:=Ng (eU log) hr ((((eU log).length:Int)-0).toNat+2) 0 1 (by omega) (by omega)
 exact⟨d,by rw[uo,BV (by omega) log hl,Option.bind_some]; exact d1,by rw[um,Gu log hl,Option.bind_some]; exact d2⟩
theorem HZ(x:List ak):gy kR x x=true:=(Jr (p:=kR) fun _ _=>M3).2 rfl
theorem MC(code:List UInt8)(hc:code.length<=1048576)(r4:List Method×List ak×Int)(k:Nat):nM code 20 r4 [] k=some true:=by
 obtain⟨p,e,-,h7,-⟩:=zR code hc
 obtain⟨s,eS,hs⟩:=Mm code hc
 obtain⟨v,eV,v1,v2,v3⟩:=Mo code hc
 obtain⟨x,x1,x2⟩:=O3 v.1 v.2.1 v.2.2.1 v.2.2.2 v1 v2 v3
 obtain⟨d,d1,d2⟩:=PL (log:=p.2) (by omega)
 have eF:vX 20 code=some p.2:=by rw[vX,tZ,e]; rfl
 have hl:=Ju p.2 h7
 have key:(kY (eU p.2)).2=!(eU p.2==[])/\((kY (eU p.2)).2=true->(kY (eU p.2)).1=p.2):=by
   by_cases h:eU p.2=[]
   · rw[h]
     have:=N_
     exact⟨by rw[this]; rfl,fun h2=>by rw[this]at h2; cases h2⟩
   · rw[Oz p.2 h]
     exact⟨by simp[h],fun _=>rfl⟩
 unfold nM
 simp only[eF,Option.bind_some,Gu p.2 (by omega),BV (K:=20) (by decide) p.2 (by omega),GV (eU p.2) (by omega),eS,GV s (by omega),Nk s (by omega),eV,x1,x2,d1,d2,beq_self_eq_true,cond_true,BM]
 rw[←key.1]
 simp only[beq_self_eq_true,cond_true]
 cases hq:(kY (eU p.2)).2
 · rfl
 · rw[key.2 hq,HZ]; rfl
theorem Gn(code:List UInt8)(hc:code.length<=1048576)(r4:List Method×List ak×Int):∀(v:List ak)(k:Nat),(∀a∈v,qg r4.1 r4.2.2 a=true)->nM code 20 r4 v k=some true
 |[],k,_=>MC code hc r4 k
 |a::v,k,h=>by
   have ih:=Gn code hc r4 v (k+1) fun x hx=>h x (by simp[hx])
   have ha:=h a (by simp)
   simp only[qg,Bool.and_eq_true,decide_eq_true_eq,beq_iff_eq]at ha
   obtain⟨⟨g1,g2⟩,g3⟩:=ha
   have h1:a.Method.toNat<r4.1.length:=by omega
   rw[List.getElem?_eq_getElem h1]at g3
   have g3:(r4.1[a.Method.toNat]).Rel=r4.2.2:=by simpa using g3
   have hix:ix r4.1 a.Method=some r4.1[a.Method.toNat]:=by rw[ix,if_pos g1,List.getElem?_eq_getElem h1]
   unfold nM
   have d1:decide (a.Method<0)=false:=by simp; omega
   have d2:decide ((r4.1.length:Int)<=a.Method)=false:=by simp; omega
   simp only[d1,d2,cond_false,hix,Option.bind_some,g3,bne_self_eq_false]
   exact ih
theorem Oa{code:List UInt8}{W:Prop}(_:W):∃fuel,zS fuel code=some true:=by
 refine⟨20,?_⟩
 unfold zS AA
 rw[Option.bind_some]
 by_cases hc:(1048576:Int)<(code.length:Int)
 · rw[if_pos (by simpa using hc)]
 rw[if_neg (by simpa using hc)]
 have hc':code.length<=1048576:=by omega
 obtain⟨p,e,⟨p1,p2⟩,p3,p4⟩:=zR code hc'
 generalize hw:IntKind.i64.wrap ((Int.tmod (code.length:Int) 4)-1)=rel
 have eV:wz 20 code=some (p.1,p.2,rel):=by rw[wz,e,Option.bind_some,hw]
 have b2:=Am (by omega) p4
 obtain⟨R,R1,R2⟩:=O1 rel p1 p3 p4
 rw[eV,Option.bind_some]
 dsimp only
 rw[zL p.1 p.2 rel (by omega) b2,Option.bind_some,zM p.1 p.2 rel (by omega) b2,Option.bind_some,BM,Option.bind_some,HZ,R1,R2]
 simp only[Bool.not_true,cond_false,Option.bind_some,Ni,Co.2 rfl,Bool.false_eq_true,if_false]
 exact Gn code hc' (p.1,p.2,rel) _ 0 fun a ha=>(List.mem_filter.1 ha).2
end Go.Proofs.YtmmlepaliceaiaaGreatDoor
/-
 The row FnViews.
-/
set_option maxRecDepth 100000
namespace Go.Proofs.YtmmlepaliceaiaaGreatDoor.fnViews
open Go Go.Fw Go.ChangeShapes Go.WideShapes Go.ChangeAt Go.RowKit
theorem own:ownKnob Tryz.prog.godebug=none:=by kernel_rfl
theorem PM(os:Os)(args:Array Value):laidMetH Tryz.prog Rows.fnViewsRow.laid ((World.laidAll Tryz.prog os Rows.fnViewsRow.laid).forCall (fun _ _=>0) ⟨#[],args,[]⟩).memory:=by
 rw[MakeChecks.laidMetH_plain _ _ _ (by kernel_rfl)]
 exact laidMet_laidAll _ (by kernel_rfl) (by kernel_rfl)
theorem VQ:Tryz.prog.globalNamed "internal/strconv.uint64pow10" =some 3:=by kernel_rfl
theorem Tj:(Tryz.prog.globals[3]?).map (·.type)=some 178:=by kernel_rfl
theorem Tk:Tryz.prog.globalNamed "strconv.ErrRange" =some 5:=by kernel_rfl
theorem Tm:Tryz.prog.globalNamed "strconv.ErrSyntax" =some 4:=by kernel_rfl
theorem Jv:"*" ++ "errors.errorString" = "*errors.errorString":=by decide
theorem JM(u:TypeId)(h:Tryz.prog.typeName? 3 u=some "*errors.errorString"):u=188:=
 typeName_ptr_named (nm:="errors.errorString") (by rw[Jv]; kernel_rfl) (by kernel_rfl) (by decide) u (by rw[Jv]; exact h)
theorem laidOut:laidOutB Tryz.prog=true:=by kernel_rfl
set_option maxRecDepth 100000 in
theorem lifted(os:Os)(started:os.Started)(H:Type)(enc:TypeId×Value->H):
   ReturnsInHanded {} Tryz.checked os 3 .any (fun w args=>(Rows.fnViewsSpec.pre enc Tryz.prog Tryz.f3 [] false w args/\laidMetH Tryz.prog Rows.fnViewsRow.laid w)/\sizedMet enc Tryz.prog Tryz.f3 (OpenSpec.ofChange Rows.fnViewsSpec) false w args) (Rows.fnViewsSpec.post enc Tryz.prog Tryz.f3 false true false false):=by
 refine returnsInHanded_of_change_and (C:=Tryz.checked) (X:=fun w _=>laidMetH Tryz.prog Rows.fnViewsRow.laid w) (fun _ _ _ hh h=>h.of_heap hh) own started (by kernel_rfl) Tryz.func3
   (ChangeSpec.witness_shaped (enc:=enc) (C:=Tryz.checked) (os:=os) (X:=fun w _=>laidMetH Tryz.prog Rows.fnViewsRow.laid w) false (World.laidAll Tryz.prog os Rows.fnViewsRow.laid) #[.slice none 0 0] 16 rfl (World.shaped_of_ZipB (by kernel_rfl) (by kernel_rfl)) (by kernel_rfl) (by kernel_rfl) (by kernel_rfl) (PM os _)) ?_
 intro W base args ds gs before hval hW _ hwt hL _
 rw[MakeChecks.laidMetH_plain _ _ _ (by kernel_rfl)]at hL
 have htab:Lib.TabIs Tryz.prog W "internal/strconv.uint64pow10" .u64 Lib.pow10Tab:=Lib.tabIs_of_head VQ Tj (show Tryz.prog.underlying 178=some (.array 20 122) by kernel_rfl) (show Tryz.prog.underlying 122=some (.int .u64) by kernel_rfl) (by kernel_rfl) (by kernel_rfl) (laidMet.tail (laidMet.tail hL))
 have O4:∃tp p,W.var? Tryz.prog "strconv.ErrRange" =some #[.iface tp p]:=by
   obtain⟨a,_,h,-⟩:=laid_sentinel (tp:=188) (te:=190) (ts:=9) (laidMet.tail (laidMet.tail (laidMet.tail (laidMet.tail hL)))) Tk (by kernel_rfl) (show Tryz.prog.underlying 88=some (.interface (Tryz.prog.methodsAt 88)) by kernel_rfl) JM (by kernel_rfl) Tryz.underlying190 rfl rfl (by kernel_rfl) (by kernel_rfl) (by kernel_rfl)
   exact⟨_,_,h⟩
 have OA:∃tp p,W.var? Tryz.prog "strconv.ErrSyntax" =some #[.iface tp p]:=by
   obtain⟨a,_,h,-⟩:=laid_sentinel (tp:=188) (te:=190) (ts:=9) (laidMet.tail (laidMet.tail (laidMet.tail (laidMet.tail (laidMet.tail hL))))) Tm (by kernel_rfl) (show Tryz.prog.underlying 88=some (.interface (Tryz.prog.methodsAt 88)) by kernel_rfl) JM (by kernel_rfl) Tryz.underlying190 rfl rfl (by kernel_rfl) (by kernel_rfl) (by kernel_rfl)
   exact⟨_,_,h⟩
 have hW':=hW
 obtain⟨p,q,FN,hV,rfl,hfz,hnd⟩:=hW
 obtain⟨rfl,rfl⟩:=trodVars_none hV
 have hA:DataW.TrodAll enc Tryz.prog W 0 (fun _=>true) true [22] args.toList ds p:=FN
 have hw:∀n∈DataW.weightsEach Tryz.prog [22] ds,n<=reachBytes:=fun n hn=>by
   have:=List.all_eq_true.1 hwt n (by rw[List.append_nil]; exact hn)
   simpa using this
 obtain⟨v0,vs0,d0,ds0,p0,ρ0,H0,av0,a0,e0,rfl,FN,hw0,r0,f0,u0,i0,WI,q0,w0⟩:=PV hA hw (jP.slice (s:=1) (by kernel_rfl) (by kernel_rfl) (by decide) (Nat.lt_of_lt_of_le (by decide) (Nat.le_of_eq (show 1=_ from by kernel_rfl))) (jP.u8 (by kernel_rfl))) (fun H v a h=>by obtain⟨_,_,rfl⟩:=bf.len h; kernel_rfl) (r:=.any) (base:=base) (fun v h=>hval 0 22 v rfl (Qs h)) (Rel.nil _ W ⟨htab,OA,O4⟩) jD.nil
 obtain⟨en,rfl⟩:=Ph FN
 subst en
 obtain⟨Lu,Lv,rfl⟩:=bf.len q0
 have hargs:aI ρ0 [(.slice Lu a0.length Lv)] args.toList:=by
   rw[e0]
   exact (.cons _ _ _ _ WI .nil)
 obtain⟨fuel,VR⟩:=Oa w0
 refine ((@NA fuel a0 ⟨Lu,_,Lv⟩ true VR) H0 [] (Ctx.dup (Ctx.start _) q0 rfl) ρ0 W args r0 hargs).mono ?_
 rintro e w' ⟨v,r,ρ',H',rfl,h1,h2,h3,x,h5,-⟩
 have h6:r= .bool true:=h5
 subst h6
 refine⟨_,rfl,?_⟩
 rw[h1.bool_inv]
 refine O9 hW' rfl laidOut (by kernel_rfl) rfl (by kernel_rfl) (fun d=>?_) (h3.below f0)
 by_cases hd:d=[d0]
 · subst hd; exact .inl ⟨rfl,rfl,rfl⟩
 · exact .inr (by simpa using hd)
theorem named:Tryz.pinned.checked.prog.funcNamed Rows.fnViewsRow.func=some 3:=by kernel_rfl
set_option maxHeartbeats 10000000 in
theorem closed:joinedFacts Tryz.pinned.checked.prog 3 Tryz.f3 Rows.fnViewsSpec Rows.fnViewsRow=true:=by
 simp only[joinedFacts,Bool.and_eq_true]
 repeat' refine And.intro ?_ ?_
 all_goals (as_aux_lemma=>kernel_rfl)
theorem over:Rows.fnViewsRow.holds Tryz.pinned (OpenSpec.ofChange Rows.fnViewsSpec):=
 OpenClaim.holds_of_wide 3 Tryz.f3 rfl rfl rfl rfl rfl rfl rfl ⟨rfl,rfl,rfl,rfl,rfl⟩ rfl rfl rfl rfl rfl named Tryz.func3 closed
   (of_decide_eq_true (by kernel_rfl)) (by unfold Func.isWrapper; first|(rw[if_pos (by decide+kernel)]; kernel_rfl)|(rw[if_neg (by decide+kernel)]; exact⟨rfl,rfl⟩))
   (fun os started H enc _=>lifted os started H enc)
theorem proved:Rows.FnViewsCardSaid:=
 Claim7.holds_tied_plain_at .later [] [.data,.data,.data,.data,.sentinel,.sentinel,.pinned] true (true,"618663d067f833e9729261ba87e4b3e53d08dddfaf0c3dc9d26af242e5b7f724") true
   over (fun _ h=>by cases h) (by kernel_rfl) (fun _ h=>by cases h) fnViews_row_tie rfl ⟨rfl,rfl⟩ (by kernel_rfl) rfl
   (fun f fn hf hfn=>by
     obtain rfl:f=3:=Option.some.inj ((show Tryz.prog.funcNamed "loop.example/g01989/laws.FnViews" =some 3 by kernel_rfl).symm.trans hf) |>.symm
     obtain rfl:fn=Tryz.f3:=(Option.some.inj (Tryz.func3.symm.trans hfn)).symm
     exact⟨by kernel_rfl,fun j t ht=>by
       have hm:t∈[22]:=by simpa using (Array.mem_of_getElem? ht:t∈(#[22]:Array TypeId))
       have hall:([22].all fun u=>!Tryz.prog.wantsStandIn u)=true:=by kernel_rfl
       exact (show Tryz.prog.wantsStandIn t=false by simpa using List.all_eq_true.1 hall t hm)⟩)
   (by kernel_rfl)
end Go.Proofs.YtmmlepaliceaiaaGreatDoor.fnViews
