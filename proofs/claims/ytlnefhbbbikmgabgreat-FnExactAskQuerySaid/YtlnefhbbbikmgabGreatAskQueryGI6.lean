/-
  Functions of the program as Lean functions, and that the calls return what these say. No conditions.
-/
import Derived.Test.YtlnefhbbbikmgabGreatAskQueryGI5
set_option maxRecDepth 100000
set_option maxHeartbeats 4000000
set_option linter.unusedVariables false
namespace Go.Proofs.YtlnefhbbbikmgabGreat
open Go Go.Fw
def Lr(u_:Int)(ae:aJ)(aM:aN):List Int->Nat->(List Int)->Option (ag)
 |[],k46,c40=>some ({Method:=u_,Values:=c40}:ag)
 |Ba::aAV,k46,c40=>(ix ae.Terms Ba).bind fun pG=>
   (yo aM pG).bind fun r63=>
   (app c40 ([r63]:List Int)).bind fun z67=>
   Lr u_ ae aM aAV (k46+1) z67
def Il(aG:List Method)(u_:Int)(ae:aJ)(aM:aN):Option (ag):=
 (ix aG u_).bind fun x6=>
 Lr u_ ae aM x6.bg 0 ([]:List Int)
instance atj:I4 250 t26 t1 t17 t30 u9 Il:=⟨by
 intro _ _ u_ _ _ _ _ _ _ hF
 refine' en Tryz.func250 (Il.eq_1 ..)
 rename_i k4 k5 _ _ _ _
 refine' ed ((Dq.mk (β:=(List Int)) (ι:=Sv×List Nat) (fun c40 i1=>[]) (fun c40 i1=>[aW k5 85 (.agg [(.int .i64 u_),i1.1.v].toArray),ah (aa 3 (az ax)) i1.2 i1.1.v c40]) [] [pz k5]).dr [(.slice (some ⟨k4,0,none⟩) 0 1)]) 21 [6,7,8,9,19,20]<;>rw[Lr]at hF<;>refine' go⟩
theorem asQ{aG:List Method}{aA:Sv}{u_:Int}{ae:aJ}{gK:Sv}{aM:aN}{gN:Sv}{arp:Sv}{R:ag}(hF:Il aG u_ ae aM=some R):
   Fw.Spec Tryz.prog 250 [aA.v,(.int .i64 u_),(.agg [(.int .i64 ae.aD),gK.v].toArray),(.agg [gN.v,arp.v].toArray)] [aI (ak 127 iB) aA.v aG,aI (ak 3 ax) gK.v ae.Terms,aI (ak 3 ax) gN.v aM.Vars,aI (ak 3 ax) arp.v aM.Values] (fun p:Sv×List Nat=>(.agg [(.int .i64 R.Method),p.1.v].toArray)) (fun p=>[ah (aa 3 (az ax)) p.2 p.1.v R.Values]):=atj.h hF
def PH(bG:Cache)(aT:aS)(dA:Int):Option (Bool):=
 some ((decide ((0:Int)<=aT.At))&&((decide ((aT.At:Int)<=dA))&&(decide (((IntKind.i64.wrap (dA-aT.At)):Int)<=bG.Age))))
instance aIu:I3 255 t23 t22 t1 u20 PH:=⟨by
 intro bG _ aT _ _ dA _ hF
 refine' en Tryz.func255 (PH.eq_1 ..)
 refine' zA [(6,(.bool ((decide ((0:Int)<=aT.At))&&((decide ((aT.At:Int)<=dA))&&(decide (((IntKind.i64.wrap (dA-aT.At)):Int)<=bG.Age))))))] [] (fun _=>?_)
 refine' go⟩
def IW(aG:List Method)(ae:ag):Option (Bool):=
 ((mG ae.Method 0 (IntKind.i64.wrap ((aG.length:Int)-1))).bind fun r4=>
   bif r4 then ((ix aG ae.Method).bind fun x8=>
     some (((ae.Values.length:Int):Int)==(x8.bg.length:Int)))
   else (some false)).bind fun o2=>
 match o2 with
 |c15=>some c15
instance aKJ:I2 292 t26 t9 u20 IW:=⟨by
 intro _ _ _ _ _ hF
 refine' en Tryz.func292 (IW.eq_1 ..)
 refine' dc (q1 4 tB) []⟩
def K_(ae:ag)(aM:ag)(sW:Method)(x20:Method):List Int->Nat->Option (Bool)
 |[],rQ=>some (((sW.aD:Int)==x20.aD)&&((sW.Limit:Int)==0))
 |x34::Tk,rQ=>(GX x20.bg x34).bind fun zG=>
   (bif (decide ((zG:Int)<0))then (some true)
     else ((ix aM.Values zG).bind fun KC=>
       (ix ae.Values (rQ:Int)).bind fun pG=>
       some ((KC:Int)!=pG))).bind fun o48=>
   match o48 with
   |mr=>if mr then (
       some false)
     else (
       K_ ae aM sW x20 Tk (rQ+1))
def P6(aG:List Method)(ae:ag)(aM:ag):Option (Bool):=
 ((IW aG ae).bind fun r5=>
   bif (!r5)then (some true)
   else ((IW aG aM).bind fun r9=>
     some (!r9))).bind fun o3=>
 match o3 with
 |c12=>if c12 then (
     some false)
   else (
     (ix aG ae.Method).bind fun sW=>
     (ix aG aM.Method).bind fun x20=>
     K_ ae aM sW x20 sW.bg 0)
instance aIA:I3 256 t26 t9 t9 u20 P6:=⟨by
 intro _ _ _ _ _ _ _ hF
 refine' en Tryz.func256 (P6.eq_1 ..)
 refine' rc (q1 21 tB) [0,4,5]
 refine' eP q0 35 [4,5,7,8,33,34]<;>rw[K_]at hF<;>refine' go
 rename_i sW _ _ _ x20 _ _ _ _ _ _ _ _ _ _ _
 refine' zA [(6,(.bool (((sW.aD:Int)==x20.aD)&&((sW.Limit:Int)==0))))] [] (fun _=>?_)
 refine' go
 refine' dc (q1 58 tB) [4,5,7,8,33,34,35]⟩
def Bh(aM:ag)(c14:List aj)(jT:aj):List Int->Nat->Bool->Option ((List aj))
 |[],k39,ig=>if ig then (
     (Bu jT).bind fun iH=>
     (app c14 ([iH]:List aj)).bind fun z52=>
     some z52)
   else (
     some c14)
 |x41::aAW,k39,ig=>(bif ig then ((mG x41 0 (IntKind.i64.wrap ((jT.Values.length:Int)-1))).bind fun r61=>
       bif r61 then ((ix jT.Values x41).bind fun x65=>
         (ix aM.Values (k39:Int)).bind fun x71=>
         some ((x65:Int)==x71))
       else (some false))
     else (some false)).bind fun o58=>
   match o58 with
   |c77=>Bh aM c14 jT aAW (k39+1) c77
def Lh(aM:ag)(x6:Method):List aj->Nat->(List aj)->Option ((List aj))
 |[],k20,c14=>some c14
 |jT::Jg,k20,c14=>(Bh aM c14 jT x6.bg 0 ((jT.aD:Int)==x6.aD)).bind fun Kv=>
   match Kv with
   |c80=>Lh aM x6 Jg (k20+1) c80
def Qj(aG:List Method)(dM:List aj)(aM:ag):Option ((List aj)):=
 (IW aG aM).bind fun r3=>
 if (!r3)then (
   some ([]:List aj))
 else (
   (ix aG aM.Method).bind fun x6=>
   Lh aM x6 dM 0 ([]:List aj))
instance aIN:I3 257 t26 t20 t9 u7 Qj:=⟨by
 intro _ _ _ _ _ _ _ hF
 have hK:=True.intro
 refine' en Tryz.func257 (Qj.eq_1 ..)
 refine' Gb dV []
 refine' dZ ?_
 refine' go
 refine' dZ ?_
 refine' go
 refine' ed (q1 7 (tO 164 dV)) 27 [5,8,25,26]<;>rw[Lh]at hF<;>refine' go
 refine' cu (q1 7 (tO 164 dV)) [5,8,25,26,27]
 refine' dZ ?_
 refine' go
 refine' ed (q1 11 tB) 39 [5,7,8,10,25,26,27,37,38]<;>rw[Bh]at hF<;>refine' go
 refine' qj ?_
 refine' go
 refine' dc (q1 11 tB) [5,7,8,10,25,26,27,37,38,39]⟩
def P7(aG:List Method)(bG:Cache)(aM:ag)(dA:Int):List aS->Nat->Option ((List aj)×Bool)
 |[],k6=>some ([],false)
 |x8::C9,k6=>((PH bG x8 dA).bind fun eX=>
     bif eX then ((P6 aG x8.ag aM).bind fun iA=>
       some iA)
     else (some false)).bind fun o19=>
   match o19 with
   |c28=>if c28 then (
       (Qj aG x8.Facts aM).bind fun r29=>
       some (r29,true))
     else (
       P7 aG bG aM dA C9 (k6+1))
def Zi(aG:List Method)(bG:Cache)(aM:ag)(dA:Int):Option ((List aj)×Bool):=
 P7 aG bG aM dA bG.Entries 0
instance atl:I4 209 t26 t23 t9 t1 u29 Zi:=⟨by
 intro _ _ _ _ _ _ _ _ hF
 refine' en Tryz.func209 (Zi.eq_1 ..)
 refine' eP q0 15 [0,3,5,6,13,14]<;>rw[P7]at hF<;>refine' go
 refine' qj ?_
 refine' go
 refine' rc (q1 29 tB) [0,3,5,6,11,13,14,15]⟩
def Ia(ae:ag)(aM:ag):Option (Bool):=
 (bif ((ae.Method:Int)==aM.Method)then ((KT ae.Values aM.Values).bind fun r6=>
     some r6)
   else (some false)).bind fun o3=>
 match o3 with
 |c9=>some c9
instance aI0:I2 262 t9 t9 u20 Ia:=⟨by
 intro _ _ _ _ _ hF
 refine' en Tryz.func262 (Ia.eq_1 ..)
 refine' rc (q1 4 tB) []⟩
def Ym(aT:aS)(aH:ag):Option (Bool):=
 (Ia aT.ag aH).bind fun r2=>
 some r2
theorem ai8{aT:aS}{bB:Sv}{eG:Sv}{bu:Nat}{aH:ag}{dR:Sv}{R:Bool}(hF:Ym aT aH=some R):
   Fw.Spec Tryz.prog 261 [(.agg [(.int .i64 aT.ag.Method),bB.v,eG.v,(.int .i64 aT.At)].toArray),(.pointer (some ⟨bu,0,some 0⟩))] [aI (ak 3 ax) bB.v aT.ag.Values,aI (ak 164 gZ) eG.v aT.Facts,bC bu 85 (.agg [(.int .i64 aH.Method),dR.v].toArray),aI (ak 3 ax) dR.v aH.Values] (fun _:Unit=>(.bool R)) (fun _=>[]):=by
 refine' en Tryz.func261 (Ym.eq_1 ..)
instance:dz Tryz.prog 261 (type_of% @ai8):=⟨@ai8⟩
def OL(aH:ag):List aS->Nat->Option (Int)
 |[],k4=>some (-1)
 |x6::dH,k4=>(Ym x6 aH).bind fun r16=>
   if r16 then (
     some (k4:Int))
   else (
     OL aH dH (k4+1))
def W_(aC:List aS)(aH:ag):Option (Int):=
 OL aH aC 0
theorem aik{aC:List aS}{aA:Sv}{bu:Nat}{aH:ag}{dR:Sv}{R:Int}(hF:W_ aC aH=some R):
   Fw.Spec Tryz.prog 260 [aA.v,(.func (.func 261) [].toArray [(.pointer (some ⟨bu,0,some 0⟩))].toArray)] [aI (ak 201 jm) aA.v aC,bC bu 85 (.agg [(.int .i64 aH.Method),dR.v].toArray),aI (ak 3 ax) dR.v aH.Values] (fun _:Unit=>(.int .i64 R)) (fun _=>[]):=by
 refine' en Tryz.func260 (W_.eq_1 ..)
 refine' eP q0 8 [0,1,7]<;>rw[OL]at hF<;>refine' go
instance:dz Tryz.prog 260 (type_of% @aik):=⟨@aik⟩
def QH(bG:Cache)(ae:ag):Option (Int):=
 (W_ bG.Entries ae).bind fun r3=>
 some r3
instance asR:I2 211 t23 t9 u0 QH:=⟨by
 intro _ _ _ _ _ hF
 refine' en Tryz.func211 (QH.eq_1 ..)⟩
def YY(aT:aS)(aH:ag):Option (Bool):=
 (Ia aT.ag aH).bind fun r2=>
 some (!r2)
theorem ajt{aT:aS}{bB:Sv}{eG:Sv}{bu:Nat}{aH:ag}{dR:Sv}{R:Bool}(hF:YY aT aH=some R):
   Fw.Spec Tryz.prog 263 [(.agg [(.int .i64 aT.ag.Method),bB.v,eG.v,(.int .i64 aT.At)].toArray),(.pointer (some ⟨bu,0,some 0⟩))] [aI (ak 3 ax) bB.v aT.ag.Values,aI (ak 164 gZ) eG.v aT.Facts,bC bu 85 (.agg [(.int .i64 aH.Method),dR.v].toArray),aI (ak 3 ax) dR.v aH.Values] (fun _:Unit=>(.bool R)) (fun _=>[]):=by
 refine' en Tryz.func263 (YY.eq_1 ..)
instance:dz Tryz.prog 263 (type_of% @ajt):=⟨@ajt⟩
def KQ(bG:Cache)(aH:ag):List aS->Nat->(List aS)->Option (Cache)
 |[],WO,gD=>some ({Entries:=gD,Age:=bG.Age}:Cache)
 |WP::ae',WO,gD=>((YY WP aH).bind fun WB=>
     if WB then (
       (LQ WP).bind fun r60=>
       (app gD ([r60]:List aS)).bind fun z64=>
       some z64)
     else (
       some gD)).bind fun o51=>
   match o51 with
   |ll=>KQ bG aH ae' (WO+1) ll
def O6(bG:Cache)(aH:ag):Option (Cache):=
 KQ bG aH bG.Entries 0 ([]:List aS)
theorem acl{bG:Cache}{aA:Sv}{bu:Nat}{aH:ag}{dR:Sv}{R:Cache}(hF:O6 bG aH=some R):
   Fw.Spec Tryz.prog 179 [(.agg [aA.v,(.int .i64 bG.Age)].toArray),(.func (.func 263) [].toArray [(.pointer (some ⟨bu,0,some 0⟩))].toArray)] [aI (ak 201 jm) aA.v bG.Entries,bC bu 85 (.agg [(.int .i64 aH.Method),dR.v].toArray),aI (ak 3 ax) dR.v aH.Values] (fun p:Sv×List Nat=>(.agg [p.1.v,(.int .i64 R.Age)].toArray)) (fun p=>[ah (aa 201 g_) p.2 p.1.v R.Entries]):=by
 refine' en Tryz.func179 (O6.eq_1 ..)
 refine' aP (iy p_.h rfl (vs:=[(.int .i64 bG.Age)]) (.cons (.tmp rfl rfl) .nil) (cells:=[(.slice none 0 0),(.int .i64 bG.Age)]) rfl) ?_
 refine' go
 rename_i k3
 refine' ed (.mk (β:=(List aS)) (ι:=Sv×List Nat) (fun gD i1=>[]) (fun gD i1=>[aW k3 47 (.agg [i1.1.v,(.int .i64 bG.Age)].toArray),ah (aa 201 g_) i1.2 i1.1.v gD]) [] [pz k3]) 14 [1,4,5,12,13]<;>rw[KQ]at hF<;>refine' go
 rename_i i1 _ _ _ _
 refine' cu ((Dq.mk (β:=(List aS)) (ι:=Sv×List Nat) (fun ll i2=>[]) (fun ll i2=>[aW k3 47 (.agg [i2.1.v,(.int .i64 bG.Age)].toArray),ah (aa 201 g_) i2.2 i2.1.v ll]) [] [pz k3]).dr [i1.1.v]) [1,4,5,12,13,14]
instance:dz Tryz.prog 179 (type_of% @acl):=⟨@acl⟩
def YZ(aT:aS)(aH:ag):Option (Bool):=
 (K9 aT.ag aH).bind fun r2=>
 some (decide ((0:Int)<r2))
theorem aju{aT:aS}{bB:Sv}{eG:Sv}{bu:Nat}{aH:ag}{dR:Sv}{R:Bool}(hF:YZ aT aH=some R):
   Fw.Spec Tryz.prog 264 [(.agg [(.int .i64 aT.ag.Method),bB.v,eG.v,(.int .i64 aT.At)].toArray),(.pointer (some ⟨bu,0,some 0⟩))] [aI (ak 3 ax) bB.v aT.ag.Values,aI (ak 164 gZ) eG.v aT.Facts,bC bu 85 (.agg [(.int .i64 aH.Method),dR.v].toArray),aI (ak 3 ax) dR.v aH.Values] (fun _:Unit=>(.bool R)) (fun _=>[]):=by
 refine' en Tryz.func264 (YZ.eq_1 ..)
instance:dz Tryz.prog 264 (type_of% @aju):=⟨@aju⟩
def OO(aH:ag):List aS->Nat->Option (Int)
 |[],k4=>some (-1)
 |x6::dH,k4=>(YZ x6 aH).bind fun r16=>
   if r16 then (
     some (k4:Int))
   else (
     OO aH dH (k4+1))
def Xb(aC:List aS)(aH:ag):Option (Int):=
 OO aH aC 0
theorem acf{aC:List aS}{aA:Sv}{bu:Nat}{aH:ag}{dR:Sv}{R:Int}(hF:Xb aC aH=some R):
   Fw.Spec Tryz.prog 260 [aA.v,(.func (.func 264) [].toArray [(.pointer (some ⟨bu,0,some 0⟩))].toArray)] [aI (ak 201 jm) aA.v aC,bC bu 85 (.agg [(.int .i64 aH.Method),dR.v].toArray),aI (ak 3 ax) dR.v aH.Values] (fun _:Unit=>(.int .i64 R)) (fun _=>[]):=by
 refine' en Tryz.func260 (Xb.eq_1 ..)
 refine' eP q0 8 [0,1,7]<;>rw[OO]at hF<;>refine' go
instance:dz Tryz.prog 260 (type_of% @acf):=⟨@acf⟩
def KL(aC:List aS)(jd:Int)(kD:List aS):Option (List aS):=
 match kD with
 |[a]=>if 0<=jd/\jd.toNat<=aC.length/\aC.length+1<4294967296 then some (aC.take jd.toNat++a::aC.drop jd.toNat)else none
 |_=>none
set_option maxHeartbeats 4000000 in
theorem arH(es:List Value)(e:Value)(v u:Sv)(F F2:List Nat)(i:Nat)(hi:i<=es.length)(hb:es.length+1<4294967296):Fw.Spec Tryz.prog 265 [v.v,.int .i64 (i:Int),u.v] [ah (aa 201 (az (fA 4))) F v.v es,ah (aa 201 (az (fA 4))) F2 u.v [e]] (fun q:Sv×List Nat=>q.1.v) (fun q=>[ah (aa 201 (az (fA 4))) q.2 q.1.v (es.take i++e::es.drop i)]):=by
 refine Im (n:=95) Tryz.func265 rfl rfl (rs:=[.tmp 6]) rfl rfl rfl ?_
 intro H0 F0
 refine eB ?_
 refine aP (jI (v:=(.slice none 0 0)) EV.oF) ?_
 refine eQ ?_
 refine eB ?_
 refine aP (bE (v:=v.v) (.tmp rfl rfl)) ?_
 refine aP (bE (v:=(.int .i64 (i:Int))) (.tmp rfl rfl)) ?_
 refine iZ (.cons .h .nil) (adC jE.h jl.h.sz (.tmp rfl rfl) (.tmp rfl rfl) hi) (fun w0=>?_)
 refine eQ ?_
 refine eB ?_
 refine aP (bE (v:=u.v) (.tmp rfl rfl)) ?_
 refine gM (.t .h) (fun hp=>tK (l:=1) jE.h (.tmp rfl rfl) (wY hp)) ?_
 refine aP (jI (v:=(.int .i64 ((1:Nat):Int))) (.tmp rfl rfl)) ?_
 refine eQ ?_
 refine dZ ?_
 refine eB ?_
 refine aP (bE (v:=(.int .i64 ((1:Nat):Int))) (.tmp rfl rfl)) ?_
 refine aP (CQ (i:=((1:Nat):Int)) (j:=0) (.tmp rfl rfl) (.int _ _)) ?_
 refine eQ ?_
 refine nY (b:=(((1:Nat):Int)==0)) (.tmp rfl rfl) (fun hb0=>absurd hb0 (by decide)) (fun _=>?_)
 refine uo ?_
 refine eB ?_
 refine aP (bE (v:=v.v) (.tmp rfl rfl)) ?_
 refine gM .h (fun hp=>tK (l:=es.length) jE.h (.tmp rfl rfl) (wY hp)) ?_
 refine aP (jI (v:=(.int .i64 (es.length:Int))) (.tmp rfl rfl)) ?_
 refine eQ ?_
 refine dZ ?_
 refine eB ?_
 refine aP (bE (v:=(.int .i64 (i:Int))) (.tmp rfl rfl)) ?_
 refine aP (bE (v:=(.int .i64 (es.length:Int))) (.tmp rfl rfl)) ?_
 refine aP (CQ (i:=(i:Int)) (j:=(es.length:Int)) (.tmp rfl rfl) (.tmp rfl rfl)) ?_
 refine eQ ?_
 refine nY (b:=((i:Int)==(es.length:Int))) (.tmp rfl rfl) (fun hb1=>?_) (fun hb1=>?_)
 · have hie:i=es.length:=by simp only[aRZ]at hb1; omega
   refine eB ?_
   refine aP (bE (v:=v.v) (.tmp rfl rfl)) ?_
   refine aP (bE (v:=u.v) (.tmp rfl rfl)) ?_
   refine iZ (.cons .h (.cons .h .nil)) (iU (Ro:=(az (fA 4))) jE.h NZ jl.h rfl rfl rfl (.tmp rfl rfl) (.tmp rfl rfl) (nZ (xs:=es) (ys:=[e]) (by simpa using hb)) kJ) (fun p=>?_)
   refine aP (jI (v:=p.1.v) (.tmp rfl rfl)) ?_
   refine eQ ?_
   refine vz ?_
   rw[hie,aR7,aSj]
   exact iW p (.tmp rfl rfl .nil) rfl (.sel (.cons .h .nil))
 refine uo ?_
 have hlt:i<es.length:=by simp at hb1; omega
 refine zV .h (IR (by intro h; rw[h]at hlt; simp at hlt)) (fun hv=>?_)
 obtain⟨k0,m0,rfl,hm0⟩:=hv
 refine zV (.t .h) (IR (by simp)) (fun hu=>?_)
 obtain⟨k1,m1,rfl,hm1⟩:=hu
 refine afA (t:=0) (k:=k0) (l:=es.length) (m:=m0) rfl rfl hm0 (by omega) .h rfl (fun c hc=>?_)
 have w1:IntKind.i64.wrap ((es.length:Int)+((1:Nat):Int))=((es.length+1:Nat):Int):=by rw[di (by omega) (by omega)]; rfl
 have w2:IntKind.i64.wrap ((i:Int)+((1:Nat):Int))=((i+1:Nat):Int):=by rw[di (by omega) (by omega)]; rfl
 have w3:IntKind.i64.wrap (((es.length+1:Nat):Int)-(i:Int))=((es.length+1-i:Nat):Int):=by rw[di (by omega) (by omega)]; omega
 have hel:(es.take i++e::es.drop i).length=es.length+1:=aeq hi
 refine dZ ?_
 refine eB ?_
 refine aP (bE (v:=(.int .i64 (es.length:Int))) (.tmp rfl rfl)) ?_
 refine aP (bE (v:=(.int .i64 ((1:Nat):Int))) (.tmp rfl rfl)) ?_
 refine aP (nO (i:=(es.length:Int)) (j:=((1:Nat):Int)) (.tmp rfl rfl) (.tmp rfl rfl)) ?_
 rw[w1]
 refine aP (bE (v:=(.slice (some ⟨k0,0,none⟩) es.length (c+3))) (.tmp rfl rfl)) ?_
 refine gM .h (fun hp=>aeR jE.h hp rfl (.tmp rfl rfl)) ?_
 refine aP (Tv (i:=((es.length+1:Nat):Int)) (j:=(c:Int)) (.tmp rfl rfl) (.tmp rfl rfl)) ?_
 refine eQ ?_
 refine nY (b:=(decide ((c:Int)<((es.length+1:Nat):Int)))) (.tmp rfl rfl) (fun hb2=>?_) (fun hb2=>?_)
 · have hcl:c<es.length+1:=by simp only[ag3]at hb2; omega
   refine eB ?_
   refine aP (bE (v:=(.slice (some ⟨k0,0,none⟩) es.length (c+3))) (.tmp rfl rfl)) ?_
   refine aP (bE (v:=(.int .i64 (i:Int))) (.tmp rfl rfl)) ?_
   refine gM .h (fun hp=>LZ (j:=i) jE.h jl.h.sz hp rfl (.tmp rfl rfl) (.tmp rfl rfl) (by omega)) ?_
   refine aP (bE (v:=(.int .i64 (es.length:Int))) (.tmp rfl rfl)) ?_
   refine aP (bE (v:=(.int .i64 ((1:Nat):Int))) (.tmp rfl rfl)) ?_
   refine aP (nO (i:=(es.length:Int)) (j:=((1:Nat):Int)) (.tmp rfl rfl) (.tmp rfl rfl)) ?_
   rw[w1]
   refine aP (bE (v:=(.int .i64 (i:Int))) (.tmp rfl rfl)) ?_
   refine aP (Tu (i:=((es.length+1:Nat):Int)) (j:=(i:Int)) (.tmp rfl rfl) (.tmp rfl rfl)) ?_
   rw[w3]
   refine tZ (.cons .h .nil) (ac7 (c:=c) (q:=es.length+1-i) jE.h We jl.h rfl rfl rfl rfl rfl rfl (.tmp rfl rfl) (.tmp rfl rfl) (by omega) (by omega) (by omega) (by omega)) (fun k2=>?_)
   rw[show i+(es.length+1-i)=es.length+1 from by omega]
   refine aP (jI (v:=(.slice (some ⟨k2,0,none⟩) (es.length+1) 2)) (.tmp rfl rfl)) ?_
   refine eQ ?_
   refine eB ?_
   refine aP (bE (v:=(.slice (some ⟨k2,0,none⟩) (es.length+1) 2)) (.tmp rfl rfl)) ?_
   refine aP (bE (v:=(.int .i64 (i:Int))) (.tmp rfl rfl)) ?_
   refine gM .h (fun hp=>oC (j:=i) jE.h jl.h.sz hp rfl (.tmp rfl rfl) (.tmp rfl rfl) (by omega)) ?_
   refine aP (bE (v:=(.slice (some ⟨k1,0,none⟩) 1 m1)) (.tmp rfl rfl)) ?_
   refine tZ (.cons .h (.cons (.t .h) .nil)) (BU (m1:=0) (m2:=m1) (ia:=i) (ja:=0) (ld:=es.length+1-i) (ls:=1) (es2:=[e]) (es':=es.take i++e::List.replicate (es.length-i) (.agg [(.int .i64 0),(.slice none 0 0),(.slice none 0 0),(.int .i64 0)].toArray)) jE.h jl.h.sz rfl rfl rfl (by exact .tmp rfl rfl) (by exact .tmp rfl rfl) (by omega) (by omega) (by rw[aSc]; omega) (by simp; omega) (aeS (e:=e) (z:=(.agg [(.int .i64 0),(.slice none 0 0),(.slice none 0 0),(.int .i64 0)].toArray)) hlt) (by simp; omega)) (fun _=>?_)
   refine eQ ?_
   refine iQ [0,1,2,3,4,5,6,7,8] [0,0,0,6,15,0,0,96,255] [8] mixed (by decide+kernel) ?_
   refine dw rfl .no (fun ha=>bE (v:=(.slice (some ⟨k2,0,none⟩) (es.length+1) 2)) (EN ha (.tmp rfl rfl) rfl)) ?_
   refine dw rfl .no (fun ha=>bE (v:=(.int .i64 (i:Int))) (EN ha (.tmp rfl rfl) rfl)) ?_
   refine dw rfl .no (fun ha=>bE (v:=(.int .i64 ((1:Nat):Int))) (EN ha (.tmp rfl rfl) rfl)) ?_
   refine dw rfl .no (fun ha=>nO (i:=(i:Int)) (j:=((1:Nat):Int)) (EN ha (.tmp rfl rfl) rfl) (EN ha (.tmp rfl rfl) rfl)) ?_
   rw[w2]
   refine dF rfl .no .h (fun ha hp=>oC (j:=i+1) jE.h jl.h.sz hp rfl (EN ha (.tmp rfl rfl) rfl) (EN ha (.tmp rfl rfl) rfl) (by omega)) ?_
   refine dw rfl .no (fun ha=>bE (v:=(.slice (some ⟨k0,0,none⟩) es.length (c+3))) (EN ha (.tmp rfl rfl) rfl)) ?_
   refine dw rfl .no (fun ha=>bE (v:=(.int .i64 (i:Int))) (EN ha (.tmp rfl rfl) rfl)) ?_
   refine dF rfl .no (.t (.t .h)) (fun ha hp=>oC (j:=i) jE.h jl.h.sz hp rfl (EN ha (.tmp rfl rfl) rfl) (EN ha (.tmp rfl rfl) rfl) (by omega)) ?_
   refine pQ rfl rfl .no (.cons .h (.cons (.t .h) .nil)) (.aV rfl (.aV rfl .nil)) (fun ha=>BU jE.h jl.h.sz rfl rfl rfl (EN ha (.tmp rfl rfl) rfl) (EN ha (.tmp rfl rfl) rfl) (by omega) (by omega) (by omega) (by simp; omega) (aeT (e:=e) (z:=(.agg [(.int .i64 0),(.slice none 0 0),(.slice none 0 0),(.int .i64 0)].toArray)) hlt) (by omega)) (fun _=>?_)
   refine FL ?_
   refine eB ?_
   refine aP (bE (v:=(.slice (some ⟨k2,0,none⟩) (es.length+1) 2)) (.tmp rfl rfl)) ?_
   refine aP (jI (v:=(.slice (some ⟨k2,0,none⟩) (es.length+1) 2)) (.tmp rfl rfl)) ?_
   refine eQ ?_
   refine vz ?_
   rw[hel]
   exact iW (⟨some ⟨k2,0,none⟩,es.length+1,2⟩,[k2]) (.tmp rfl rfl .nil) rfl (.sel (.cons .h .nil))
 refine uo ?_
 have hcl:es.length+1<=c:=by simp only[aRw]at hb2; omega
 refine eB ?_
 refine aP (bE (v:=(.slice (some ⟨k0,0,none⟩) es.length (c+3))) (.tmp rfl rfl)) ?_
 refine aP (bE (v:=(.int .i64 (es.length:Int))) (.tmp rfl rfl)) ?_
 refine aP (bE (v:=(.int .i64 ((1:Nat):Int))) (.tmp rfl rfl)) ?_
 refine aP (nO (i:=(es.length:Int)) (j:=((1:Nat):Int)) (.tmp rfl rfl) (.tmp rfl rfl)) ?_
 rw[w1]
 refine gM .h (fun hp=>LZ (j:=es.length+1) jE.h jl.h.sz hp rfl (.tmp rfl rfl) (.tmp rfl rfl) hcl) ?_
 refine aP (jI (v:=(.slice (some ⟨k0,0,none⟩) (es.length+1) (c+3))) (.tmp rfl rfl)) ?_
 refine eQ ?_
 refine dZ ?_
 refine eB ?_
 refine aP (bE (v:=(.slice (some ⟨k1,0,none⟩) 1 m1)) (.tmp rfl rfl)) ?_
 refine aP (bE (v:=(.slice (some ⟨k0,0,none⟩) (es.length+1) (c+3))) (.tmp rfl rfl)) ?_
 refine aP (bE (v:=(.int .i64 (i:Int))) (.tmp rfl rfl)) ?_
 refine aP (bE (v:=(.int .i64 ((1:Nat):Int))) (.tmp rfl rfl)) ?_
 refine aP (nO (i:=(i:Int)) (j:=((1:Nat):Int)) (.tmp rfl rfl) (.tmp rfl rfl)) ?_
 rw[w2]
 refine gM .h (fun hp=>oC (j:=i+1) jE.h jl.h.sz hp rfl (.tmp rfl rfl) (.tmp rfl rfl) (by omega)) ?_
 refine tZ (.cons (.t .h) (.cons .h .nil)) (adB jE.h jl.h.sz rfl azI rfl rfl (.tmp rfl rfl) (.tmp rfl rfl) (by omega) (by omega)) (fun _=>?_)
 refine aP (NE (b:=false) (.tmp rfl rfl)) ?_
 refine eQ ?_
 refine nY (b:=(!false)) (.tmp rfl rfl) (fun _=>?_) (fun h=>absurd h (by decide))
 refine iQ [0,1,2,3,4,5,6,7,8] [0,0,0,6,15,0,0,96,255] [8] mixed (by decide+kernel) ?_
 refine dw rfl .no (fun ha=>bE (v:=(.slice (some ⟨k0,0,none⟩) (es.length+1) (c+3))) (EN ha (.tmp rfl rfl) rfl)) ?_
 refine dw rfl .no (fun ha=>bE (v:=(.int .i64 (i:Int))) (EN ha (.tmp rfl rfl) rfl)) ?_
 refine dw rfl .no (fun ha=>bE (v:=(.int .i64 ((1:Nat):Int))) (EN ha (.tmp rfl rfl) rfl)) ?_
 refine dw rfl .no (fun ha=>nO (i:=(i:Int)) (j:=((1:Nat):Int)) (EN ha (.tmp rfl rfl) rfl) (EN ha (.tmp rfl rfl) rfl)) ?_
 rw[w2]
 refine dF rfl .no (.t .h) (fun ha hp=>oC (j:=i+1) jE.h jl.h.sz hp rfl (EN ha (.tmp rfl rfl) rfl) (EN ha (.tmp rfl rfl) rfl) (by omega)) ?_
 refine dw rfl .no (fun ha=>bE (v:=(.slice (some ⟨k0,0,none⟩) (es.length+1) (c+3))) (EN ha (.tmp rfl rfl) rfl)) ?_
 refine dw rfl .no (fun ha=>bE (v:=(.int .i64 (i:Int))) (EN ha (.tmp rfl rfl) rfl)) ?_
 refine dF rfl .no (.t .h) (fun ha hp=>oC (j:=i) jE.h jl.h.sz hp rfl (EN ha (.tmp rfl rfl) rfl) (EN ha (.tmp rfl rfl) rfl) (by omega)) ?_
 refine dx rfl rfl .no (.cons (.t .h) .nil) (.aV rfl (.aV rfl .nil)) (fun ha=>aep jE.h jl.h.sz rfl rfl (EN ha (.tmp rfl rfl) rfl) (EN ha (.tmp rfl rfl) rfl) (by omega) (by omega) (by omega) (by omega) (aeU hlt) (by simp; omega)) (fun _=>?_)
 refine FL ?_
 refine eB ?_
 refine aP (bE (v:=(.slice (some ⟨k0,0,none⟩) (es.length+1) (c+3))) (.tmp rfl rfl)) ?_
 refine aP (bE (v:=(.int .i64 (i:Int))) (.tmp rfl rfl)) ?_
 refine gM .h (fun hp=>oC (j:=i) jE.h jl.h.sz hp rfl (.tmp rfl rfl) (.tmp rfl rfl) (by omega)) ?_
 refine aP (bE (v:=(.slice (some ⟨k1,0,none⟩) 1 m1)) (.tmp rfl rfl)) ?_
 refine tZ (.cons .h (.cons .h .nil)) (BU (m1:=0) (m2:=m1) (ia:=i) (ja:=0) (ld:=es.length+1-i) (ls:=1) (es2:=[e]) (es':=es.take i++e::es.drop i) jE.h jl.h.sz rfl rfl rfl (by exact .tmp rfl rfl) (by exact .tmp rfl rfl) (by omega) (by omega) (by rw[aSc]; omega) (by simp; omega) (aeV (e:=e) hlt) (by omega)) (fun _=>?_)
 refine eQ ?_
 refine eB ?_
 refine aP (bE (v:=(.slice (some ⟨k0,0,none⟩) (es.length+1) (c+3))) (.tmp rfl rfl)) ?_
 refine aP (jI (v:=(.slice (some ⟨k0,0,none⟩) (es.length+1) (c+3))) (.tmp rfl rfl)) ?_
 refine eQ ?_
 refine aeo (t:=6) (k:=k0) (l:=es.length+1) (c:=c) rfl rfl ?_
 refine vz ?_
 rw[hel]
 exact iW (⟨some ⟨k0,0,none⟩,es.length+1,2⟩,F) (.tmp rfl rfl .nil) rfl (.sel (.cons .h .nil))
theorem Xr{aC:List aS}{aA:Sv}{jb:List Nat}{jd:Int}{kD:List aS}{bJ:Sv}{Vt:List Nat}{R:List aS}(hF:KL aC jd kD=some R):
   Fw.Spec Tryz.prog 265 [aA.v,.int .i64 jd,bJ.v] [ah (aa 201 g_) jb aA.v aC,ah (aa 201 g_) Vt bJ.v kD] (fun p:Sv×List Nat=>p.1.v) (fun p=>[ah (aa 201 g_) p.2 p.1.v R]):=by
 unfold KL at hF
 rcases kD with _|⟨a,_|⟨_,_⟩⟩
 · simp at hF
 · dsimp only at hF
   split at hF
   · rename_i h
     obtain⟨h0,h1,h2⟩:=h
     obtain⟨i,rfl⟩:∃i:Nat,jd=(i:Int):=⟨jd.toNat,by omega⟩
     cases hF
     rw[aRc]at h1 ⊢
     exact adO (s:=4) fun es e Fa Fb hl=>arH es e aA bJ Fa Fb i (by omega) (by omega)
   · simp at hF
 · simp at hF
instance:dz Tryz.prog 265 (type_of% @Xr):=⟨@Xr⟩
def Iw(bG:Cache)(ae:ag)(dM:List aj)(dA:Int):Option (Cache):=
 (O6 bG ae).bind fun r4=>
 (Xb r4.Entries ae).bind fun r8=>
 if (decide ((r8:Int)<0))then (
   (Bo ae).bind fun nT=>
   (Br dM).bind fun iG=>
   (KL r4.Entries (r4.Entries.length:Int) ([(⟨nT,iG,dA⟩:aS)]:List aS)).bind fun A_=>
   some (⟨A_,r4.Age⟩:Cache))
 else (
   (Bo ae).bind fun eX=>
   (Br dM).bind fun qO=>
   (KL r4.Entries r8 ([(⟨eX,qO,dA⟩:aS)]:List aS)).bind fun KE=>
   some (⟨KE,r4.Age⟩:Cache))
theorem atm{bG:Cache}{aA:Sv}{ae:ag}{bR:Sv}{dM:List aj}{bJ:Sv}{dA:Int}{R:Cache}(hF:Iw bG ae dM dA=some R):
   Fw.Spec Tryz.prog 212 [(zg [aA.v,(zi bG.Age)]),(zg [(zi ae.Method),bR.v]),bJ.v,(zi dA)] [ku aA bG.Entries,bi bR ae.Values,iK bJ dM] (fun p:Sv×List Nat=>(zg [p.1.v,(zi R.Age)])) (fun p=>[jK p.2 p.1 R.Entries]):=by
 refine Se 36 Tryz.func212 [.cell 8 47] ?_
 intro H0 F0
 unfold Iw at hF
 refine au ?_
 refine j6 (fun k1=>?_)
 refine j6 (fun k2=>?_)
 refine gI (fun k3=>?_)
 refine fw ?_
 refine aP (Rc (fn:=.func 263) (vs:=[]) (us:=[(pz k2)]) .nil fG) ?_
 refine bnd hF fun r4 hx5 hF=>qM (acl hx5) (fun p6=>?_)
 refine gI (fun k7=>?_)
 refine As (zg [p6.1.v,(zi r4.Age)]) ?_
 refine dO ?_
 refine aP (Rc (fn:=.func 264) (vs:=[]) (us:=[(pz k2)]) .nil fG) ?_
 refine bnd hF fun r8 Eo hF=>iZ (.cons (.t .h) (.rd .q2 rfl (.rd .q5 rfl .nil))) (mH aX (fun _=>.nil) (cK aCX.h fG (@acf r4.Entries p6.1 k2 ae bR _ Eo))) (fun _=>?_)
 refine iq ?_
 refine Ci hF (fun ahY hF=>?_) (fun ahY hF=>?_)
 · refine lN ?_
   refine iQ [0,1,2,3,5,7,4,6,8,9,10,11,12] [0,1,0,0,8,0,56,0,248,504,1023,2047,4095] [4,6,10,12] mixed (by decide+kernel) ?_
   refine du ?_
   refine dF rfl .no (.t .h) (fun ha hp=>gy (v:=p6.1.v) agW.h (EN ha (.tmp rfl rfl) rfl) hp.2 rfl rfl) ?_
   refine Az ?_
   refine bnd hF fun nT ahZ hF=>dx rfl rfl .no (.rd .q6 rfl .nil) (.own (.t .h) (fun _ h=>h) .nil) (fun ha=>cK aoC.h (.cons (EN ha (.tmp rfl rfl) rfl) .nil) (@ajc ae bR _ ahZ)) (fun OD=>?_)
   refine bnd hF fun iG DL hF=>dx rfl rfl .no (.rd .q8 rfl .nil) (.own .q2 (fun _ h=>h) .nil) (fun ha=>cK aoB.h (.cons (EN ha (.tmp rfl rfl) rfl) .nil) (@ajq dM bJ _ DL)) (fun p16=>?_)
   refine dw rfl .no (fun ha=>iy jl.h rfl (vs:=[(zg [(zi nT.Method),OD.1.v]),p16.1.v,(zi dA)]) (.cons (EN ha (.tmp rfl rfl) rfl) (.cons (EN ha (.tmp rfl rfl) rfl) (.cons (EN ha (.tmp rfl rfl) rfl) .nil))) (cells:=[(zi nT.Method),OD.1.v,p16.1.v,(zi dA)]) rfl) ?_
   refine jw rfl .no rfl (fun ha=>gq (g:=true) (len:=1) (parts:=[(0,.tmp 31)]) jE.h jl.h (.cons (EN ha (.tmp rfl rfl) rfl) .nil) (vs:=[(zg [(zi nT.Method),OD.1.v,p16.1.v,(zi dA)])]) rfl rfl rfl (by intro v hv; simp at hv; rcases hv with rfl<;>rfl)) (fun k17=>?_)
   refine lQ (.cons .h (.cons (.t .h) (.cons .h .nil))) (gu (Ro:=g_) (E:=201) (F:=((OD.2++p16.2)++[])) (xs:=([(⟨nT,iG,dA⟩:aS)]:List aS)) (iV (Jo (a:=(⟨nT,iG,dA⟩:aS))) fU dS) rfl rfl) ?_
   refine bnd hF fun A_ U9 hF=>Dx1 (@Xr _ _ _ _ _ (⟨(some ⟨k17,0,none⟩),1,1⟩) _ _ U9) (fun nU=>?_)
   refine du ?_
   refine dx rfl rfl .no (.cons (.t .h) .nil) (.aV rfl (.aV rfl .nil)) (fun ha=>iO (e':=(zg [nU.1.v,(zi r4.Age)])) ap8.h.sz (EN ha (.tmp rfl rfl) rfl) (EN ha (.tmp rfl rfl) rfl) rfl rfl rfl rfl rfl) (fun _=>?_)
   refine du ?_
   refine eu ?_
   refine As (zg [nU.1.v,(zi r4.Age)]) ?_
   refine eu ?_
   cases hF
   exact Er (nU.1,nU.2)
 refine au ?_
 refine iQ [0,1,2,3,5,7,4,6,8,9,10,11,12] [0,1,0,0,8,0,56,0,248,504,1023,2047,4095] [4,6,10,12] mixed (by decide+kernel) ?_
 refine du ?_
 refine dF rfl .no (.t .h) (fun ha hp=>gy (v:=p6.1.v) agW.h (EN ha (.tmp rfl rfl) rfl) hp.2 rfl rfl) ?_
 refine Az ?_
 refine bnd hF fun eX Vr hF=>dx rfl rfl .no (.rd .q6 rfl .nil) (.own (.t .h) (fun _ h=>h) .nil) (fun ha=>cK aoC.h (.cons (EN ha (.tmp rfl rfl) rfl) .nil) (@ajc ae bR _ Vr)) (fun jU=>?_)
 refine bnd hF fun qO hx25 hF=>dx rfl rfl .no (.rd .q8 rfl .nil) (.own .q2 (fun _ h=>h) .nil) (fun ha=>cK aoB.h (.cons (EN ha (.tmp rfl rfl) rfl) .nil) (@ajq dM bJ _ hx25)) (fun p26=>?_)
 refine dw rfl .no (fun ha=>iy jl.h rfl (vs:=[(zg [(zi eX.Method),jU.1.v]),p26.1.v,(zi dA)]) (.cons (EN ha (.tmp rfl rfl) rfl) (.cons (EN ha (.tmp rfl rfl) rfl) (.cons (EN ha (.tmp rfl rfl) rfl) .nil))) (cells:=[(zi eX.Method),jU.1.v,p26.1.v,(zi dA)]) rfl) ?_
 refine jw rfl .no rfl (fun ha=>gq (g:=true) (len:=1) (parts:=[(0,.tmp 31)]) jE.h jl.h (.cons (EN ha (.tmp rfl rfl) rfl) .nil) (vs:=[(zg [(zi eX.Method),jU.1.v,p26.1.v,(zi dA)])]) rfl rfl rfl (by intro v hv; simp at hv; rcases hv with rfl<;>rfl)) (fun k27=>?_)
 refine lQ (.cons .h (.cons (.t .h) (.cons .h .nil))) (gu (Ro:=g_) (E:=201) (F:=((jU.2++p26.2)++[])) (xs:=([(⟨eX,qO,dA⟩:aS)]:List aS)) (iV (Jo (a:=(⟨eX,qO,dA⟩:aS))) fU dS) rfl rfl) ?_
 refine bnd hF fun KE hx29 hF=>Dx1 (@Xr _ _ _ _ _ (⟨(some ⟨k27,0,none⟩),1,1⟩) _ _ hx29) (fun p30=>?_)
 refine du ?_
 refine dx rfl rfl .no (.cons (.t .h) .nil) (.aV rfl (.aV rfl .nil)) (fun ha=>iO (e':=(zg [p30.1.v,(zi r4.Age)])) ap8.h.sz (EN ha (.tmp rfl rfl) rfl) (EN ha (.tmp rfl rfl) rfl) rfl rfl rfl rfl rfl) (fun _=>?_)
 refine du ?_
 refine eu ?_
 refine As (zg [p30.1.v,(zi r4.Age)]) ?_
 refine eu ?_
 cases hF
 exact Er (p30.1,p30.2)
instance at0:I4 212 t23 t9 t20 t1 u12 Iw:=⟨fun h=>atm h⟩
end Go.Proofs.YtlnefhbbbikmgabGreat
