/-
  Functions of the program as Lean functions, and that the calls return what these say. No conditions.
-/
import Derived.Test.YtlnefhbbbikmgabGreatAskQueryGS0
set_option maxRecDepth 100000
set_option maxHeartbeats 4000000
set_option linter.unusedVariables false
namespace Go.Proofs.YtlnefhbbbikmgabGreat
open Go Go.Fw
def Rv(aG:List Int)(aT:Int):Nat->(List Int)->Bool->Int->Option ((List Int))
 |0,_,_,_=>none
 |m10+1,c5,c8,c9=>if (decide ((c9:Int)<(aG.length:Int)))then (
     ((bif (!c8)then ((ix aG c9).bind fun wR=>
           some (decide ((aT:Int)<wR)))
         else (some false)).bind fun WC=>
       match WC with
       |Wz=>if Wz then (
           (app c5 ([aT]:List Int)).bind fun z32=>
           (ix aG c9).bind fun x38=>
           (app z32 ([x38]:List Int)).bind fun z43=>
           some (z43,true))
         else (
           (ix aG c9).bind fun x49=>
           (app c5 ([x49]:List Int)).bind fun z54=>
           some (z54,c8))).bind fun wS=>
     match wS with
     |(c59,lF)=>Rv aG aT m10 c59 lF (IntKind.i64.wrap (c9+1)))
   else (
     if (!c8)then (
       (app c5 ([aT]:List Int)).bind fun z65=>
       some z65)
     else (
       some c5))
def I8(aG:List Int)(aT:Int):Option ((List Int)):=
 (Ca aG aT).bind fun r1=>
 if r1 then (
   some aG)
 else (
   Rv aG aT (((aG.length:Int)-0).toNat+2) ([]:List Int) false 0)
instance aKN:I2 160 t28 t1 u1 I8:=⟨by
 intro _ _ _ _ _ hF
 refine' en Tryz.func160 (I8.eq_1 ..)
 refine' AZ (qq 5 (tO 3 (az ax)) (qq 6 tB (q1 7 tI))) [0,1]<;>rw[Rv]at hF<;>refine' go
 refine' cu (qq 5 (tO 3 (az ax)) (q1 6 tB)) [0,1,7]
 refine' rc (q1 28 tB) [0,1,5,6,7]
 replace hF:=bind_some hF
 obtain⟨wR,hx27,hF⟩:=hF
 have aGJ:=lX hx27
 obtain⟨aPC,hx29⟩:=kU hx27
 refine iJ jO.h gP.h.sz aU aU bQ aGJ (fun k23 aGK=>?_)
 refine' go
 refine TC (w:=(.int .i64 wR)) wL.h aU bQ aGK hx29 aas ?_
 refine' go
 replace hF:=bind_some hF
 obtain⟨x38,hx39,hF⟩:=hF
 have aGL:=lX hx39
 obtain⟨aPD,aGM⟩:=kU hx39
 refine iJ jO.h gP.h.sz aU aU bQ aGL (fun Oz aGN=>?_)
 refine' go
 refine TC (w:=(.int .i64 x38)) wL.h aU bQ aGN aGM aas ?_
 refine' go
 replace hF:=bind_some hF
 obtain⟨x49,aqx,hF⟩:=hF
 have aGO:=lX aqx
 obtain⟨aPE,abD⟩:=kU aqx
 refine iJ jO.h gP.h.sz aU aU bQ aGO (fun k46 aGP=>?_)
 refine' go
 refine TC (w:=(.int .i64 x49)) wL.h aU bQ aGP abD aas ?_
 refine' go⟩
def L_(jc:aJ):Nat->(List Int)->Int->Option ((List Int))
 |0,_,_=>none
 |m24+1,c20,c23=>if (decide ((c23:Int)<(jc.Terms.length:Int)))then (
     ((ix jc.Terms c23).bind fun x40=>
       (B_ x40).bind fun Ku=>
       if Ku then (
         (ix jc.Terms c23).bind fun x52=>
         (I8 c20 x52).bind fun r58=>
         some r58)
       else (
         some c20)).bind fun WE=>
     match WE with
     |lF=>L_ jc m24 lF (IntKind.i64.wrap (c23+1)))
   else (
     some c20)
def QY:List aJ->Nat->(List Int)->Option ((List Int))
 |[],k9,c3=>some c3
 |jc::r_,k9,c3=>(L_ jc (((jc.Terms.length:Int)-0).toNat+2) c3 0).bind fun wS=>
   match wS with
   |GM=>QY r_ (k9+1) GM
def Ng(aK:Query):Option ((List Int)):=
 QY aK.aL 0 ([]:List Int)
instance aKt:I1 85 t29 u1 Ng:=⟨by
 intro _ _ _ _ hF
 have hK:=True.intro
 refine' en Tryz.func85 (Ng.eq_1 ..)
 refine' dZ ?_
 refine' go
 refine' ed (q1 3 (tO 3 (az ax))) 4 [1]<;>rw[QY]at hF<;>refine' go
 refine' dZ ?_
 refine' go
 refine' dZ ?_
 refine' go
 refine' cu (q1 3 (tO 3 (az ax))) [1,4]
 refine' Km (qq 3 (tO 3 (az ax)) (q1 5 tI)) [1,4]<;>rw[L_]at hF<;>refine' go
 refine' dZ ?_
 refine' go
 refine' cu (q1 3 (tO 3 (az ax))) [1,4,5]⟩
def Nh(gT:Int):Option (Bool):=
 ((iR gT 0 9).bind fun r3=>
   bif r3 then (some true)
   else ((B_ gT).bind fun r7=>
     some r7)).bind fun o1=>
 match o1 with
 |c10=>some c10
instance aKu:I1 158 t1 u20 Nh:=⟨by
 intro _ _ hF
 refine' en Tryz.func158 (Nh.eq_1 ..)
 refine' rc (q1 2 tB) []⟩
def QZ:List Int->Nat->Option (Bool)
 |[],k22=>some true
 |x24::Tn,k22=>(Nh x24).bind fun zH=>
   if (!zH)then (
     some false)
   else (
     QZ Tn (k22+1))
def SE(aC:List Int)(ae:aJ):Option (Bool):=
 ((vU aC).bind fun r4=>
   bif (!r4)then (some true)
   else ((iR ae.aD 0 (IntKind.i64.wrap ((aC.length:Int)-1))).bind fun r8=>
     bif (!r8)then (some true)
     else ((ix aC ae.aD).bind fun uR=>
       some (((ae.Terms.length:Int):Int)!=uR)))).bind fun o2=>
 match o2 with
 |c18=>if c18 then (
     some false)
   else (
     QZ ae.Terms 0)
instance aKv:I2 84 t0 t17 u20 SE:=⟨by
 intro _ _ _ _ _ hF
 refine' en Tryz.func84 (SE.eq_1 ..)
 refine' dc (q1 28 tB) [3]
 refine' eP q0 5 [3]<;>rw[QZ]at hF<;>refine' go⟩
def LK(aC:List Int)(aK:Query)(iG:(List Int)):List Int->Nat->Option (Bool)
 |[],k20=>((vU aC).bind fun OA=>
     bif OA then ((iR (aK.aL.length:Int) 1 4).bind fun r35=>
       bif r35 then (some (decide (((aK.a_.length:Int):Int)<=3)))
       else (some false))
     else (some false)).bind fun Kv=>
   match Kv with
   |c39=>some c39
 |jT::Jg,k20=>(Ca iG jT).bind fun r43=>
   if (!r43)then (
     some false)
   else (
     LK aC aK iG Jg (k20+1))
def LM(aC:List Int)(aK:Query):List aJ->Nat->Option (Bool)
 |[],k5=>(Ng aK).bind fun iG=>
   LK aC aK iG aK.a_ 0
 |x7::fM,k5=>(SE aC x7).bind fun r51=>
   if (!r51)then (
     some false)
   else (
     LM aC aK fM (k5+1))
def zP(aC:List Int)(aK:Query):Option (Bool):=
 LM aC aK aK.aL 0
instance ada:I2 25 t0 t29 u20 zP:=⟨by
 intro _ _ _ _ _ _ hF
 refine' en Tryz.func25 (zP.eq_1 ..)
 refine' eP q0 5 [0,3]<;>rw[LM]at hF<;>refine' go
 refine' eP q0 7 [0,3,6]<;>rw[LK]at hF<;>refine' go
 refine' rc (q1 4 tB) []⟩
def Ni(aC:List Int)(aG:List Method)(aK:Query):Option (Bool):=
 ((EO aC aG).bind fun r4=>
   bif r4 then ((zP aC aK).bind fun r8=>
     some r8)
   else (some false)).bind fun o2=>
 match o2 with
 |c11=>some c11
instance avj:I3 87 t0 t26 t29 u20 Ni:=⟨by
 intro _ _ _ _ _ _ _ _ hF
 refine' en Tryz.func87 (Ni.eq_1 ..)
 refine' rc (q1 6 tB) []⟩
def Nj(TQ:Int)(ayJ:List Int):Option (aJ):=
 (app ([]:List Int) ayJ).bind fun z3=>
 some ({aD:=TQ,Terms:=z3}:aJ)
instance aKw:I2 161 t1 t0 u17 Nj:=⟨by
 intro _ _ _ _ hF
 refine' en Tryz.func161 (Nj.eq_1 ..)⟩
def Ma(z4:List Int):List aJ->Nat->(List aJ)->Option (Query)
 |[],wT,c32=>some ({a_:=z4,aL:=c32}:Query)
 |x40::yC,wT,c32=>(Nj x40.aD x40.Terms).bind fun r52=>
   (app c32 ([r52]:List aJ)).bind fun z56=>
   Ma z4 yC (wT+1) z56
def Nk(aK:Query):Option (Query):=
 (app ([]:List Int) aK.a_).bind fun z4=>
 Ma z4 aK.aL 0 ([]:List aJ)
instance avk:I1 92 t29 u19 Nk:=⟨by
 intro _ _ _ _ hF
 refine' en Tryz.func92 (Nk.eq_1 ..)
 rename_i p6
 refine' aP (iy F_.h rfl (vs:=[p6.1.v]) (.cons (.tmp rfl rfl) .nil) (cells:=[p6.1.v,(.slice none 0 0)]) rfl) ?_
 refine' go
 rename_i k7
 refine' ed (.mk (β:=(List aJ)) (ι:=Sv×List Nat) (fun c32 i1=>[]) (fun c32 i1=>[aW k7 56 (.agg [p6.1.v,i1.1.v].toArray),ah (aa 138 jZ) i1.2 i1.1.v c32]) [] [pz k7]) 4 [1,2,3]<;>rw[Ma]at hF<;>refine' go⟩
def Lc(jc:aJ):Nat->(List Int)->Int->Option ((List Int))
 |0,_,_=>none
 |m24+1,c20,c23=>if (decide ((c23:Int)<(jc.Terms.length:Int)))then (
     ((ix jc.Terms c23).bind fun x40=>
       (iR x40 0 9).bind fun Ku=>
       if Ku then (
         (ix jc.Terms c23).bind fun x52=>
         (I8 c20 x52).bind fun r58=>
         some r58)
       else (
         some c20)).bind fun WE=>
     match WE with
     |lF=>Lc jc m24 lF (IntKind.i64.wrap (c23+1)))
   else (
     some c20)
def Pm:List aJ->Nat->(List Int)->Option ((List Int))
 |[],k9,c3=>some c3
 |jc::r_,k9,c3=>(Lc jc (((jc.Terms.length:Int)-0).toNat+2) c3 0).bind fun wS=>
   match wS with
   |GM=>Pm r_ (k9+1) GM
def Lt(aK:Query):Option ((List Int)):=
 Pm aK.aL 0 ([]:List Int)
instance aIF:I1 267 t29 u1 Lt:=⟨by
 intro _ _ _ _ hF
 have hK:=True.intro
 refine' en Tryz.func267 (Lt.eq_1 ..)
 refine' dZ ?_
 refine' go
 refine' ed (q1 3 (tO 3 (az ax))) 4 [1]<;>rw[Pm]at hF<;>refine' go
 refine' dZ ?_
 refine' go
 refine' dZ ?_
 refine' go
 refine' cu (q1 3 (tO 3 (az ax))) [1,4]
 refine' Km (qq 3 (tO 3 (az ax)) (q1 5 tI)) [1,4]<;>rw[Lc]at hF<;>refine' go
 refine' dZ ?_
 refine' go
 refine' cu (q1 3 (tO 3 (az ax))) [1,4,5]⟩
def Fs(aM:aN)(kD:Int)(aT:Int):Option (aN):=
 (app ([]:List Int) aM.Vars).bind fun z7=>
 (app z7 ([kD]:List Int)).bind fun z10=>
 (app ([]:List Int) aM.Values).bind fun z13=>
 (app z13 ([aT]:List Int)).bind fun z16=>
 some ({Vars:=z10,Values:=z16}:aN)
instance aKx:I3 224 t30 t1 t1 u21 Fs:=⟨by
 intro _ _ _ kD aT _ hF
 have hD:=True.intro
 refine' en Tryz.func224 (Fs.eq_1 ..)
 refine' KD [0,1,2,4,5,7,8,9,11,12,3,6,10,13,14,15] [0,0,2,7,0,16,63,0,0,256,1023,0,2048,8191,16383,32767] [3,6,10,13,15] mixed ?_
 refine' go
 refine' Hb (az ax) [kD]
 refine' Hb (az ax) [aT]⟩
def Qs(aM:aN)(zY:Int):Nat->Int->Option (Int)
 |0,_=>none
 |m6+1,c5=>if ((decide ((c5:Int)<(aM.Vars.length:Int)))&&(decide ((c5:Int)<(aM.Values.length:Int))))then (
     (ix aM.Vars c5).bind fun nI=>
     if ((nI:Int)==zY)then (
       (ix aM.Values c5).bind fun jT=>
       some jT)
     else (
       Qs aM zY m6 (IntKind.i64.wrap (c5+1))))
   else (
     some (-1))
def yn(aM:aN)(zY:Int):Option (Int):=
 (B_ zY).bind fun r2=>
 if (!r2)then (
   some zY)
 else (
   Qs aM zY (((aM.Vars.length:Int)-0).toNat+2) 0)
instance aJ6:I2 167 t30 t1 u0 yn:=⟨by
 intro aM _ _ _ _ hF
 refine' en Tryz.func167 (yn.eq_1 ..)
 refine' Ou (q1 5 tI) [1,2]<;>rw[Qs]at hF<;>refine' go
 rename_i c5 _ _
 refine' zA [(21,(.bool ((decide ((c5:Int)<(aM.Vars.length:Int)))&&(decide ((c5:Int)<(aM.Values.length:Int))))))] [1,2,5] (fun _=>?_)
 refine' go⟩
def YT(dC:aj):List aj->Nat->Option (Bool)
 |[],k5=>some false
 |x7::fM,k5=>(Hg x7 dC).bind fun fC=>
   if ((fC:Int)==0)then (
     some true)
   else (
     YT dC fM (k5+1))
def R5(aG:List aj)(dC:aj):Option (Bool):=
 YT dC aG 0
instance aJ7:I2 173 t20 t6 u20 R5:=⟨by
 intro _ _ _ _ _ hF
 refine' en Tryz.func173 (R5.eq_1 ..)
 refine' eP q0 5 [0,3]<;>rw[YT]at hF<;>refine' go⟩
def Bn(dC:aj):List aj->Nat->(List aj)->Bool->Option ((List aj))
 |[],k13,c6,c9=>if (!c9)then (
     (xk dC.aD dC.Values).bind fun mq=>
     (app c6 ([mq]:List aj)).bind fun z26=>
     some z26)
   else (
     some c6)
 |wN::az0,k13,c6,c9=>((bif (!c9)then ((Hg dC wN).bind fun Oy=>
         some (decide ((Oy:Int)<0)))
       else (some false)).bind fun o32=>
     match o32 with
     |c41=>if c41 then (
         (xk dC.aD dC.Values).bind fun r42=>
         (app c6 ([r42]:List aj)).bind fun z46=>
         (xk wN.aD wN.Values).bind fun r54=>
         (app z46 ([r54]:List aj)).bind fun z58=>
         some (z58,true))
       else (
         (xk wN.aD wN.Values).bind fun r66=>
         (app c6 ([r66]:List aj)).bind fun z70=>
         some (z70,c9))).bind fun o30=>
   match o30 with
   |(c75,c78)=>Bn dC az0 (k13+1) c75 c78
def zQ(aG:List aj)(dC:aj):Option ((List aj)):=
 (R5 aG dC).bind fun r3=>
 Bn dC aG 0 ([]:List aj) r3
instance auF:I2 101 t20 t6 u7 zQ:=⟨by
 intro _ _ _ _ _ hF
 refine' en Tryz.func101 (zQ.eq_1 ..)
 refine' Gb dV []
 refine' Wd (qq 5 (tO 164 dV) (q1 6 tB)) 7 [0,3]<;>rw[Bn]at hF<;>refine' go
 refine' cu (qq 5 (tO 164 dV) (q1 6 tB)) [0,3,7]
 refine' dc (q1 28 tB) [0,3,5,6,7]⟩
theorem ac2{aG:List aj}{aA:Sv}{dC:aj}{bR:Sv}{R:(List aj)}(hF:zQ aG dC=some R):
   Fw.Spec Tryz.prog 101 [aA.v,(.agg [(.int .i64 dC.aD),bR.v].toArray)] [aI (ak 164 gZ) aA.v aG,aI (ak 3 ax) bR.v dC.Values] (fun p:Sv×List Nat=>p.1.v) (fun p=>[ah (aa 164 dV) p.2 p.1.v R]):=auF.h hF
def Le(wF:List Int)(wG:List Int)(c212:List aj)(y7:aJ):Nat->(List Int)->Int->Option ((List aj))
 |0,_,_=>none
 |aGQ+1,y8,xM=>if (decide ((xM:Int)<(y7.Terms.length:Int)))then (
     (ix y7.Terms xM).bind fun aGR=>
     (yn ({Vars:=wF,Values:=wG}:aN) aGR).bind fun aGS=>
     (app y8 ([aGS]:List Int)).bind fun aGT=>
     Le wF wG c212 y7 aGQ aGT (IntKind.i64.wrap (xM+1)))
   else (
     (zQ c212 ({aD:=y7.aD,Values:=y8}:aj)).bind fun aGU=>
     some aGU)
def Pn(wF:List Int)(wG:List Int):List aJ->Nat->(List aj)->Option ((List aj)×aN×Bool)
 |[],aqy,c212=>some (c212,({Vars:=wF,Values:=wG}:aN),true)
 |y7::ayK,aqy,c212=>(Le wF wG c212 y7 (((y7.Terms.length:Int)-0).toNat+2) ([]:List Int) 0).bind fun aGV=>
   match aGV with
   |aGW=>Pn wF wG ayK (aqy+1) aGW
def Po(r3:(List Int)):Nat->Int->Option (Int)
 |0,_=>none
 |aGX+1,ahl=>(Ca r3 ahl).bind fun aGY=>
   if aGY then (
     Po r3 aGX (IntKind.i64.wrap (ahl+1)))
   else (
     some ahl)
def Lf(aK:Query)(r3:(List Int))(fuel:Nat):List Int->Nat->(List Int)->(List Int)->Int->Option ((List aj)×aN×Bool)
 |[],Vb,wF,wG,c198=>Pn wF wG aK.aL 0 ([]:List aj)
 |aGZ::ayL,Vb,wF,wG,c198=>(((Po r3 fuel c198).bind fun aG0=>
     match aG0 with
     |ahm=>if (decide ((9:Int)<ahm))then (
         some (.inl (([]:List aj),({Vars:=[],Values:=[]}:aN),false)))
       else (
         (Fs ({Vars:=wF,Values:=wG}:aN) aGZ ahm).bind fun aqz=>
         some (.inr (aqz.Vars,aqz.Values,(IntKind.i64.wrap (ahm+1)))))):Option (Sum ((List aj)×aN×Bool) ((List Int)×(List Int)×Int))).bind fun aG1=>
   match aG1 with
   | .inl r=>some r
   | .inr (abE,abF,abG)=>Lf aK r3 fuel ayL (Vb+1) abE abF abG
def Qb(fuel:Nat)(aK:Query):Option ((List aj)×aN×Bool):=
 (Lt aK).bind fun r3=>
 (Ng aK).bind fun r6=>
 Lf aK r3 fuel r6 0 ([]:List Int) ([]:List Int) 0
instance aIG:IF1 268 t29 u22 Qb:=⟨by
 intro _ _ _ _ _ hF
 have hK:=True.intro
 refine' en Tryz.func268 (Qb.eq_1 ..)
 refine' aP (iy gB.h rfl (vs:=[]) .nil (cells:=[(.slice none 0 0),(.slice none 0 0)]) rfl) ?_
 refine' go
 refine' dZ ?_
 refine' go
 rename_i r6 p8 _
 refine' UU (ah (aa 3 (az ax)) p8.2 p8.1.v r6) ?_
 rename_i k9
 refine' rn3 (.mk (β:=(List Int)×(List Int)×Int) (ι:=Sv×List Nat×Sv×List Nat) (fun|(wF,wG,c198),i1=>[(8,(.int .i64 c198))]) (fun|(wF,wG,c198),i1=>[aW k9 152 (.agg [i1.1.v,i1.2.2.1.v].toArray),ah (aa 3 (az ax)) i1.2.1 i1.1.v wF,ah (aa 3 (az ax)) i1.2.2.2 i1.2.2.1.v wG]) [8] [pz k9]) 9 [1,3,5,6,7]<;>rw[Lf]at hF<;>refine' go
 refine' dZ ?_
 refine' go
 refine' Gb dV []
 refine' dZ ?_
 refine' go
 rename_i p5 _ _ _ _ _ _ _ _ _ _
 refine' ed ((q1 10 (tO 164 dV)).dr [p5.1.v]) 11 [1,3,7]<;>rw[Pn]at hF<;>refine' go
 refine' dZ ?_
 refine' go
 refine' dZ ?_
 refine' go
 refine' cu (q1 10 (tO 164 dV)) [1,3,7,11]
 rename_i y7 _ _ _ _ _ _ _ _ _ _ _
 refine' aP (iy jY.h rfl (vs:=[(.int .i64 y7.aD)]) (.cons (.tmp rfl rfl) .nil) (cells:=[(.int .i64 y7.aD),(.slice none 0 0)]) rfl) ?_
 refine' go
 refine' dZ ?_
 refine' go
 rename_i aqB
 refine' Km (.mk (β:=(List Int)×Int) (ι:=Sv×List Nat) (fun|(y8,xM),i4=>[(13,(.int .i64 xM))]) (fun|(y8,xM),i4=>[aW aqB 164 (.agg [(.int .i64 y7.aD),i4.1.v].toArray),ah (aa 3 (az ax)) i4.2 i4.1.v y8]) [13] [pz aqB]) [1,3,7,10,11,12]<;>rw[Le]at hF<;>refine' go
 refine' dZ ?_
 refine' go
 refine' qj ?_
 refine' go
 refine' dZ ?_
 refine' go
 rename_i i1 _ _ _ _
 refine' cuS ((Dq.mk (β:=(List Int)×(List Int)×Int) (ι:=Sv×List Nat×Sv×List Nat) (fun|(abE,abF,abG),i5=>[(8,(.int .i64 abG))]) (fun|(abE,abF,abG),i5=>[aW k9 152 (.agg [i5.1.v,i5.2.2.1.v].toArray),ah (aa 3 (az ax)) i5.2.1 i5.1.v abE,ah (aa 3 (az ax)) i5.2.2.2 i5.2.2.1.v abF]) [8] [pz k9]).dr [i1.1.v,i1.2.2.1.v]) [1,3,5,6,7,9]
 refine' cu (q1 8 tI) [1,3,5,6,7,9]
 refine' Ou (q1 8 tI) [1,3,5,6,7,9]<;>rw[Po]at hF<;>refine' go
 refine' dZ ?_
 refine' go
 refine' dZ ?_
 refine' go
 refine' Gb dV []
 refine' aP (iy gB.h rfl (vs:=[]) .nil (cells:=[(.slice none 0 0),(.slice none 0 0)]) rfl) ?_
 refine' go⟩
def Lu(Gg:(List aj)×aN×Bool):List aj->Nat->(List aj)->Option ((List aj)×aN×Bool)
 |[],aqC,abH=>some (abH,Gg.2.1,Gg.2.2)
 |aqD::ayM,aqC,abH=>(if (decide ((aqD.aD:Int)<3))then (
       (app abH ([aqD]:List aj)).bind fun aG2=>
       some aG2)
     else (
       some abH)).bind fun aG3=>
   match aG3 with
   |aG4=>Lu Gg ayM (aqC+1) aG4
def Hu(r4:Query)(fuel:Nat):List Int->Nat->(List aJ)->Option ((List aj)×aN×Bool)
 |[],aqE,xN=>(Qb fuel ({a_:=r4.a_,aL:=xN}:Query)).bind fun Gg=>
   Lu Gg Gg.1 0 ([]:List aj)
 |ahn::ayN,aqE,xN=>(app xN ([({aD:=3,Terms:=([ahn]:List Int)}:aJ)]:List aJ)).bind fun z213=>
   Hu r4 fuel ayN (aqE+1) z213
def Rw(fuel:Nat)(mU:Query)(aK:Query):Option ((List aj)×aN×Bool):=
 (Nk mU).bind fun r4=>
 (Lt aK).bind fun r8=>
 Hu r4 fuel r8 0 r4.aL
instance atI:GL 217 t29 t29 u23 Rw:=⟨by
 intro _ _ _ _ _ _ _ _ hF
 refine' en Tryz.func217 (Rw.eq_1 ..)
 rename_i r8 sV
 refine' UU (ah (aa 3 (az ax)) sV.2 sV.1.v r8) ?_
 rename_i p6 k7
 refine' ed ((Dq.mk (β:=(List aJ)) (ι:=Sv×List Nat) (fun xN i1=>[]) (fun xN i1=>[aW k7 56 (.agg [p6.1.v,i1.1.v].toArray),ah (aa 138 jZ) i1.2 i1.1.v xN]) [] [pz k7]).dr [p6.2.2.1.v]) 9 [5,7,8]<;>rw[Hu]at hF<;>refine' go
 refine' Gb (az gZ) []
 rename_i Gg aqF _ _
 refine' UU (ah (aa 164 dV) aqF.2.1 aqF.1.v Gg.1) ?_
 rename_i i1 _ _ _ _ _
 refine' ed ((q1 13 (tO 164 (az gZ))).dr [i1.1.v,p6.1.v,pz k7]) 14 [5,10,11,12]<;>rw[Lu]at hF<;>refine' go
 refine' cu (q1 13 (tO 164 (az gZ))) [5,10,11,12,14]
 rename_i ahn _ _ _ _ _ _ _ _ _ _
 refine' Hb (az ax) [ahn]⟩
def LP(aM:aN):List Int->Nat->(List Int)->Option ((List Int))
 |[],k10,c4=>some c4
 |uR::ae9,k10,c4=>(yn aM uR).bind fun eX=>
   (app c4 ([eX]:List Int)).bind fun z25=>
   LP aM ae9 (k10+1) z25
def MU(aK:Query)(aM:aN):Option ((List Int)):=
 LP aM aK.a_ 0 ([]:List Int)
instance auG:I2 219 t29 t30 u1 MU:=⟨by
 intro _ _ _ _ _ _ _ hF
 refine' en Tryz.func219 (MU.eq_1 ..)
 refine' ed (q1 5 (tO 3 (az ax))) 6 [2,3]<;>rw[LP]at hF<;>refine' go⟩
def Nl(aM:aN):Option (aN):=
 (app ([]:List Int) aM.Vars).bind fun z5=>
 (app ([]:List Int) aM.Values).bind fun z8=>
 some ({Vars:=z5,Values:=z8}:aN)
instance aKy:I1 222 t30 u21 Nl:=⟨by
 intro _ _ _ _ hF
 have hD:=True.intro
 refine' en Tryz.func222 (Nl.eq_1 ..)
 refine' KD [0,1,2,4,5,6,3,7,8,9] [0,0,2,7,0,0,32,127,255,511] [3,7,9] mixed ?_
 refine' go⟩
def Qt(aM:aN)(kD:Int):Nat->Int->Option (Bool)
 |0,_=>none
 |m3+1,c2=>if ((decide ((c2:Int)<(aM.Vars.length:Int)))&&(decide ((c2:Int)<(aM.Values.length:Int))))then (
     (ix aM.Vars c2).bind fun sW=>
     if ((sW:Int)==kD)then (
       some true)
     else (
       Qt aM kD m3 (IntKind.i64.wrap (c2+1))))
   else (
     some false)
def MV(aM:aN)(kD:Int):Option (Bool):=
 Qt aM kD (((aM.Vars.length:Int)-0).toNat+2) 0
instance aJ8:I2 223 t30 t1 u20 MV:=⟨by
 intro aM _ _ _ _ hF
 refine' en Tryz.func223 (MV.eq_1 ..)
 refine' Ou (q1 5 tI) [1,2]<;>rw[Qt]at hF<;>refine' go
 rename_i c2 _ _
 refine' zA [(17,(.bool ((decide ((c2:Int)<(aM.Vars.length:Int)))&&(decide ((c2:Int)<(aM.Values.length:Int))))))] [1,2,5] (fun _=>?_)
 refine' go⟩
def PP(dC:aj):List Int->Nat->(List Int)->(List Int)->Option (aN×Bool)
 |[],WF,sZ,Em=>some (({Vars:=sZ,Values:=Em}:aN),true)
 |x82::az1,WF,sZ,Em=>(((yn ({Vars:=sZ,Values:=Em}:aN) x82).bind fun r93=>
     ((B_ x82).bind fun aG5=>
       bif aG5 then ((MV ({Vars:=sZ,Values:=Em}:aN) x82).bind fun aG6=>
         some (!aG6))
       else (some false)).bind fun o96=>
     match o96 with
     |c109=>if c109 then (
         (ix dC.Values (WF:Int)).bind fun x112=>
         (Fs ({Vars:=sZ,Values:=Em}:aN) x82 x112).bind fun aqG=>
         some (.inr (aqG.Vars,aqG.Values)))
       else (
         (ix dC.Values (WF:Int)).bind fun aG7=>
         if ((r93:Int)!=aG7)then (
           some (.inl (({Vars:=[],Values:=[]}:aN),false)))
         else (
           some (.inr (sZ,Em))))):Option (Sum (aN×Bool) ((List Int)×(List Int)))).bind fun o89=>
   match o89 with
   | .inl r=>some r
   | .inr (c130,abI)=>PP dC az1 (WF+1) c130 abI
def Q0(aM:aN)(ae:aJ)(dC:aj):Option (aN×Bool):=
 (Nl aM).bind fun r5=>
 if (((ae.aD:Int)!=dC.aD)||((((ae.Terms.length:Int):Int)!=(dC.Values.length:Int))||(((aM.Vars.length:Int):Int)!=(aM.Values.length:Int))))then (
   some (({Vars:=[],Values:=[]}:aN),false))
 else (
   PP dC ae.Terms 0 r5.Vars r5.Values)
instance aJc:I3 174 t30 t17 t6 u24 Q0:=⟨by
 intro aM _ _ ae _ dC _ _ hF
 refine' en Tryz.func174 (Q0.eq_1 ..)
 refine' zA [(35,(.bool (((ae.aD:Int)!=dC.aD)||((((ae.Terms.length:Int):Int)!=(dC.Values.length:Int))||(((aM.Vars.length:Int):Int)!=(aM.Values.length:Int))))))] [4,5,6,8] (fun _=>?_)
 refine' go
 refine' aP (iy gB.h rfl (vs:=[]) .nil (cells:=[(.slice none 0 0),(.slice none 0 0)]) rfl) ?_
 refine' go
 rename_i p7 k8 _ _
 refine' Wd ((Dq.mk (β:=(List Int)×(List Int)) (ι:=Sv×List Nat×Sv×List Nat) (fun|(sZ,Em),i1=>[]) (fun|(sZ,Em),i1=>[aW k8 152 (.agg [i1.1.v,i1.2.2.1.v].toArray),ah (aa 3 (az ax)) i1.2.1 i1.1.v sZ,ah (aa 3 (az ax)) i1.2.2.2 i1.2.2.1.v Em]) [] [pz k8]).dr [p7.1.v,p7.2.2.1.v]) 9 [4,5,6,8]<;>rw[PP]at hF<;>refine' go
 rename_i i1 _ _ _ _
 refine' cuS ((Dq.mk (β:=(List Int)×(List Int)) (ι:=Sv×List Nat×Sv×List Nat) (fun|(c130,abI),i2=>[]) (fun|(c130,abI),i2=>[aW k8 152 (.agg [i2.1.v,i2.2.2.1.v].toArray),ah (aa 3 (az ax)) i2.2.1 i2.1.v c130,ah (aa 3 (az ax)) i2.2.2.2 i2.2.2.1.v abI]) [] [pz k8]).dr [i1.1.v,i1.2.2.1.v]) [4,5,6,8,9]
 refine' dc (q1 66 tB) [4,5,6,8,9,10]
 refine' aP (iy gB.h rfl (vs:=[]) .nil (cells:=[(.slice none 0 0),(.slice none 0 0)]) rfl) ?_
 refine' go⟩
def Lv(ae:aJ)(jc:aN):List aj->Nat->(List aN)->Option ((List aN))
 |[],k26,c20=>some c20
 |x28::ae8,k26,c20=>((Q0 jc ae x28).bind fun pI=>
     if pI.2 then (
       (app c20 ([pI.1]:List aN)).bind fun z48=>
       some z48)
     else (
       some c20)).bind fun WE=>
   match WE with
   |WA=>Lv ae jc ae8 (k26+1) WA
def Lx(ae:aJ)(dM:List aj):List aN->Nat->(List aN)->Option ((List aN))
 |[],k9,c3=>some c3
 |jc::r_,k9,c3=>(Lv ae jc dM 0 c3).bind fun wS=>
   match wS with
   |zF=>Lx ae dM r_ (k9+1) zF
def uY(aG:List aN)(ae:aJ)(dM:List aj):Option ((List aN)):=
 Lx ae dM aG 0 ([]:List aN)
instance atJ:I3 102 t31 t17 t20 u25 uY:=⟨by
 intro _ _ _ _ _ _ _ hF
 have hK:=True.intro
 have hD:=True.intro
 refine' en Tryz.func102 (uY.eq_1 ..)
 refine' dZ ?_
 refine' go
 refine' ed (q1 7 (tO 152 j3)) 8 [0,2,4]<;>rw[Lx]at hF<;>refine' go
 refine' dZ ?_
 refine' go
 refine' dZ ?_
 refine' go
 refine' cu (q1 7 (tO 152 j3)) [0,2,4,8]
 refine' ed (q1 7 (tO 152 j3)) 9 [0,2,4,8]<;>rw[Lv]at hF<;>refine' go
 refine' dZ ?_
 refine' go
 refine' dZ ?_
 refine' go
 refine' cu (q1 7 (tO 152 j3)) [0,2,4,8,9]
 refine' KD [0,1,2,3,4,5,6,7,8,13,9,10,11,12,14,15] [0,0,3,7,0,0,0,96,224,511,1023,2047,2047,0,12287,32767] [9,14] mixed ?_
 refine' go⟩
theorem acV{aG:List aN}{aA:Sv}{ae:aJ}{bR:Sv}{dM:List aj}{bJ:Sv}{R:(List aN)}(hF:uY aG ae dM=some R):
   Fw.Spec Tryz.prog 102 [aA.v,(.agg [(.int .i64 ae.aD),bR.v].toArray),bJ.v] [aI (ak 152 sF) aA.v aG,aI (ak 3 ax) bR.v ae.Terms,aI (ak 164 gZ) bJ.v dM] (fun p:Sv×List Nat=>p.1.v) (fun p=>[ah (aa 152 j3) p.2 p.1.v R]):=atJ.h hF
def Py(dM:List aj):List aJ->Nat->(List aN)->Option ((List aN))
 |[],k9,c3=>some c3
 |jc::r_,k9,c3=>(uY c3 jc dM).bind fun eX=>
   Py dM r_ (k9+1) eX
def Qu(aK:Query)(dM:List aj):Option ((List aN)):=
 Py dM aK.aL 0 ([({Vars:=[],Values:=[]}:aN)]:List aN)
instance aIR:I2 269 t29 t20 u25 Qu:=⟨by
 intro _ _ _ _ _ _ hF
 refine' en Tryz.func269 (Qu.eq_1 ..)
 refine' aP (iy gB.h rfl (vs:=[]) .nil (cells:=[(.slice none 0 0),(.slice none 0 0)]) rfl) ?_
 refine' go
 refine' Gb j3 [({Vars:=[],Values:=[]}:aN)]
 refine' ed (q1 5 (tO 152 j3)) 6 [1,2]<;>rw[Py]at hF<;>refine' go⟩
def Q3(aM:List Int):List Int->Nat->Option (Bool)
 |[],k4=>some true
 |x6::dH,k4=>(ix aM (k4:Int)).bind fun wN=>
   if ((x6:Int)!=wN)then (
     some false)
   else (
     Q3 aM dH (k4+1))
def Nn(ae:List Int)(aM:List Int):Option (Bool):=
 if (((ae.length:Int):Int)!=(aM.length:Int))then (
   some false)
 else (
   Q3 aM ae 0)
instance aKz:I2 221 t0 t0 u20 Nn:=⟨by
 intro _ _ _ _ _ hF
 refine' en Tryz.func221 (Nn.eq_1 ..)
 refine' eP q0 5 [0,1]<;>rw[Q3]at hF<;>refine' go⟩
def Pp(aK:Query)(xq:List Int):List aN->Nat->Option (aN×Bool)
 |[],k41=>some (({Vars:=[],Values:=[]}:aN),false)
 |x43::az2,k41=>(MU aK x43).bind fun El=>
   (Nn El xq).bind fun r56=>
   if r56 then (
     (Nl x43).bind fun wP=>
     some (wP,true))
   else (
     Pp aK xq az2 (k41+1))
def Qd(aK:Query)(dM:List aj)(xq:List Int):Option (aN×Bool):=
 (Qu aK dM).bind fun r3=>
 Pp aK xq r3 0
instance ass:I3 218 t29 t20 t0 u24 Qd:=⟨by
 intro _ _ _ _ _ _ _ _ hF
 have hD:=True.intro
 refine' en Tryz.func218 (Qd.eq_1 ..)
 rename_i r3 p5
 refine' UU (ah (aa 152 j3) p5.2 p5.1.v r3) ?_
 refine' eP q0 9 [2,3,6,8]<;>rw[Pp]at hF<;>refine' go
 refine' aP (iy gB.h rfl (vs:=[]) .nil (cells:=[(.slice none 0 0),(.slice none 0 0)]) rfl) ?_
 refine' go
 refine' KD [0,1,2,3,4,6,5,7] [0,0,0,6,14,31,0,127] [5,7] mixed ?_
 refine' go⟩
def LA(fuel:Nat)(aC:List Int)(mU:Query)(aK:Query):Option (Bool):=
 ((zP aC mU).bind fun r5=>
   bif (!r5)then (some true)
   else ((zP aC aK).bind fun r9=>
     bif (!r9)then (some true)
     else (some (((mU.a_.length:Int):Int)!=(aK.a_.length:Int))))).bind fun o3=>
 match o3 with
 |c13=>if c13 then (
     some false)
   else (
     (Rw fuel mU aK).bind fun iG=>
     if (!iG.2.2)then (
       some false)
     else (
       (MU mU iG.2.1).bind fun eU=>
       (Qd aK iG.1 eU).bind fun mq=>
       some mq.2))
theorem ar'{fuel:Nat}{aC:List Int}{aA:Sv}{mU:Query}{bf bR:Sv}{aK:Query}{bJ gK:Sv}{R:Bool}(hF:LA fuel aC mU aK=some R):
   Fw.Spec Tryz.prog 162 [aA.v,(zg [bf.v,bR.v]),(zg [bJ.v,gK.v])] [bi aA aC,bi bf mU.a_,eF bR mU.aL,bi bJ aK.a_,eF gK aK.aL] (fun _:Unit=>(.bool R)) (fun _=>[]):=by
 refine Se 50 Tryz.func162 [.tmp 6] ?_
 intro H0 F0
 unfold LA at hF
 refine au ?_
 refine j6 (fun k1=>?_)
 refine j6 (fun k2=>?_)
 refine fw ?_
 obtain⟨o3,aG8,hO4⟩:=bind_some hF
 refine au ?_
 refine qo (fun f' cs'=>∃(c13:Bool)(g:Fr),c13=o3/\f'=dm g [(4,(pz k1)),(5,(pz k2)),(30,(.bool c13))]/\bL cs' [bC k1 56 (zg [bf.v,bR.v]),bi bf mU.a_,eF bR mU.aL,bC k2 56 (zg [bJ.v,gK.v]),bi bJ aK.a_,eF gK aK.aL]) ?_ ?_
 · replace hF:=aG8
   refine eu ?_
   refine bnd hF fun r5 hx6 hF=>oO (ada.h hx6) (fun _=>?_)
   refine eu ?_
   rcases kQ (!r5)with WG|WG
   · rw[WG]
     try rw[WG]at hF; dsimp only[eZ,eY]at hF
     exact jP hF
   rw[WG]
   try rw[WG]at hF; dsimp only[eZ,eY]at hF
   refine fI ?_
   refine bnd hF fun r9 DJ hF=>oO (ada.h DJ) (fun _=>?_)
   refine dO ?_
   rcases kQ (!r9)with Vd|Vd
   · rw[Vd]
     try rw[Vd]at hF; dsimp only[eZ,eY]at hF
     exact jP hF
   rw[Vd]
   try rw[Vd]at hF; dsimp only[eZ,eY]at hF
   exact jP hF
 rintro _ _ ⟨c13,g27,rfl,rfl,hE⟩
 replace hF:=hO4
 try dsimp only at hF
 refine gV hE ?_
 refine Ci hF (fun aG9 hF=>?_) (fun aG9 hF=>?_)
 · exact ze hF
 refine dO ?_
 refine bnd hF fun iG DL hF=>Cx3 (atI.h DL) (fun p16=>?_)
 refine au ?_
 refine zx ?_
 refine zx ?_
 refine zx ?_
 refine gI (fun k17=>?_)
 refine au ?_
 refine As (zg [p16.2.2.1.v,p16.2.2.2.2.1.v]) ?_
 refine iq ?_
 refine Ci hF (fun aG_ hF=>?_) (fun aG_ hF=>?_)
 · exact ze hF
 refine au ?_
 refine iQ [0,1,2,3,9,4,5,6,7,8,10,11] [0,0,0,0,12,31,63,127,127,0,767,2047] [4,5,10] mixed (by decide+kernel) ?_
 refine pu ?_
 refine dF rfl .no .h (fun ha hp=>lm vD.h gB.h.sz rfl (EN ha (.tmp rfl rfl) rfl) hp.2 rfl) ?_
 refine jw rfl .no rfl (fun ha=>vW (g:=true) gB.h rfl rfl) (fun k18=>?_)
 refine bnd hF fun eU DN hF=>aeN rfl rfl .no (.cons .q4 (.cons .q3 (.rd .q4 rfl (.rd .q5 rfl .nil)))) (.own .h (fun _ h=>h) (.aV rfl .nil)) (fun ha=>qQ (pre:=_) (.cons aX (.cons aX .nil)) (fun _=>(.cons .nil)) (qR (.rd .q2 rfl (.rd .q3 rfl (.rd .h rfl (.rd (.t .h) rfl .nil)))) (cK aCS.h (.cons (EN ha (.tmp rfl rfl) rfl) (.cons (EN ha (.tmp rfl rfl) rfl) .nil)) (auG.h DN)))) (fun fH=>?_)
 refine bnd hF fun mq aG' hF=>aeO rfl rfl .no (.cons .q2 (.cons .q4 (.rd .q8 rfl (.rd .q9 rfl .nil)))) (.own .q2 (fun _ h=>h) (.aV rfl .nil)) (fun ha=>amS (pre:=_) (.cons aX (.cons aX .nil)) (fun _=>(.cons (.cons .nil))) (qR (.rd .q2 rfl (.rd .q3 rfl (.rd (.t .h) rfl (.rd .h rfl .nil)))) (cK aCR.h (.cons (EN ha (.tmp rfl rfl) rfl) (.cons (EN ha (.tmp rfl rfl) rfl) (.cons (EN ha (.tmp rfl rfl) rfl) .nil))) (ass.h aG')))) (fun uS=>?_)
 refine du ?_
 refine dw rfl .no (fun ha=>tC (l:=[(zg [uS.1.v,uS.2.2.1.v]),(.bool mq.2)]) (v:=(zg [uS.1.v,uS.2.2.1.v])) (EN ha (.tmp rfl rfl) rfl) rfl) ?_
 refine dw rfl .no (fun ha=>tC (l:=[(zg [uS.1.v,uS.2.2.1.v]),(.bool mq.2)]) (v:=(.bool mq.2)) (EN ha (.tmp rfl rfl) rfl) rfl) ?_
 refine dx rfl rfl .no (.cons .q6 .nil) (.aV rfl (.aV rfl .nil)) (fun ha=>iO (e':=(zg [uS.1.v,uS.2.2.1.v])) (v:=(zg [uS.1.v,uS.2.2.1.v])) gB.h.sz (EN ha (.tmp rfl rfl) rfl) (EN ha (.tmp rfl rfl) rfl) rfl rfl rfl rfl rfl) (fun _=>?_)
 refine jF ?_
 exact ze hF
instance aIH:IF3 162 t0 t29 t29 u20 LA:=⟨fun h=>ar' h⟩
def KW(aC:List Int)(aK:Query)(c6:List Query)(c9:Int)(z23:List Int)(fuel:Nat):List aJ->Nat->(List aJ)->Option ((List Query))
 |[],Ov,c75=>((zP aC ({a_:=z23,aL:=c75}:Query)).bind fun OB=>
     bif OB then ((LA fuel aC ({a_:=z23,aL:=c75}:Query) aK).bind fun WH=>
       some WH)
     else (some false)).bind fun o90=>
   match o90 with
   |En=>if En then (
       (app c6 ([({a_:=z23,aL:=c75}:Query)]:List Query)).bind fun U0=>
       some U0)
     else (
       some c6)
 |x83::az3,Ov,c75=>((NW .i64 c9 (Ov:Int)).bind fun aho=>
     if (((UR .i64 aho 1):Int)==1)then (
       (Nj x83.aD x83.Terms).bind fun aHa=>
       (app c75 ([aHa]:List aJ)).bind fun z119=>
       some z119)
     else (
       some c75)).bind fun ahp=>
   match ahp with
   |abJ=>KW aC aK c6 c9 z23 fuel az3 (Ov+1) abJ
def KX(aC:List Int)(aK:Query)(fuel:Nat):Nat->(List Query)->Int->Option ((List Query))
 |0,_,_=>none
 |m10+1,c6,c9=>(UQ .i64 1 (aK.aL.length:Int)).bind fun sU=>
   if (decide ((c9:Int)<sU))then (
     ((app ([]:List Int) aK.a_).bind fun z23=>
       KW aC aK c6 c9 z23 fuel aK.aL 0 ([]:List aJ)).bind fun WC=>
     match WC with
     |aHb=>KX aC aK fuel m10 aHb (IntKind.i64.wrap (c9+1)))
   else (
     some c6)
def O_(fuel:Nat)(aC:List Int)(aK:Query):Option ((List Query)):=
 (zP aC aK).bind fun r3=>
 if (!r3)then (
   some ([]:List Query))
 else (
   KX aC aK fuel fuel ([]:List Query) 1)
instance arW:GL 88 t0 t29 u26 O_:=⟨by
 intro _ _ _ aK _ _ _ hF
 refine' en Tryz.func88 (O_.eq_1 ..)
 refine' Km (qq 5 (tO 56 xH) (q1 6 tI)) [0,3]<;>rw[KX]at hF<;>refine' go
 replace hF:=bind_some hF
 obtain⟨sU,U9,hF⟩:=hF
 refine aP (aoq (i:=1) (j:=(aK.aL.length:Int)) (.int _ _) (.tmp rfl rfl) U9) ?_
 refine' go
 refine' cu (q1 5 (tO 56 xH)) [0,3,6]
 rename_i p25
 refine' aP (iy F_.h rfl (vs:=[p25.1.v]) (.cons (.tmp rfl rfl) .nil) (cells:=[p25.1.v,(.slice none 0 0)]) rfl) ?_
 refine' go
 rename_i k26
 refine' ed (.mk (β:=(List aJ)) (ι:=Sv×List Nat) (fun c75 i3=>[]) (fun c75 i3=>[aW k26 56 (.agg [p25.1.v,i3.1.v].toArray),ah (aa 138 jZ) i3.2 i3.1.v c75]) [] [pz k26]) 8 [0,3,5,6,7]<;>rw[KW]at hF<;>refine' go
 refine' rc (q1 66 tB) [0,3,5,6,7]
 rename_i i3 _ _ _ _
 refine' cu ((Dq.mk (β:=(List aJ)) (ι:=Sv×List Nat) (fun abJ i5=>[]) (fun abJ i5=>[aW k26 56 (.agg [p25.1.v,i5.1.v].toArray),ah (aa 138 jZ) i5.2 i5.1.v abJ]) [] [pz k26]).dr [i3.1.v]) [0,3,5,6,7,8]
 replace hF:=bind_some hF
 obtain⟨aho,Jq,hF⟩:=hF
 rename_i c9 _ _ _ _ _ _ _ _ _ Ov _ _ _ _ _ _
 refine aP (aor (i:=c9) (j:=(Ov:Int)) (.tmp rfl rfl) (.tmp rfl rfl) Jq) ?_
 refine' go
 refine aP (aos (i:=aho) (j:=1) (.tmp rfl rfl) (.int _ _)) ?_
 refine' go⟩
def Qe:List Method->Nat->(List Method)->Option ((List Method))
 |[],k8,c2=>some c2
 |kS::qA,k8,c2=>(if ((kS.Limit:Int)!=0)then (
       (app c2 ([({aD:=(-1),bg:=kS.bg,Limit:=kS.Limit,bK:=kS.bK,gW:=kS.gW}:Method)]:List Method)).bind fun z24=>
       some z24)
     else (
       (app c2 ([kS]:List Method)).bind fun z28=>
       some z28)).bind fun o17=>
   match o17 with
   |c32=>Qe qA (k8+1) c32
def Mx(aG:List Method):Option ((List Method)):=
 Qe aG 0 ([]:List Method)
instance atK:I1 90 t26 u27 Mx:=⟨by
 intro _ _ _ hF
 refine' en Tryz.func90 (Mx.eq_1 ..)
 refine' Gb (az iB) []
 refine' ed (q1 3 (tO 127 (az iB))) 4 [0]<;>rw[Qe]at hF<;>refine' go
 refine' cu (q1 3 (tO 127 (az iB))) [0,4]⟩
theorem as8{aG:List Method}{aA:Sv}{R:(List Method)}(hF:Mx aG=some R):
   Fw.Spec Tryz.prog 90 [aA.v] [aI (ak 127 iB) aA.v aG] (fun p:Sv×List Nat=>p.1.v) (fun p=>[ah (aa 127 (az iB)) p.2 p.1.v R]):=atK.h hF
def PQ(aG:List Method):List Step->Nat->Int->Option (Int)
 |[],k5,c1=>some c1
 |x7::fM,k5,c1=>(((iR x7.Method 0 (IntKind.i64.wrap ((aG.length:Int)-1))).bind fun kR=>
       bif kR then ((ix aG x7.Method).bind fun wR=>
         (iR wR.bK 0 99).bind fun r32=>
         some r32)
       else (some false)).bind fun o16=>
     match o16 with
     |ig=>if ig then (
         (ix aG x7.Method).bind fun x38=>
         some (IntKind.i64.wrap (c1+x38.bK)))
       else (
         some c1)).bind fun WI=>
   match WI with
   |c46=>PQ aG fM (k5+1) c46
def Mc(aG:List Method)(bY:List Step):Option (Int):=
 PQ aG bY 0 0
instance acW:I2 91 t26 t32 u0 Mc:=⟨by
 intro _ _ _ _ _ hF
 refine' en Tryz.func91 (Mc.eq_1 ..)
 refine' ed (q1 5 tI) 6 [0,1]<;>rw[PQ]at hF<;>refine' go
 refine' cu (q1 5 tI) [0,1,6]
 refine' rc (q1 33 tB) [0,1,5,6]⟩
def Qv(ae:aJ)(dX:List Int):List Int->Nat->Option (Bool)
 |[],k6=>some true
 |x8::C9,k6=>(iR x8 0 (IntKind.i64.wrap ((ae.Terms.length:Int)-1))).bind fun fC=>
   if (!fC)then (
     some false)
   else (
     (ix ae.Terms x8).bind fun jT=>
     ((B_ jT).bind fun WJ=>
       bif WJ then ((Ca dX jT).bind fun Wu=>
         some (!Wu))
       else (some false)).bind fun o28=>
     match o28 with
     |c37=>if c37 then (
         some false)
       else (
         Qv ae dX C9 (k6+1)))
def MW(aF:Method)(ae:aJ)(dX:List Int):Option (Bool):=
 if ((aF.aD:Int)!=ae.aD)then (
   some false)
 else (
   Qv ae dX aF.bg 0)
instance auH:I3 163 t2 t17 t0 u20 MW:=⟨by
 intro _ _ _ _ _ _ _ hF
 refine' en Tryz.func163 (MW.eq_1 ..)
 refine' eP q0 7 [2,3,4]<;>rw[Qv]at hF<;>refine' go
 refine' rc (q1 48 tB) [2,3,4,7]⟩
def Q4:List Int->Nat->(List Int)->Option ((List Int))
 |[],k12,c6=>some c6
 |x14::az4,k12,c6=>((B_ x14).bind fun iA=>
     if iA then (
       (I8 c6 x14).bind fun WJ=>
       some WJ)
     else (
       some c6)).bind fun o21=>
   match o21 with
   |c34=>Q4 az4 (k12+1) c34
def Np(dX:List Int)(ae:aJ):Option ((List Int)):=
 (app ([]:List Int) dX).bind fun z3=>
 Q4 ae.Terms 0 z3
instance avl:I2 164 t0 t17 u1 Np:=⟨by
 intro _ _ _ _ _ hF
 refine' en Tryz.func164 (Np.eq_1 ..)
 refine' ed (q1 5 (tO 3 (az ax))) 6 [3]<;>rw[Q4]at hF<;>refine' go
 refine' cu (q1 5 (tO 3 (az ax))) [3,6]⟩
end Go.Proofs.YtlnefhbbbikmgabGreat
