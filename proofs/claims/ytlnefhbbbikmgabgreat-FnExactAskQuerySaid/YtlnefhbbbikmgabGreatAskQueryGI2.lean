/-
  Functions of the program as Lean functions, and that the calls return what these say. No conditions.
-/
import Derived.Test.YtlnefhbbbikmgabGreatAskQueryGI1
set_option maxRecDepth 100000
set_option maxHeartbeats 4000000
set_option linter.unusedVariables false
namespace Go.Proofs.YtlnefhbbbikmgabGreat
open Go Go.Fw
def XQ(kD:Int):List Int->Nat->Option (Int)
 |[],k4=>some (-1)
 |x6::dH,k4=>if ((kD:Int)==x6)then (
     some (k4:Int))
   else (
     XQ kD dH (k4+1))
def GX(aC:List Int)(kD:Int):Option (Int):=
 XQ kD aC 0
instance aIn:I2 283 t0 t1 u0 GX:=⟨by
 intro _ _ _ _ hF
 refine' en Tryz.func283 (GX.eq_1 ..)
 refine' eP q0 8 [0,1,7]<;>rw[XQ]at hF<;>refine' go⟩
def GU(aC:List Int)(kD:Int):Option (Bool):=
 (GX aC kD).bind fun r1=>
 some (decide ((0:Int)<=r1))
instance arO:I2 247 t0 t1 u20 GU:=⟨by
 intro _ _ _ _ hF
 refine' en Tryz.func247 (GU.eq_1 ..)⟩
def Q7(gT:Int)(aH:List Int):Option (Bool):=
 (GU aH gT).bind fun r1=>
 some (!r1)
theorem ajJ{gT:Int}{bu:Nat}{aH:List Int}{dB:Sv}{R:Bool}(hF:Q7 gT aH=some R):
   Fw.Spec Tryz.prog 278 [(.int .i64 gT),(.pointer (some ⟨bu,0,some 0⟩))] [bC bu 22 dB.v,aI (ak 3 ax) dB.v aH] (fun _:Unit=>(.bool R)) (fun _=>[]):=by
 refine' en Tryz.func278 (Q7.eq_1 ..)
instance:dz Tryz.prog 278 (type_of% @ajJ):=⟨@ajJ⟩
def XD(aH:List Int):List Int->Nat->Option (Int)
 |[],k4=>some (-1)
 |x6::dH,k4=>(Q7 x6 aH).bind fun fu=>
   if fu then (
     some (k4:Int))
   else (
     XD aH dH (k4+1))
def XM(aC:List Int)(aH:List Int):Option (Int):=
 XD aH aC 0
theorem aiI{aC:List Int}{aA:Sv}{bu:Nat}{aH:List Int}{dB:Sv}{R:Int}(hF:XM aC aH=some R):
   Fw.Spec Tryz.prog 239 [aA.v,(.func (.func 278) [].toArray [(.pointer (some ⟨bu,0,some 0⟩))].toArray)] [aI (ak 3 ax) aA.v aC,bC bu 22 dB.v,aI (ak 3 ax) dB.v aH] (fun _:Unit=>(.int .i64 R)) (fun _=>[]):=by
 refine' en Tryz.func239 (XM.eq_1 ..)
 refine' eP q0 8 [0,1,7]<;>rw[XD]at hF<;>refine' go
instance:dz Tryz.prog 239 (type_of% @aiI):=⟨@aiI⟩
def O0(aC:List Int)(aH:List Int):Option (Bool):=
 (XM aC aH).bind fun r1=>
 some (decide ((0:Int)<=r1))
theorem aiB{aC:List Int}{aA:Sv}{bu:Nat}{aH:List Int}{dB:Sv}{R:Bool}(hF:O0 aC aH=some R):
   Fw.Spec Tryz.prog 194 [aA.v,(.func (.func 278) [].toArray [(.pointer (some ⟨bu,0,some 0⟩))].toArray)] [aI (ak 3 ax) aA.v aC,bC bu 22 dB.v,aI (ak 3 ax) dB.v aH] (fun _:Unit=>(.bool R)) (fun _=>[]):=by
 refine' en Tryz.func194 (O0.eq_1 ..)
instance:dz Tryz.prog 194 (type_of% @aiB):=⟨@aiB⟩
def ZM(aK:Query):Option (Bool):=
 (Nr aK).bind fun r2=>
 (bif (decide (((aK.a_.length:Int):Int)<=3))then ((O0 aK.a_ r2).bind fun nT=>
     some (!nT))
   else (some false)).bind fun o8=>
 match o8 with
 |c14=>some c14
instance aJ_:I1 243 t29 u20 ZM:=⟨by
 intro _ _ _ _ hF
 refine' en Tryz.func243 (ZM.eq_1 ..)
 refine' rc (q1 2 tB) []⟩
def E9(aC:List Int)(aK:Query):Option (Bool):=
 ((Bv aC).bind fun r5=>
   bif r5 then ((mG (aK.aL.length:Int) 1 4).bind fun r9=>
     bif r9 then ((OQ aK.aL aC).bind fun gQ=>
       bif (!gQ)then ((ZM aK).bind fun fC=>
         some fC)
       else (some false))
     else (some false))
   else (some false)).bind fun o3=>
 match o3 with
 |c20=>some c20
instance aJ':I2 196 t0 t29 u20 E9:=⟨by
 intro _ _ _ _ _ _ hF
 refine' en Tryz.func196 (E9.eq_1 ..)
 refine' rc (q1 4 tB) []⟩
def MG(aC:List Int)(aG:List Method)(aK:Query):Option (Bool):=
 ((EP aC aG).bind fun r4=>
   bif r4 then ((E9 aC aK).bind fun r8=>
     some r8)
   else (some false)).bind fun o2=>
 match o2 with
 |c11=>some c11
instance atT:I3 129 t0 t26 t29 u20 MG:=⟨by
 intro _ _ _ _ _ _ _ _ hF
 refine' en Tryz.func129 (MG.eq_1 ..)
 refine' rc (q1 6 tB) []⟩
def XH(aC:List Method):Option ((List Method)):=
 (app ([]:List Method) aC).bind fun z5=>
 some z5
instance aIj:I1 197 t26 u27 XH:=⟨by
 intro aC _ R hF
 refine' en Tryz.func197 (XH.eq_1 ..)
 refine aen (xs:=aC) yS.h aU bQ ad8 (fun WN hn2=>?_)
 refine eQ ?_
 refine nY (b:=WN) (.tmp rfl rfl) (fun hb3=>?_) (fun hb3=>?_)
 have hnil:=hn2 hb3
 replace hF:some []=some R:=by rw[hnil]at hF; simpa[app]using hF
 refine' go
 refine' go
 refine' Gb (az iB) []⟩
def PZ(r1:(List Method)):Nat->(List Method)->Int->Option ((List Method))
 |0,_,_=>none
 |m38+1,ig,c37=>if (decide ((c37:Int)<(r1.length:Int)))then (
     ((ix ig c37).bind fun KC=>
       if ((KC.Limit:Int)!=0)then (
         (ix ig c37).bind fun x60=>
         (some (ig.set (c37).toNat {x60 with aD:=(-1)})).bind fun z64=>
         some z64)
       else (
         some ig)).bind fun o46=>
     match o46 with
     |GM=>PZ r1 m38 GM (IntKind.i64.wrap (c37+1)))
   else (
     some ig)
def Q8(aG:List Method):Option ((List Method)):=
 (XH aG).bind fun r1=>
 PZ r1 (((r1.length:Int)-0).toNat+2) r1 0
instance atg:I1 130 t26 u27 Q8:=⟨by
 intro _ _ _ hF
 refine' en Tryz.func130 (Q8.eq_1 ..)
 rename_i p3
 refine' Km (.mk (β:=(List Method)×Int) (ι:=List Nat) (fun|(ig,c37),i1=>[(10,(.int .i64 c37))]) (fun|(ig,c37),i1=>[ah (aa 127 (az iB)) i1 p3.1.v ig]) [10] [p3.1.v]) [3,8,9]<;>rw[PZ]at hF<;>refine' go
 rename_i i1 _ _
 refine' cu (.mk (β:=(List Method)) (ι:=Unit) (fun GM i2=>[]) (fun GM i2=>[ah (aa 127 (az iB)) i1 p3.1.v GM]) [] [p3.1.v]) [3,8,9,10]
 replace hF:=bind_some hF
 obtain⟨KC,abD,hF⟩:=hF
 have aHs:=lX abD
 obtain⟨aQb,ahL⟩:=kU abD
 refine iJ yS.h xu.h.sz aU aU bQ aHs (fun k48 aHt=>?_)
 refine' go
 refine ax7 (Ie KC) aCq.h xu.h.sz rfl aU bQ aHt ahL Ig (fun p55=>?_)
 refine' go
 replace hF:=bind_some hF
 obtain⟨x60,aqZ,hF⟩:=hF
 have aHu:=lX aqZ
 obtain⟨aQc,JW⟩:=kU aqZ
 refine iJ yS.h xu.h.sz aU aU bQ aHu (fun k57 aHv=>?_)
 refine' go
 replace hF:=bind_some hF
 obtain⟨z64,J4,hF⟩:=hF
 replace J4:=aQ0 J4
 rename_i c37 _ _ _ _ _
 refine' Cy (wZ (Ro:=(az iB)) (i:=c37) gP.h.sz rfl aU (.int _ _) aHv JW rfl rfl awF (axh (d:=(-1)))) (fun _=>?_)
 rw[J4]
 refine' go⟩
def KU:List Int->Nat->(List Int)->Option ((List Int))
 |[],Oz,zJ=>some zJ
 |Ej::afa,Oz,zJ=>((IG Ej).bind fun iH=>
     if iH then (
       (app zJ ([Ej]:List Int)).bind fun z52=>
       some z52)
     else (
       some zJ)).bind fun o44=>
   match o44 with
   |Wy=>KU afa (Oz+1) Wy
def KV:List aJ->Nat->(List Int)->Option ((List Int))
 |[],k8,c2=>(O8 c2).bind fun fC=>
   (KR fC).bind fun kR=>
   some kR
 |kS::qA,k8,c2=>(KU kS.Terms 0 c2).bind fun o23=>
   match o23 with
   |c61=>KV qA (k8+1) c61
def XV(Cg:List aJ):Option ((List Int)):=
 KV Cg 0 ([]:List Int)
theorem aiR{Cg:List aJ}{aA:Sv}{R:(List Int)}(hF:XV Cg=some R):
   Fw.Spec Tryz.prog 298 [aA.v,(.func (.func 237) [].toArray [].toArray)] [aI (ak 138 l7) aA.v Cg] (fun p:Sv×List Nat=>p.1.v) (fun p=>[ah (aa 3 (az ax)) p.2 p.1.v R]):=by
 have hK:=True.intro
 refine' en Tryz.func298 (XV.eq_1 ..)
 refine' dZ ?_
 refine' go
 refine' ed (q1 5 (tO 3 (az ax))) 13 [1,11,12]<;>rw[KV]at hF<;>refine' go
 refine' cu (q1 5 (tO 3 (az ax))) [1,11,12,13]
 rename_i k28
 refine' ed ((q1 5 (tO 3 (az ax))).dr [pz k28]) 20 [1,11,12,13,18,19]<;>rw[KU]at hF<;>refine' go
 refine' cu (q1 5 (tO 3 (az ax))) [1,11,12,13,18,19,20]
instance:dz Tryz.prog 298 (type_of% @aiR):=⟨@aiR⟩
def Hz(aK:Query):Option ((List Int)):=
 (XV aK.aL).bind fun r2=>
 some r2
instance asu:I1 280 t29 u1 Hz:=⟨by
 intro _ _ _ _ hF
 refine' en Tryz.func280 (Hz.eq_1 ..)⟩
theorem ai6{aK:Query}{aA:Sv}{bB:Sv}{R:(List Int)}(hF:Hz aK=some R):
   Fw.Spec Tryz.prog 280 [(.agg [aA.v,bB.v].toArray)] [aI (ak 3 ax) aA.v aK.a_,aI (ak 138 l7) bB.v aK.aL] (fun p:Sv×List Nat=>p.1.v) (fun p=>[ah (aa 3 (az ax)) p.2 p.1.v R]):=asu.h hF
def XR(pJ:Int):Option (List Int):=
 if 0<=pJ/\pJ<4294967296 then some []else none
theorem acj{pJ:Int}{R:List Int}(hF:XR pJ=some R):
   Fw.Spec Tryz.prog 248 [(.slice none 0 0),.int .i64 pJ] [] (fun p:Sv×List Nat=>p.1.v) (fun p=>[ah (aa 3 (az ax)) p.2 p.1.v R]):=by
 unfold XR at hF
 split at hF
 · rename_i h
   obtain⟨h0,h1⟩:=h
   cases hF
   obtain⟨q,rfl⟩:∃q:Nat,pJ=(q:Int):=⟨pJ.toNat,by omega⟩
   have w0:IntKind.i64.wrap ((0:Int)-((0:Nat):Int))=0:=by decide
   have w1:IntKind.i64.wrap ((q:Int)-0)=(q:Int):=by rw[di (by omega) (by omega)]; omega
   refine Im (n:=27) Tryz.func248 rfl rfl (rs:=[.tmp 4]) rfl rfl rfl ?_
   intro H0 F0
   iterate 8 refine au ?_
   refine nY (b:=(decide ((q:Int)<0))) (.tmp rfl rfl) (fun hb=>absurd hb (by simp only[ag3]; omega)) (fun _=>?_)
   iterate 5 refine au ?_
   refine aP (al9 jO.h (.tmp rfl rfl)) ?_
   refine au ?_
   refine aP (tK (l:=0) jO.h (.tmp rfl rfl) ⟨none,0,rfl⟩) ?_
   refine au ?_
   rw[w0]
   refine au ?_
   rw[w1]
   iterate 6 refine au ?_
   refine nY (b:=(decide ((0:Int)<(q:Int)))) (.tmp rfl rfl) (fun hb=>?_) (fun hb=>?_)
   · have hq:0<q:=by simp only[ag3]at hb; omega
     iterate 3 refine au ?_
     refine aP (al9 jO.h (.tmp rfl rfl)) ?_
     refine aP (aux jO.h gP.h.sz (.tmp rfl rfl) (.tmp rfl rfl)) ?_
     refine au ?_
     refine iZ .nil (awz (Ro:=(az ax)) (E:=3) jO.h We gP.h rfl rfl rfl (by exact .tmp rfl rfl) (by exact .tmp rfl rfl) hq (by omega)) (fun k=>?_)
     refine au ?_
     refine aP (tK (l:=0) jO.h (.tmp rfl rfl) ⟨none,0,rfl⟩) ?_
     refine avO (i:=((0:Nat):Int)) jO.h gP.h.sz (by exact .tmp rfl rfl) (.inr rfl) (by exact .tmp rfl rfl) .h rfl (by omega) (by omega) (by omega) ?_
     iterate 7 refine au ?_
     exact iW (⟨some ⟨k,0,none⟩,0,2⟩,[k]) (.tmp rfl rfl .nil) rfl (.sel (.cons .h .nil))
   · iterate 6 refine au ?_
     exact iW (⟨none,0,0⟩,[]) (.tmp rfl rfl .nil) rfl (.conv .nil (jJ (Ro:=(az ax)) (E:=3)) (.cons .nil) (.sel (.cons .h .nil)))
 · simp at hF
instance:dz Tryz.prog 248 (type_of% @acj):=⟨@acj⟩
def GR:List (List Int)->Nat->(List Int)->Option ((List Int))
 |[],k23,c17=>some c17
 |x25::oW,k23,c17=>(app c17 x25).bind fun z35=>
   GR oW (k23+1) z35
def Ex(nK:List (List Int)):List (List Int)->Nat->Int->Option ((List Int))
 |[],k5,c1=>(XR c1).bind fun iG=>
   GR nK 0 iG
 |x7::fM,k5,c1=>(if (decide (((IntKind.i64.wrap (c1+(x7.length:Int))):Int)<0))then (
       none)
     else (
       some ())).bind fun WQ=>
   match WQ with
   |_=>Ex nK fM (k5+1) (IntKind.i64.wrap (c1+(x7.length:Int)))
def EA(nK:List (List Int)):Option ((List Int)):=
 Ex nK nK 0 0
theorem arP{nK:List (List Int)}{aA:Sv}{R:(List Int)}(hF:EA nK=some R):
   Fw.Spec Tryz.prog 202 [aA.v] [aI (ak 22 (ak 3 ax)) aA.v nK] (fun p:Sv×List Nat=>p.1.v) (fun p=>[dW p.2 p.1 R]):=by
 refine Se 36 Tryz.func202 [.tmp 2] ?_
 intro H0 F0
 unfold EA at hF
 refine TM ?_
 refine gU (kI (m:=nK.length) (fun m3 f' cs'=>∃(g:Fr)(k5:Nat)(fM:List (List Int))(c1:Int),m3=fM.length/\f'=dm g [(0,aA.v),(3,(zi c1)),(9,aA.v),(10,(zi (nK.length:Int))),(11,(zi (k5:Int)))]/\List.drop k5 nK=fM/\bL cs' [aI (ak 22 (ak 3 ax)) aA.v nK]/\Ex nK fM k5 c1=some R) ⟨_,0,_,_,rfl,df,rfl,bT,hF⟩ ?_)
 rintro m3 _ _ ⟨g4,k5,fM,c1,rfl,rfl,hd8,hE,hF⟩
 refine Kb hE nK (fun aN2=>?_)
 rcases fM with _|⟨x7,fM⟩
 · have hk9:=dn hd8
   rw[Ex]at hF
   refine dO ?_
   refine mQ ?_
   refine lN ?_
   refine bnd hF fun iG DL hF=>qM (acj DL) (fun p16=>?_)
   refine kP ?_
   refine gU (kI (m:=nK.length) (fun m21 f' cs'=>∃(g:Fr)(k23:Nat)(oW:List (List Int))(c17:List Int)(v18:Sv)(F19:List Nat),m21=oW.length/\f'=dm g [(6,v18.v),(25,aA.v),(26,(zi (nK.length:Int))),(27,(zi (k23:Int)))]/\List.drop k23 nK=oW/\bL cs' [dW F19 v18 c17,aI (ak 22 (ak 3 ax)) aA.v nK]/\GR oW k23 c17=some R) ⟨_,0,_,_,p16.1,p16.2,rfl,df,rfl,bT,hF⟩ ?_)
   rintro m21 _ _ ⟨g22,k23,oW,c17,v18,F19,rfl,rfl,Vf,hE,hF⟩
   refine Kb hE nK (fun aDr=>?_)
   rcases oW with _|⟨x25,oW⟩
   · have ahq:=dn Vf
     rw[GR]at hF
     refine dO ?_
     refine mQ ?_
     refine JR ?_
     cases hF
     exact Er (v18,F19)
   obtain⟨ahq,hx28,hd29⟩:=kH Vf
   rw[GR]at hF
   refine dO ?_
   refine mP ?_
   refine fw ?_
   refine Ai hx28 (fun rQ j33=>?_)
   refine Tz (R':=(ak 3 ax)) ry.h (.tmp rfl rfl) .h ae5 (fun w34=>?_)
   refine fI ?_
   refine bnd hF fun z35 aHw hF=>iZ (.cons .q2 (.rd .h rfl .nil)) (iU (Ro:=(az ax)) jO.h yT gP.h rfl rfl rfl (.tmp rfl rfl) (.tmp rfl rfl) aHw zX) (fun p37=>?_)
   refine lN ?_
   rw[wk k23]
   exact⟨_,lT _,_,k23+1,oW,_,p37.1,p37.2,rfl,df,hd29,bT,hF⟩
 obtain⟨hk9,DJ,aHx⟩:=kH hd8
 rw[Ex]at hF
 refine dO ?_
 refine mP ?_
 refine au ?_
 obtain⟨WQ,aD5,aHy⟩:=bind_some hF
 refine pU (fun f' cs'=>∃(g:Fr),WQ=()/\f'=dm g [(0,aA.v),(3,(zi (IntKind.i64.wrap (c1+(x7.length:Int))))),(9,aA.v),(10,(zi (nK.length:Int))),(11,(zi (k5:Int)))]/\bL cs' [aI (ak 22 (ak 3 ax)) aA.v nK]) ?_ ?_
 · replace hF:=aD5
   refine gU (eB (Jk (a:=x7) mM.h lw.h.sz (.tmp rfl rfl) (.tmp rfl rfl) .h (aRX k5) DJ (fun k41 j42=>?_)))
   refine Tz (R':=(ak 3 ax)) ry.h (.tmp rfl rfl) .h ae5 (fun w43=>?_)
   refine aC6 ?_
   refine Ci hF (fun aHz hF=>?_) (fun aHz hF=>?_)
   · exact absurd hF (by simp)
   refine au ?_
   cases hF
   exact⟨_,rfl,df,bT⟩
 rintro _ _ ⟨g46,rfl,rfl,hE⟩
 replace hF:=aHy
 try dsimp only at hF
 refine gV hE ?_
 refine dO ?_
 rw[wk k5]
 exact⟨_,lT _,_,k5+1,fM,_,rfl,df,aHx,bT,hF⟩
instance arR:I1 202 A8 u1 EA:=⟨fun h=>arP h⟩
theorem aiM{nK:List (List Int)}{aA:Sv}{R:(List Int)}(hF:EA nK=some R):
   Fw.Spec Tryz.prog 202 [aA.v] [aI (ak 22 (ak 3 ax)) aA.v nK] (fun p:Sv×List Nat=>p.1.v) (fun p=>[ah (aa 3 (az ax)) p.2 p.1.v R]):=arR.h hF
def He(aM:aN)(gT:Int):Option (Int):=
 (j5 (decide (0<=(if (aM.Values.length:Int)<(aM.Vars.length:Int)then (aM.Values.length:Int)else (aM.Vars.length:Int)))&&decide ((if (aM.Values.length:Int)<(aM.Vars.length:Int)then (aM.Values.length:Int)else (aM.Vars.length:Int))<=(aM.Vars.length:Int)))).bind fun u3=>
 (GX (aM.Vars.take ((if (aM.Values.length:Int)<(aM.Vars.length:Int)then (aM.Values.length:Int)else (aM.Vars.length:Int))).toNat) gT).bind fun r6=>
 some r6
instance ar8:I2 301 t30 t1 u0 He:=⟨by
 intro aM _ _ _ _ hF
 refine' en Tryz.func301 (He.eq_1 ..)
 refine aP (aBL (i:=(aM.Vars.length:Int)) (j:=(aM.Values.length:Int)) (.tmp rfl rfl) (.tmp rfl rfl)) ?_
 refine' go
 replace hF:=bind_some hF
 obtain⟨u3,hx5,hF⟩:=hF
 have hc2:=tF hx5
 simp only[age,ag3]at hc2
 refine avP jO.h gP.h.sz aU aU bQ hc2.1 hc2.2 (fun w4=>?_)
 refine' go⟩
def yo(aM:aN)(zY:Int):Option (Int):=
 (Fz zY).bind fun r2=>
 if (!r2)then (
   some zY)
 else (
   (He aM zY).bind fun r5=>
   if (decide ((r5:Int)<0))then (
     some (-1))
   else (
     (ix aM.Values r5).bind fun x8=>
     some x8))
instance ake:I2 284 t30 t1 u0 yo:=⟨by
 intro _ _ _ _ _ hF
 refine' en Tryz.func284 (yo.eq_1 ..)⟩
def Mg(ae:aJ)(aM:aN):List Int->Nat->(List Int)->Option (aj)
 |[],Ws,jA=>some ({aD:=ae.aD,Values:=jA}:aj)
 |x35::ae7,Ws,jA=>(yo aM x35).bind fun pI=>
   (app jA ([pI]:List Int)).bind fun z48=>
   Mg ae aM ae7 (Ws+1) z48
def Ns(ae:aJ)(aM:aN):Option (aj):=
 Mg ae aM ae.Terms 0 ([]:List Int)
instance avo:I2 299 t17 t30 u6 Ns:=⟨by
 intro ae _ _ _ _ _ hF
 refine' en Tryz.func299 (Ns.eq_1 ..)
 rename_i k4 k5
 refine' ed ((Dq.mk (β:=(List Int)) (ι:=Sv×List Nat) (fun jA i1=>[]) (fun jA i1=>[aW k5 164 (.agg [(.int .i64 ae.aD),i1.1.v].toArray),ah (aa 3 (az ax)) i1.2 i1.1.v jA]) [] [pz k5]).dr [(.slice (some ⟨k4,0,none⟩) 0 1)]) 15 [3,4,5,13,14]<;>rw[Mg]at hF<;>refine' go⟩
def Q9(aT:aj)(aH:aj):Option (Bool):=
 (Hm aT aH).bind fun r2=>
 some ((r2:Int)==0)
theorem ajK{aT:aj}{bB:Sv}{bu:Nat}{aH:aj}{dR:Sv}{R:Bool}(hF:Q9 aT aH=some R):
   Fw.Spec Tryz.prog 303 [(.agg [(.int .i64 aT.aD),bB.v].toArray),(.pointer (some ⟨bu,0,some 0⟩))] [aI (ak 3 ax) bB.v aT.Values,bC bu 164 (.agg [(.int .i64 aH.aD),dR.v].toArray),aI (ak 3 ax) dR.v aH.Values] (fun _:Unit=>(.bool R)) (fun _=>[]):=by
 refine' en Tryz.func303 (Q9.eq_1 ..)
instance:dz Tryz.prog 303 (type_of% @ajK):=⟨@ajK⟩
def Xf(aH:aj):List aj->Nat->Option (Int)
 |[],k4=>some (-1)
 |x6::dH,k4=>(Q9 x6 aH).bind fun r16=>
   if r16 then (
     some (k4:Int))
   else (
     Xf aH dH (k4+1))
def Xl(aC:List aj)(aH:aj):Option (Int):=
 Xf aH aC 0
theorem ait{aC:List aj}{aA:Sv}{bu:Nat}{aH:aj}{dR:Sv}{R:Int}(hF:Xl aC aH=some R):
   Fw.Spec Tryz.prog 287 [aA.v,(.func (.func 303) [].toArray [(.pointer (some ⟨bu,0,some 0⟩))].toArray)] [aI (ak 164 gZ) aA.v aC,bC bu 164 (.agg [(.int .i64 aH.aD),dR.v].toArray),aI (ak 3 ax) dR.v aH.Values] (fun _:Unit=>(.int .i64 R)) (fun _=>[]):=by
 refine' en Tryz.func287 (Xl.eq_1 ..)
 refine' eP q0 8 [0,1,7]<;>rw[Xf]at hF<;>refine' go
instance:dz Tryz.prog 287 (type_of% @ait):=⟨@ait⟩
def OT(aC:List aj)(aH:aj):Option (Bool):=
 (Xl aC aH).bind fun r1=>
 some (decide ((0:Int)<=r1))
theorem aio{aC:List aj}{aA:Sv}{bu:Nat}{aH:aj}{dR:Sv}{R:Bool}(hF:OT aC aH=some R):
   Fw.Spec Tryz.prog 302 [aA.v,(.func (.func 303) [].toArray [(.pointer (some ⟨bu,0,some 0⟩))].toArray)] [aI (ak 164 gZ) aA.v aC,bC bu 164 (.agg [(.int .i64 aH.aD),dR.v].toArray),aI (ak 3 ax) dR.v aH.Values] (fun _:Unit=>(.bool R)) (fun _=>[]):=by
 refine' en Tryz.func302 (OT.eq_1 ..)
instance:dz Tryz.prog 302 (type_of% @aio):=⟨@aio⟩
def R9(aG:List aj)(dC:aj):Option (Bool):=
 (OT aG dC).bind fun r2=>
 some r2
instance aKa:I2 286 t20 t6 u20 R9:=⟨by
 intro _ _ _ _ _ hF
 refine' en Tryz.func286 (R9.eq_1 ..)⟩
def R_(aT:aj)(aH:aj):Option (Bool):=
 (Hm aT aH).bind fun r2=>
 some (decide ((0:Int)<r2))
theorem akf{aT:aj}{bB:Sv}{bu:Nat}{aH:aj}{dR:Sv}{R:Bool}(hF:R_ aT aH=some R):
   Fw.Spec Tryz.prog 288 [(.agg [(.int .i64 aT.aD),bB.v].toArray),(.pointer (some ⟨bu,0,some 0⟩))] [aI (ak 3 ax) bB.v aT.Values,bC bu 164 (.agg [(.int .i64 aH.aD),dR.v].toArray),aI (ak 3 ax) dR.v aH.Values] (fun _:Unit=>(.bool R)) (fun _=>[]):=by
 refine' en Tryz.func288 (R_.eq_1 ..)
instance:dz Tryz.prog 288 (type_of% @akf):=⟨@akf⟩
def Xj(aH:aj):List aj->Nat->Option (Int)
 |[],k4=>some (-1)
 |x6::dH,k4=>(R_ x6 aH).bind fun r16=>
   if r16 then (
     some (k4:Int))
   else (
     Xj aH dH (k4+1))
def Xn(aC:List aj)(aH:aj):Option (Int):=
 Xj aH aC 0
theorem aiv{aC:List aj}{aA:Sv}{bu:Nat}{aH:aj}{dR:Sv}{R:Int}(hF:Xn aC aH=some R):
   Fw.Spec Tryz.prog 287 [aA.v,(.func (.func 288) [].toArray [(.pointer (some ⟨bu,0,some 0⟩))].toArray)] [aI (ak 164 gZ) aA.v aC,bC bu 164 (.agg [(.int .i64 aH.aD),dR.v].toArray),aI (ak 3 ax) dR.v aH.Values] (fun _:Unit=>(.int .i64 R)) (fun _=>[]):=by
 refine' en Tryz.func287 (Xn.eq_1 ..)
 refine' eP q0 8 [0,1,7]<;>rw[Xj]at hF<;>refine' go
instance:dz Tryz.prog 287 (type_of% @aiv):=⟨@aiv⟩
def KM(aC:List aj)(jd:Int)(kD:List aj):Option (List aj):=
 match kD with
 |[a]=>if 0<=jd/\jd.toNat<=aC.length/\aC.length+1<4294967296 then some (aC.take jd.toNat++a::aC.drop jd.toNat)else none
 |_=>none
set_option maxHeartbeats 4000000 in
theorem arK(es:List Value)(e:Value)(v u:Sv)(F F2:List Nat)(i:Nat)(hi:i<=es.length)(hb:es.length+1<4294967296):Fw.Spec Tryz.prog 289 [v.v,.int .i64 (i:Int),u.v] [ah (aa 164 (az (fA 2))) F v.v es,ah (aa 164 (az (fA 2))) F2 u.v [e]] (fun q:Sv×List Nat=>q.1.v) (fun q=>[ah (aa 164 (az (fA 2))) q.2 q.1.v (es.take i++e::es.drop i)]):=by
 refine Im (n:=95) Tryz.func289 rfl rfl (rs:=[.tmp 6]) rfl rfl rfl ?_
 intro H0 F0
 refine eB ?_
 refine aP (jI (v:=(.slice none 0 0)) EV.oF) ?_
 refine eQ ?_
 refine eB ?_
 refine aP (bE (v:=v.v) (.tmp rfl rfl)) ?_
 refine aP (bE (v:=(.int .i64 (i:Int))) (.tmp rfl rfl)) ?_
 refine iZ (.cons .h .nil) (adC lC.h jY.h.sz (.tmp rfl rfl) (.tmp rfl rfl) hi) (fun w0=>?_)
 refine eQ ?_
 refine eB ?_
 refine aP (bE (v:=u.v) (.tmp rfl rfl)) ?_
 refine gM (.t .h) (fun hp=>tK (l:=1) lC.h (.tmp rfl rfl) (wY hp)) ?_
 refine aP (jI (v:=(.int .i64 ((1:Nat):Int))) (.tmp rfl rfl)) ?_
 refine eQ ?_
 refine dZ ?_
 refine eB ?_
 refine aP (bE (v:=(.int .i64 ((1:Nat):Int))) (.tmp rfl rfl)) ?_
 refine aP (CQ (i:=((1:Nat):Int)) (j:=0) (.tmp rfl rfl) (.int _ _)) ?_
 refine eQ ?_
 refine nY (b:=(((1:Nat):Int)==0)) (.tmp rfl rfl) (fun hb0=>absurd hb0 (by decide)) (fun _=>?_)
 refine uo ?_
 refine eB ?_
 refine aP (bE (v:=v.v) (.tmp rfl rfl)) ?_
 refine gM .h (fun hp=>tK (l:=es.length) lC.h (.tmp rfl rfl) (wY hp)) ?_
 refine aP (jI (v:=(.int .i64 (es.length:Int))) (.tmp rfl rfl)) ?_
 refine eQ ?_
 refine dZ ?_
 refine eB ?_
 refine aP (bE (v:=(.int .i64 (i:Int))) (.tmp rfl rfl)) ?_
 refine aP (bE (v:=(.int .i64 (es.length:Int))) (.tmp rfl rfl)) ?_
 refine aP (CQ (i:=(i:Int)) (j:=(es.length:Int)) (.tmp rfl rfl) (.tmp rfl rfl)) ?_
 refine eQ ?_
 refine nY (b:=((i:Int)==(es.length:Int))) (.tmp rfl rfl) (fun hb1=>?_) (fun hb1=>?_)
 · have hie:i=es.length:=by simp only[aRZ]at hb1; omega
   refine eB ?_
   refine aP (bE (v:=v.v) (.tmp rfl rfl)) ?_
   refine aP (bE (v:=u.v) (.tmp rfl rfl)) ?_
   refine iZ (.cons .h (.cons .h .nil)) (iU (Ro:=(az (fA 2))) lC.h ap_ jY.h rfl rfl rfl (.tmp rfl rfl) (.tmp rfl rfl) (nZ (xs:=es) (ys:=[e]) (by simpa using hb)) kJ) (fun p=>?_)
   refine aP (jI (v:=p.1.v) (.tmp rfl rfl)) ?_
   refine eQ ?_
   refine vz ?_
   rw[hie,aR7,aSj]
   exact iW p (.tmp rfl rfl .nil) rfl (.sel (.cons .h .nil))
 refine uo ?_
 have hlt:i<es.length:=by simp at hb1; omega
 refine zV .h (IR (by intro h; rw[h]at hlt; simp at hlt)) (fun hv=>?_)
 obtain⟨k0,m0,rfl,hm0⟩:=hv
 refine zV (.t .h) (IR (by simp)) (fun hu=>?_)
 obtain⟨k1,m1,rfl,hm1⟩:=hu
 refine afA (t:=0) (k:=k0) (l:=es.length) (m:=m0) rfl rfl hm0 (by omega) .h rfl (fun c hc=>?_)
 have w1:IntKind.i64.wrap ((es.length:Int)+((1:Nat):Int))=((es.length+1:Nat):Int):=by rw[di (by omega) (by omega)]; rfl
 have w2:IntKind.i64.wrap ((i:Int)+((1:Nat):Int))=((i+1:Nat):Int):=by rw[di (by omega) (by omega)]; rfl
 have w3:IntKind.i64.wrap (((es.length+1:Nat):Int)-(i:Int))=((es.length+1-i:Nat):Int):=by rw[di (by omega) (by omega)]; omega
 have hel:(es.take i++e::es.drop i).length=es.length+1:=aeq hi
 refine dZ ?_
 refine eB ?_
 refine aP (bE (v:=(.int .i64 (es.length:Int))) (.tmp rfl rfl)) ?_
 refine aP (bE (v:=(.int .i64 ((1:Nat):Int))) (.tmp rfl rfl)) ?_
 refine aP (nO (i:=(es.length:Int)) (j:=((1:Nat):Int)) (.tmp rfl rfl) (.tmp rfl rfl)) ?_
 rw[w1]
 refine aP (bE (v:=(.slice (some ⟨k0,0,none⟩) es.length (c+3))) (.tmp rfl rfl)) ?_
 refine gM .h (fun hp=>aeR lC.h hp rfl (.tmp rfl rfl)) ?_
 refine aP (Tv (i:=((es.length+1:Nat):Int)) (j:=(c:Int)) (.tmp rfl rfl) (.tmp rfl rfl)) ?_
 refine eQ ?_
 refine nY (b:=(decide ((c:Int)<((es.length+1:Nat):Int)))) (.tmp rfl rfl) (fun hb2=>?_) (fun hb2=>?_)
 · have hcl:c<es.length+1:=by simp only[ag3]at hb2; omega
   refine eB ?_
   refine aP (bE (v:=(.slice (some ⟨k0,0,none⟩) es.length (c+3))) (.tmp rfl rfl)) ?_
   refine aP (bE (v:=(.int .i64 (i:Int))) (.tmp rfl rfl)) ?_
   refine gM .h (fun hp=>LZ (j:=i) lC.h jY.h.sz hp rfl (.tmp rfl rfl) (.tmp rfl rfl) (by omega)) ?_
   refine aP (bE (v:=(.int .i64 (es.length:Int))) (.tmp rfl rfl)) ?_
   refine aP (bE (v:=(.int .i64 ((1:Nat):Int))) (.tmp rfl rfl)) ?_
   refine aP (nO (i:=(es.length:Int)) (j:=((1:Nat):Int)) (.tmp rfl rfl) (.tmp rfl rfl)) ?_
   rw[w1]
   refine aP (bE (v:=(.int .i64 (i:Int))) (.tmp rfl rfl)) ?_
   refine aP (Tu (i:=((es.length+1:Nat):Int)) (j:=(i:Int)) (.tmp rfl rfl) (.tmp rfl rfl)) ?_
   rw[w3]
   refine tZ (.cons .h .nil) (ac7 (c:=c) (q:=es.length+1-i) lC.h We jY.h rfl rfl rfl rfl rfl rfl (.tmp rfl rfl) (.tmp rfl rfl) (by omega) (by omega) (by omega) (by omega)) (fun k2=>?_)
   rw[show i+(es.length+1-i)=es.length+1 from by omega]
   refine aP (jI (v:=(.slice (some ⟨k2,0,none⟩) (es.length+1) 2)) (.tmp rfl rfl)) ?_
   refine eQ ?_
   refine eB ?_
   refine aP (bE (v:=(.slice (some ⟨k2,0,none⟩) (es.length+1) 2)) (.tmp rfl rfl)) ?_
   refine aP (bE (v:=(.int .i64 (i:Int))) (.tmp rfl rfl)) ?_
   refine gM .h (fun hp=>oC (j:=i) lC.h jY.h.sz hp rfl (.tmp rfl rfl) (.tmp rfl rfl) (by omega)) ?_
   refine aP (bE (v:=(.slice (some ⟨k1,0,none⟩) 1 m1)) (.tmp rfl rfl)) ?_
   refine tZ (.cons .h (.cons (.t .h) .nil)) (BU (m1:=0) (m2:=m1) (ia:=i) (ja:=0) (ld:=es.length+1-i) (ls:=1) (es2:=[e]) (es':=es.take i++e::List.replicate (es.length-i) (.agg [(.int .i64 0),(.slice none 0 0)].toArray)) lC.h jY.h.sz rfl rfl rfl (by exact .tmp rfl rfl) (by exact .tmp rfl rfl) (by omega) (by omega) (by rw[aSc]; omega) (by simp; omega) (aeS (e:=e) (z:=(.agg [(.int .i64 0),(.slice none 0 0)].toArray)) hlt) (by simp; omega)) (fun _=>?_)
   refine eQ ?_
   refine iQ [0,1,2,3,4,5,6,7,8] [0,0,0,6,15,0,0,96,255] [8] mixed (by decide+kernel) ?_
   refine dw rfl .no (fun ha=>bE (v:=(.slice (some ⟨k2,0,none⟩) (es.length+1) 2)) (EN ha (.tmp rfl rfl) rfl)) ?_
   refine dw rfl .no (fun ha=>bE (v:=(.int .i64 (i:Int))) (EN ha (.tmp rfl rfl) rfl)) ?_
   refine dw rfl .no (fun ha=>bE (v:=(.int .i64 ((1:Nat):Int))) (EN ha (.tmp rfl rfl) rfl)) ?_
   refine dw rfl .no (fun ha=>nO (i:=(i:Int)) (j:=((1:Nat):Int)) (EN ha (.tmp rfl rfl) rfl) (EN ha (.tmp rfl rfl) rfl)) ?_
   rw[w2]
   refine dF rfl .no .h (fun ha hp=>oC (j:=i+1) lC.h jY.h.sz hp rfl (EN ha (.tmp rfl rfl) rfl) (EN ha (.tmp rfl rfl) rfl) (by omega)) ?_
   refine dw rfl .no (fun ha=>bE (v:=(.slice (some ⟨k0,0,none⟩) es.length (c+3))) (EN ha (.tmp rfl rfl) rfl)) ?_
   refine dw rfl .no (fun ha=>bE (v:=(.int .i64 (i:Int))) (EN ha (.tmp rfl rfl) rfl)) ?_
   refine dF rfl .no (.t (.t .h)) (fun ha hp=>oC (j:=i) lC.h jY.h.sz hp rfl (EN ha (.tmp rfl rfl) rfl) (EN ha (.tmp rfl rfl) rfl) (by omega)) ?_
   refine pQ rfl rfl .no (.cons .h (.cons (.t .h) .nil)) (.aV rfl (.aV rfl .nil)) (fun ha=>BU lC.h jY.h.sz rfl rfl rfl (EN ha (.tmp rfl rfl) rfl) (EN ha (.tmp rfl rfl) rfl) (by omega) (by omega) (by omega) (by simp; omega) (aeT (e:=e) (z:=(.agg [(.int .i64 0),(.slice none 0 0)].toArray)) hlt) (by omega)) (fun _=>?_)
   refine FL ?_
   refine eB ?_
   refine aP (bE (v:=(.slice (some ⟨k2,0,none⟩) (es.length+1) 2)) (.tmp rfl rfl)) ?_
   refine aP (jI (v:=(.slice (some ⟨k2,0,none⟩) (es.length+1) 2)) (.tmp rfl rfl)) ?_
   refine eQ ?_
   refine vz ?_
   rw[hel]
   exact iW (⟨some ⟨k2,0,none⟩,es.length+1,2⟩,[k2]) (.tmp rfl rfl .nil) rfl (.sel (.cons .h .nil))
 refine uo ?_
 have hcl:es.length+1<=c:=by simp only[aRw]at hb2; omega
 refine eB ?_
 refine aP (bE (v:=(.slice (some ⟨k0,0,none⟩) es.length (c+3))) (.tmp rfl rfl)) ?_
 refine aP (bE (v:=(.int .i64 (es.length:Int))) (.tmp rfl rfl)) ?_
 refine aP (bE (v:=(.int .i64 ((1:Nat):Int))) (.tmp rfl rfl)) ?_
 refine aP (nO (i:=(es.length:Int)) (j:=((1:Nat):Int)) (.tmp rfl rfl) (.tmp rfl rfl)) ?_
 rw[w1]
 refine gM .h (fun hp=>LZ (j:=es.length+1) lC.h jY.h.sz hp rfl (.tmp rfl rfl) (.tmp rfl rfl) hcl) ?_
 refine aP (jI (v:=(.slice (some ⟨k0,0,none⟩) (es.length+1) (c+3))) (.tmp rfl rfl)) ?_
 refine eQ ?_
 refine dZ ?_
 refine eB ?_
 refine aP (bE (v:=(.slice (some ⟨k1,0,none⟩) 1 m1)) (.tmp rfl rfl)) ?_
 refine aP (bE (v:=(.slice (some ⟨k0,0,none⟩) (es.length+1) (c+3))) (.tmp rfl rfl)) ?_
 refine aP (bE (v:=(.int .i64 (i:Int))) (.tmp rfl rfl)) ?_
 refine aP (bE (v:=(.int .i64 ((1:Nat):Int))) (.tmp rfl rfl)) ?_
 refine aP (nO (i:=(i:Int)) (j:=((1:Nat):Int)) (.tmp rfl rfl) (.tmp rfl rfl)) ?_
 rw[w2]
 refine gM .h (fun hp=>oC (j:=i+1) lC.h jY.h.sz hp rfl (.tmp rfl rfl) (.tmp rfl rfl) (by omega)) ?_
 refine tZ (.cons (.t .h) (.cons .h .nil)) (adB lC.h jY.h.sz rfl azG rfl rfl (.tmp rfl rfl) (.tmp rfl rfl) (by omega) (by omega)) (fun _=>?_)
 refine aP (NE (b:=false) (.tmp rfl rfl)) ?_
 refine eQ ?_
 refine nY (b:=(!false)) (.tmp rfl rfl) (fun _=>?_) (fun h=>absurd h (by decide))
 refine iQ [0,1,2,3,4,5,6,7,8] [0,0,0,6,15,0,0,96,255] [8] mixed (by decide+kernel) ?_
 refine dw rfl .no (fun ha=>bE (v:=(.slice (some ⟨k0,0,none⟩) (es.length+1) (c+3))) (EN ha (.tmp rfl rfl) rfl)) ?_
 refine dw rfl .no (fun ha=>bE (v:=(.int .i64 (i:Int))) (EN ha (.tmp rfl rfl) rfl)) ?_
 refine dw rfl .no (fun ha=>bE (v:=(.int .i64 ((1:Nat):Int))) (EN ha (.tmp rfl rfl) rfl)) ?_
 refine dw rfl .no (fun ha=>nO (i:=(i:Int)) (j:=((1:Nat):Int)) (EN ha (.tmp rfl rfl) rfl) (EN ha (.tmp rfl rfl) rfl)) ?_
 rw[w2]
 refine dF rfl .no (.t .h) (fun ha hp=>oC (j:=i+1) lC.h jY.h.sz hp rfl (EN ha (.tmp rfl rfl) rfl) (EN ha (.tmp rfl rfl) rfl) (by omega)) ?_
 refine dw rfl .no (fun ha=>bE (v:=(.slice (some ⟨k0,0,none⟩) (es.length+1) (c+3))) (EN ha (.tmp rfl rfl) rfl)) ?_
 refine dw rfl .no (fun ha=>bE (v:=(.int .i64 (i:Int))) (EN ha (.tmp rfl rfl) rfl)) ?_
 refine dF rfl .no (.t .h) (fun ha hp=>oC (j:=i) lC.h jY.h.sz hp rfl (EN ha (.tmp rfl rfl) rfl) (EN ha (.tmp rfl rfl) rfl) (by omega)) ?_
 refine dx rfl rfl .no (.cons (.t .h) .nil) (.aV rfl (.aV rfl .nil)) (fun ha=>aep lC.h jY.h.sz rfl rfl (EN ha (.tmp rfl rfl) rfl) (EN ha (.tmp rfl rfl) rfl) (by omega) (by omega) (by omega) (by omega) (aeU hlt) (by simp; omega)) (fun _=>?_)
 refine FL ?_
 refine eB ?_
 refine aP (bE (v:=(.slice (some ⟨k0,0,none⟩) (es.length+1) (c+3))) (.tmp rfl rfl)) ?_
 refine aP (bE (v:=(.int .i64 (i:Int))) (.tmp rfl rfl)) ?_
 refine gM .h (fun hp=>oC (j:=i) lC.h jY.h.sz hp rfl (.tmp rfl rfl) (.tmp rfl rfl) (by omega)) ?_
 refine aP (bE (v:=(.slice (some ⟨k1,0,none⟩) 1 m1)) (.tmp rfl rfl)) ?_
 refine tZ (.cons .h (.cons .h .nil)) (BU (m1:=0) (m2:=m1) (ia:=i) (ja:=0) (ld:=es.length+1-i) (ls:=1) (es2:=[e]) (es':=es.take i++e::es.drop i) lC.h jY.h.sz rfl rfl rfl (by exact .tmp rfl rfl) (by exact .tmp rfl rfl) (by omega) (by omega) (by rw[aSc]; omega) (by simp; omega) (aeV (e:=e) hlt) (by omega)) (fun _=>?_)
 refine eQ ?_
 refine eB ?_
 refine aP (bE (v:=(.slice (some ⟨k0,0,none⟩) (es.length+1) (c+3))) (.tmp rfl rfl)) ?_
 refine aP (jI (v:=(.slice (some ⟨k0,0,none⟩) (es.length+1) (c+3))) (.tmp rfl rfl)) ?_
 refine eQ ?_
 refine aeo (t:=6) (k:=k0) (l:=es.length+1) (c:=c) rfl rfl ?_
 refine vz ?_
 rw[hel]
 exact iW (⟨some ⟨k0,0,none⟩,es.length+1,2⟩,F) (.tmp rfl rfl .nil) rfl (.sel (.cons .h .nil))
theorem aiK{aC:List aj}{aA:Sv}{jb:List Nat}{jd:Int}{kD:List aj}{bJ:Sv}{Vt:List Nat}{R:List aj}(hF:KM aC jd kD=some R):
   Fw.Spec Tryz.prog 289 [aA.v,.int .i64 jd,bJ.v] [ah (aa 164 dV) jb aA.v aC,ah (aa 164 dV) Vt bJ.v kD] (fun p:Sv×List Nat=>p.1.v) (fun p=>[ah (aa 164 dV) p.2 p.1.v R]):=by
 unfold KM at hF
 rcases kD with _|⟨a,_|⟨_,_⟩⟩
 · simp at hF
 · dsimp only at hF
   split at hF
   · rename_i h
     obtain⟨h0,h1,h2⟩:=h
     obtain⟨i,rfl⟩:∃i:Nat,jd=(i:Int):=⟨jd.toNat,by omega⟩
     cases hF
     rw[aRc]at h1 ⊢
     exact adO (s:=2) fun es e Fa Fb hl=>arK es e aA bJ Fa Fb i (by omega) (by omega)
   · simp at hF
 · simp at hF
instance:dz Tryz.prog 289 (type_of% @aiK):=⟨@aiK⟩
def I9(aG:List aj)(dC:aj):Option ((List aj)):=
 (R9 aG dC).bind fun r2=>
 if r2 then (
   some aG)
 else (
   (Xn aG dC).bind fun r5=>
   if (decide ((r5:Int)<0))then (
     (Bu dC).bind fun r8=>
     (KM aG (aG.length:Int) ([r8]:List aj)).bind fun gL=>
     some gL)
   else (
     (Bu dC).bind fun fu=>
     (KM aG r5 ([fu]:List aj)).bind fun eU=>
     some eU))
instance ak1:I2 252 t44 t6 u7 I9:=⟨by
 intro _ _ _ _ _ _ hF
 refine' en Tryz.func252 (I9.eq_1 ..)
 rename_i r8 _
 refine' Gb dV [r8]
 rename_i fu _
 refine' Gb dV [fu]⟩
end Go.Proofs.YtlnefhbbbikmgabGreat
