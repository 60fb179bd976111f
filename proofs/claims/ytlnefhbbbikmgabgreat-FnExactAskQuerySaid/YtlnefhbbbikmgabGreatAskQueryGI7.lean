/-
  Functions of the program as Lean functions, and that the calls return what these say. No conditions.
-/
import Derived.Test.YtlnefhbbbikmgabGreatAskQueryGI6
set_option maxRecDepth 100000
set_option maxHeartbeats 4000000
set_option linter.unusedVariables false
namespace Go.Proofs.YtlnefhbbbikmgabGreat
open Go Go.Fw
def Qk(ae:ag)(aH:List Method)(l_:Cache)(lD:Int)(mf:List aj)(uH:List ag):Option ((List aj)×Cache×(List ag)):=
 (Zi aH l_ ae lD).bind fun r2=>
 if r2.2 then (
   some (r2.1,l_,uH))
 else (
   (II aH mf ae).bind fun r5=>
   (app uH ([ae]:List ag)).bind fun z9=>
   (bif (decide (((l_.Entries.length:Int):Int)<100))then (some true)
     else ((QH l_ ae).bind fun fu=>
       some (decide ((0:Int)<=fu)))).bind fun o12=>
   match o12 with
   |c18=>if c18 then (
       (Iw l_ ae r5 lD).bind fun eU=>
       some (r5,eU,z9))
     else (
       some (r5,l_,z9)))
theorem acE{Hn:aB}{ae:ag}{bB:Sv}{Oc:List Nat}{bu:Nat}{aH:List Method}{dB:Sv}{gF kF:Nat}{l_:Cache}{sH:Sv}{yN:List Nat}{oz:Nat}{lD:Int}{pK:Nat}{mf:List aj}{oJ:Sv}{mV:Nat}{uH:List ag}{wz:Sv}{Dj:List Nat}{R:(List aj)×Cache×(List ag)}(hF:Qk ae aH l_ lD mf uH=some R):
   Fw.Spec Tryz.prog 208 [(zg [(zi ae.Method),bB.v]),(pz bu),(pz gF),(pz oz),(pz pK),(pz mV)] [t_ Hn,bi bB ae.Values,ah (vM Hn 3 ax) Oc bB.v ae.Values,bC bu 40 dB.v,dY dB aH,bC gF 184 (pz kF),aW kF 47 (zg [sH.v,(zi l_.Age)]),jK yN sH l_.Entries,bC oz 3 (zi lD),bC pK 42 oJ.v,iK oJ mf,aW mV 48 wz.v,ah (aa 85 (pX Hn)) Dj wz.v uH] (fun p:Sv×List Nat×Sv×List Nat×Sv×List Nat=>p.1.v) (fun p=>[ik p.2.1 p.1 R.1,aW kF 47 (zg [p.2.2.1.v,(zi R.2.1.Age)]),jK p.2.2.2.1 p.2.2.1 R.2.1.Entries,aW mV 48 p.2.2.2.2.1.v,ah (aa 85 (pX Hn)) p.2.2.2.2.2 p.2.2.2.2.1.v R.2.2]):=by
 refine Se 55 Tryz.func208 [.tmp 7] ?_
 intro H0 F0
 unfold Qk at hF
 refine au ?_
 refine j6 (fun k1=>?_)
 refine fw ?_
 refine iQ [0,1,2,3,4,5,6,7,8,9,10,11] [0,0,2,6,0,0,63,127,255,255,511,2047] [6] mixed (by decide+kernel) ?_
 refine jF ?_
 refine dw rfl .no (fun ha=>ni (v:=(pz kF)) rfl (EN ha (.tmp rfl rfl) rfl)) ?_
 refine dF rfl .no .q7 (fun ha hp=>lm wD.h p_.h.sz rfl (EN ha (.tmp rfl rfl) rfl) hp.2 rfl) ?_
 refine jF ?_
 refine bnd hF fun r2 hx3 hF=>pQ rfl rfl .no (.cons .q8 (.rd .q5 rfl (.rd .q2 rfl .nil))) (.aV rfl .nil) (fun ha=>mH aX (fun _=>(.cons .nil)) (qR (.rd (.t .h) rfl (.rd .h rfl (.rd .q2 rfl .nil))) (cK aCO.h (.cons (EN ha (.tmp rfl rfl) rfl) (.cons (EN ha (.tmp rfl rfl) rfl) (.cons (EN ha (.tmp rfl rfl) rfl) (.cons (EN ha (.tmp rfl rfl) rfl) .nil)))) (atl.h hx3)))) (fun p4=>?_)
 refine du ?_
 refine dw rfl .no (fun ha=>tC (l:=[p4.1.v,(.bool r2.2)]) (v:=p4.1.v) (EN ha (.tmp rfl rfl) rfl) rfl) ?_
 refine dw rfl .no (fun ha=>tC (l:=[p4.1.v,(.bool r2.2)]) (v:=(.bool r2.2)) (EN ha (.tmp rfl rfl) rfl) rfl) ?_
 refine pu ?_
 refine fw ?_
 refine Ci hF (fun aHW hF=>?_) (fun aHW hF=>?_)
 · refine fI ?_
   cases hF
   exact Er (p4.1,p4.2,sH,yN,wz,Dj)
 refine fI ?_
 refine bnd hF fun r5 hx6 hF=>qM (auM.h hx6) (fun p7=>?_)
 refine fI ?_
 refine lJ rfl (gq (g:=true) uD.h nD.h fG (vs:=[(zg [(zi ae.Method),bB.v])]) rfl rfl rfl (by intro v hv; simp at hv; rcases hv with rfl<;>rfl)) (fun k8=>?_)
 refine mo (.cons .h (.cons .q6 .nil)) (gu (Ro:=(pX Hn)) (E:=85) (F:=(Oc++[])) (xs:=([ae]:List ag)) (iV (aCv (a:=ae)) fU dS) rfl rfl) ?_
 refine bnd hF fun z9 DJ hF=>iZ (.cons (.t (.t (.t (.t (.t (.t (.t (.t (.t (.t (.t (.t (.t (.t (.t .h))))))))))))))) (.cons .h .nil)) (iU (Ro:=(pX Hn)) uD.h N7 nD.h rfl rfl rfl (.tmp rfl rfl) (.tmp rfl rfl) DJ kJ) (fun gm=>?_)
 refine As gm.1.v ?_
 refine eu ?_
 obtain⟨o12,aEU,aHX⟩:=bind_some hF
 refine iQ [0,1,2,3,4,5,6,7,8,9,10,11,12,13] [0,1,3,7,15,31,63,127,255,511,127,2047,4095,8191] [11] mixed (by decide+kernel) ?_
 refine afj (fun f' cs'=>∃(c18:Bool)(g:Fr),c18=o12/\f'=dm g [(2,(pz gF)),(3,(pz oz)),(5,(pz mV)),(6,(pz k1)),(10,p7.1.v),(44,(.bool c18))]/\bL cs' [bC gF 184 (pz kF),aW kF 47 (zg [sH.v,(zi l_.Age)]),jK yN sH l_.Entries,bC oz 3 (zi lD),aW mV 48 gm.1.v,ah (aa 85 (pX Hn)) gm.2 gm.1.v z9,bC k1 85 (zg [(zi ae.Method),bB.v]),bi bB ae.Values,ik p7.2 p7.1 r5,t_ Hn]) ?_ ?_
 · replace hF:=aEU
   refine du ?_
   refine dw rfl .no (fun ha=>ni (v:=(pz kF)) rfl (EN ha (.tmp rfl rfl) rfl)) ?_
   refine du ?_
   refine dF rfl .no .q11 (fun ha hp=>gy (v:=sH.v) agW.h (EN ha (.tmp rfl rfl) rfl) hp.2 rfl rfl) ?_
   refine dF rfl .no .q3 (fun ha hp=>tK (l:=l_.Entries.length) jE.h (EN ha (.tmp rfl rfl) rfl) (wY hp)) ?_
   refine jF ?_
   rcases kQ (decide (((l_.Entries.length:Int):Int)<100))with zq|zq
   · rw[zq]
     try rw[zq]at hF; dsimp only[eZ,eY]at hF
     exact aqf hF
   rw[zq]
   try rw[zq]at hF; dsimp only[eZ,eY]at hF
   refine du ?_
   refine dw rfl (.on 37 rfl rfl rfl) (fun ha=>ni (v:=(pz kF)) rfl (EN ha (.tmp rfl rfl) rfl)) ?_
   refine dF rfl (.on 37 rfl rfl rfl) .q11 (fun ha hp=>lm wD.h p_.h.sz rfl (EN ha (.tmp rfl rfl) rfl) hp.2 rfl) ?_
   refine du ?_
   refine bnd hF fun fu hx16 hF=>dx rfl rfl (.on 37 rfl rfl rfl) (.cons .q3 (.rd .q6 rfl .nil)) (.aV rfl (.aV rfl (.aV rfl .nil))) (fun ha=>mH aX (fun _=>.nil) (cK aCP.h (.cons (EN ha (.tmp rfl rfl) rfl) (.cons (EN ha (.tmp rfl rfl) rfl) .nil)) (asR.h hx16))) (fun _=>?_)
   exact aqf hF
 rintro _ _ ⟨c18,g23,rfl,rfl,hE⟩
 replace hF:=aHX
 try dsimp only at hF
 refine gV hE ?_
 refine Ci hF (fun aic hF=>?_) (fun aic hF=>?_)
 · refine qP [0,1,2,3,4,5,6,7,8,9] [0,0,2,6,0,0,0,126,255,511] [7,9] mixed (by decide+kernel) ?_
   refine jF ?_
   refine dw rfl .no (fun ha=>ni (v:=(pz kF)) rfl (EN ha (.tmp rfl rfl) rfl)) ?_
   refine dF rfl .no (.t .h) (fun ha hp=>lm wD.h p_.h.sz rfl (EN ha (.tmp rfl rfl) rfl) hp.2 rfl) ?_
   refine pu ?_
   refine bnd hF fun eU DN hF=>aeN rfl rfl .no (.cons .q8 (.cons .q2 (.rd .q6 rfl .nil))) (.aV rfl .nil) (fun ha=>qQ (pre:=_) (.cons aX (.cons aX .nil)) (fun _=>(.cons .nil)) (qR (.rd .h rfl (.rd .q2 rfl (.rd (.t .h) rfl .nil))) (cK aCQ.h (.cons (EN ha (.tmp rfl rfl) rfl) (.cons (EN ha (.tmp rfl rfl) rfl) (.cons (EN ha (.tmp rfl rfl) rfl) (.cons (EN ha (.tmp rfl rfl) rfl) .nil)))) (at0.h DN)))) (fun fH=>?_)
   refine dw rfl .no (fun ha=>ni (v:=(pz kF)) rfl (EN ha (.tmp rfl rfl) rfl)) ?_
   refine dx rfl rfl .no (.cons .q4 .nil) (.aV rfl .nil) (fun ha=>iO (e':=(zg [fH.1.v,(zi eU.Age)])) (v:=(zg [fH.1.v,(zi eU.Age)])) p_.h.sz (EN ha (.tmp rfl rfl) rfl) (EN ha (.tmp rfl rfl) rfl) rfl rfl rfl rfl rfl) (fun _=>?_)
   refine du ?_
   refine fI ?_
   cases hF
   exact Er (p7.1,p7.2,fH.1,fH.2,gm.1,gm.2)
 refine lN ?_
 cases hF
 exact Er (p7.1,p7.2,sH,yN,gm.1,gm.2)
instance:dz Tryz.prog 208 (type_of% @acE):=⟨@acE⟩
def Ql(aT:ag)(aH:ag):Option (Bool):=
 (Ia aT aH).bind fun r2=>
 some r2
theorem ajd{aT:ag}{bB:Sv}{bu:Nat}{aH:ag}{dR:Sv}{R:Bool}(hF:Ql aT aH=some R):
   Fw.Spec Tryz.prog 285 [(.agg [(.int .i64 aT.Method),bB.v].toArray),(.pointer (some ⟨bu,0,some 0⟩))] [aI (ak 3 ax) bB.v aT.Values,bC bu 85 (.agg [(.int .i64 aH.Method),dR.v].toArray),aI (ak 3 ax) dR.v aH.Values] (fun _:Unit=>(.bool R)) (fun _=>[]):=by
 refine' en Tryz.func285 (Ql.eq_1 ..)
instance:dz Tryz.prog 285 (type_of% @ajd):=⟨@ajd⟩
def WY(aH:ag):List ag->Nat->Option (Int)
 |[],k4=>some (-1)
 |x6::dH,k4=>(Ql x6 aH).bind fun r16=>
   if r16 then (
     some (k4:Int))
   else (
     WY aH dH (k4+1))
def Xa(aC:List ag)(aH:ag):Option (Int):=
 WY aH aC 0
theorem ail{aC:List ag}{aA:Sv}{bu:Nat}{aH:ag}{dR:Sv}{R:Int}(hF:Xa aC aH=some R):
   Fw.Spec Tryz.prog 191 [aA.v,(.func (.func 285) [].toArray [(.pointer (some ⟨bu,0,some 0⟩))].toArray)] [aI (ak 85 kN) aA.v aC,bC bu 85 (.agg [(.int .i64 aH.Method),dR.v].toArray),aI (ak 3 ax) dR.v aH.Values] (fun _:Unit=>(.int .i64 R)) (fun _=>[]):=by
 refine' en Tryz.func191 (Xa.eq_1 ..)
 refine' eP q0 8 [0,1,7]<;>rw[WY]at hF<;>refine' go
instance:dz Tryz.prog 191 (type_of% @ail):=⟨@ail⟩
def OM(aC:List ag)(aH:ag):Option (Bool):=
 (Xa aC aH).bind fun r1=>
 some (decide ((0:Int)<=r1))
theorem aih{aC:List ag}{aA:Sv}{bu:Nat}{aH:ag}{dR:Sv}{R:Bool}(hF:OM aC aH=some R):
   Fw.Spec Tryz.prog 124 [aA.v,(.func (.func 285) [].toArray [(.pointer (some ⟨bu,0,some 0⟩))].toArray)] [aI (ak 85 kN) aA.v aC,bC bu 85 (.agg [(.int .i64 aH.Method),dR.v].toArray),aI (ak 3 ax) dR.v aH.Values] (fun _:Unit=>(.bool R)) (fun _=>[]):=by
 refine' en Tryz.func124 (OM.eq_1 ..)
instance:dz Tryz.prog 124 (type_of% @aih):=⟨@aih⟩
def Ml(aG:List ag)(ae:ag):Option (Bool):=
 (OM aG ae).bind fun r2=>
 some r2
instance atn:I2 251 t24 t9 u20 Ml:=⟨by
 intro _ _ _ _ _ hF
 refine' en Tryz.func251 (Ml.eq_1 ..)⟩
theorem asS{aG:List ag}{aA:Sv}{ae:ag}{bR:Sv}{R:Bool}(hF:Ml aG ae=some R):
   Fw.Spec Tryz.prog 251 [aA.v,(.agg [(.int .i64 ae.Method),bR.v].toArray)] [aI (ak 85 kN) aA.v aG,aI (ak 3 ax) bR.v ae.Values] (fun _:Unit=>(.bool R)) (fun _=>[]):=atn.h hF
def Ey(aK:Query)(l9:Step)(wB:List aN)(sI:aN)(nQ:(List aj)×Cache×(List ag))(Jz:List ag):List aj->Nat->(List aj)->Option ((List aS)×Int×(List ag)×(List ag)×(List aj)×(List aN))
 |[],Dk,JA=>(ix aK.aL l9.aJ).bind fun aaP=>
   (yl ([sI]:List aN) aaP nQ.1).bind fun apr=>
   (app wB apr).bind fun aps=>
   some (nQ.2.1.Entries,nQ.2.1.Age,nQ.2.2,Jz,JA,aps)
 |aaQ::BO,Dk,JA=>(I9 JA aaQ).bind fun apt=>
   Ey aK l9 wB sI nQ Jz BO (Dk+1) apt
def Be(aG:List Method)(aK:Query)(aH:List Method)(lD:Int)(mf:List aj)(l9:Step):List aN->Nat->(List aS)->Int->(List ag)->(List ag)->(List aj)->(List aN)->Option ((List aS)×Int×(List ag)×(List ag)×(List aj)×(List aN))
 |[],xz,FX,FY,FZ,Ae,F3,wB=>some (FX,FY,FZ,Ae,F3,wB)
 |sI::BP,xz,FX,FY,FZ,Ae,F3,wB=>((ix aK.aL l9.aJ).bind fun aaR=>
     (Il aG l9.Method aaR sI).bind fun Af=>
     (Qk Af aH (⟨FX,FY⟩:Cache) lD mf FZ).bind fun nQ=>
     (Ml Ae Af).bind fun apu=>
     if (!apu)then (
       (app Ae ([Af]:List ag)).bind fun Jz=>
       Ey aK l9 wB sI nQ Jz nQ.1 0 F3)
     else (
       (ix aK.aL l9.aJ).bind fun aaS=>
       (yl ([sI]:List aN) aaS nQ.1).bind fun apv=>
       (app wB apv).bind fun apw=>
       some (nQ.2.1.Entries,nQ.2.1.Age,nQ.2.2,Ae,F3,apw))).bind fun aaT=>
   match aaT with
   |(Ur,Us,Ut,Uu,Uv,Uw)=>Be aG aK aH lD mf l9 BP (xz+1) Ur Us Ut Uu Uv Uw
def Ez(aG:List Method)(aK:Query)(aH:List Method)(lD:Int)(mf:List aj):List Step->Nat->(List aS)->Int->(List ag)->(List ag)->(List aj)->(List aN)->Option (Run×Cache×(List ag))
 |[],vH,JB,JC,JD,Dm,JE,sJ=>(MI aK sJ).bind fun apx=>
   (MZ aG Dm).bind fun Ux=>
   some ((⟨apx,Dm,JE,Ux⟩:Run),(⟨JB,JC⟩:Cache),JD)
 |l9::BQ,vH,JB,JC,JD,Dm,JE,sJ=>(Be aG aK aH lD mf l9 sJ 0 JB JC JD Dm JE ([]:List aN)).bind fun aaU=>
   match aaU with
   |(Uy,Uz,UA,UB,UC,UD)=>Ez aG aK aH lD mf BQ (vH+1) Uy Uz UA UB UC UD
def O7(aG:List Method)(aK:Query)(bY:List Step)(aH:List Method)(l_:Cache)(lD:Int)(mf:List aj)(uH:List ag):Option (Run×Cache×(List ag)):=
 Ez aG aK aH lD mf bY 0 l_.Entries l_.Age uH ([]:List ag) ([]:List aj) ([(⟨[],[]⟩:aN)]:List aN)
theorem arS(Hn:aB)(aG:List Method)(aA:Sv)(aK:Query)(bf:Sv)(bR:Sv)(bY:List Step)(bJ:Sv)(bu:Nat)(aH:List Method)(dB:Sv)(gF:Nat)(kF:Nat)(l_:Cache)(sH:Sv)(yN:List Nat)(oz:Nat)(lD:Int)(pK:Nat)(mf:List aj)(oJ:Sv)(mV:Nat)(uH:List ag)(wz:Sv)(Dj:List Nat)(R:Run×Cache×(List ag))(hF:O7 aG aK bY aH l_ lD mf uH=some R):
   Fw.Spec Tryz.prog 207 [aA.v,(zg [bf.v,bR.v]),bJ.v,(.func (.func 208) [].toArray [(pz bu),(pz gF),(pz oz),(pz pK),(pz mV)].toArray)] [t_ Hn,dY aA aG,bi bf aK.a_,eF bR aK.aL,h_ bJ bY,bC bu 40 dB.v,dY dB aH,bC gF 184 (pz kF),aW kF 47 (zg [sH.v,(zi l_.Age)]),jK yN sH l_.Entries,bC oz 3 (zi lD),bC pK 42 oJ.v,iK oJ mf,aW mV 48 wz.v,ah (aa 85 (pX Hn)) Dj wz.v uH] (fun p:Sv×List Nat×Sv×Sv×List Nat×Sv×List Nat×Sv×List Nat=>(zg [p.1.v,p.2.2.1.v,p.2.2.2.1.v,(zi R.1.bK)])) (fun p=>[ah (aa 22 (aa 3 (az ax))) p.2.1 p.1.v R.1.nN,sN p.2.2.1 R.1.bD,ik p.2.2.2.2.1 p.2.2.2.1 R.1.rP,aW kF 47 (zg [p.2.2.2.2.2.1.v,(zi R.2.1.Age)]),jK p.2.2.2.2.2.2.1 p.2.2.2.2.2.1 R.2.1.Entries,aW mV 48 p.2.2.2.2.2.2.2.1.v,ah (aa 85 (pX Hn)) p.2.2.2.2.2.2.2.2 p.2.2.2.2.2.2.2.1.v R.2.2]):=by
 refine Se 98 Tryz.func207 [.cell 8 81] ?_
 intro H0 F0
 unfold O7 at hF
 refine au ?_
 refine j6 (fun k1=>?_)
 refine gI (fun k2=>?_)
 refine eu ?_
 refine aP (iy Ay.h rfl (vs:=[]) .nil (cells:=[(.slice none 0 0),(.slice none 0 0),(.slice none 0 0),(zi 0)]) rfl) ?_
 refine gI (fun k3=>?_)
 refine As (.agg ([(.slice none 0 0),(.slice none 0 0),(.slice none 0 0),(zi 0)]:List Value).toArray) ?_
 refine eu ?_
 refine aP (iy gB.h rfl (vs:=[]) .nil (cells:=[(.slice none 0 0),(.slice none 0 0)]) rfl) ?_
 refine lJ rfl (gq (g:=true) uw.h gB.h fG (vs:=[(.agg ([(.slice none 0 0),(.slice none 0 0)]:List Value).toArray)]) rfl rfl rfl (by intro v hv; simp at hv; rcases hv with rfl<;>rfl)) (fun k4=>?_)
 iterate 2 refine S_ .nil (jJ (Ro:=(az ax)) (E:=3)) dS ?_
 refine mo (.cons .q2 (.cons (.t .h) (.cons .h .nil))) (gu (Ro:=j3) (E:=152) (F:=(([]++[])++[])) (xs:=([(⟨[],[]⟩:aN)]:List aN)) (iV (aat (v0:=⟨none,0,0⟩) (v1:=⟨none,0,0⟩) (a:=(⟨[],[]⟩:aN))) fU dS) rfl rfl) ?_
 refine kP ?_
 refine gU (kI (m:=bY.length) (fun apy f' cs'=>∃(g:Fr)(vH:Nat)(BQ:List Step)(JB:List aS)(JC:Int)(JD Dm:List ag)(JE:List aj)(sJ:List aN)(UE:Sv)(aaV:List Nat)(UF:Sv)(aaW:List Nat)(Ag:Sv)(agk:List Nat)(F4:Sv)(aaX:List Nat)(Ah:Sv)(apz:List Nat),apy=BQ.length/\f'=dm g [(0,aA.v),(3,(.func (.func 208) [].toArray [(pz bu),(pz gF),(pz oz),(pz pK),(pz mV)].toArray)),(5,(pz k1)),(8,(pz k2)),(9,(pz k3)),(10,Ah.v),(23,bJ.v),(24,(zi (bY.length:Int))),(25,(zi (vH:Int)))]/\List.drop vH bY=BQ/\bL cs' [t_ Hn,dY aA aG,bC bu 40 dB.v,dY dB aH,bC gF 184 (pz kF),aW kF 47 (zg [UE.v,(zi JC)]),jK aaV UE JB,bC oz 3 (zi lD),bC pK 42 oJ.v,iK oJ mf,aW mV 48 UF.v,ah (aa 85 (pX Hn)) aaW UF.v JD,bC k1 56 (zg [bf.v,bR.v]),bi bf aK.a_,eF bR aK.aL,aW k2 81 (.agg ([(.slice none 0 0),(.slice none 0 0),(.slice none 0 0),(zi 0)]:List Value).toArray),aW k3 81 (zg [(.slice none 0 0),Ag.v,F4.v,(zi 0)]),wE agk Ag Dm,ik aaX F4 JE,wo apz Ah sJ,h_ bJ bY]/\Ez aG aK aH lD mf BQ vH JB JC JD Dm JE sJ=some R) ⟨_,0,_,_,_,_,_,_,_,sH,yN,wz,Dj,⟨none,0,0⟩,[],⟨none,0,0⟩,[],⟨(some ⟨k4,0,none⟩),1,1⟩,(k4::(([]++[])++[])),rfl,df,rfl,(.conv .nil (jJ (Ro:=(az kN)) (E:=85)) (.cons .nil) (.conv .nil (jJ (Ro:=dV) (E:=164)) (.cons .nil) bT)),hF⟩ ?_)
 rintro apy _ _ ⟨aN8,vH,BQ,JB,JC,JD,Dm,JE,sJ,UE,aaV,UF,aaW,Ag,agk,F4,aaX,Ah,apz,rfl,rfl,anO,hE,hF⟩
 refine Kb hE bY (fun aLB=>?_)
 rcases BQ with _|⟨l9,BQ⟩
 · have aAX:=dn anO
   rw[Ez]at hF
   refine dO ?_
   refine mQ ?_
   refine dO ?_
   refine iQ [0,1,3,4,5,2,7,6,8,9,10] [0,0,3,0,0,16,63,55,255,511,1023] [2,6,8,10] mixed (by decide+kernel) ?_
   refine Az ?_
   refine dF rfl .no (.t (.t (.t (.t (.t (.t (.t (.t (.t (.t (.t (.t (.t (.t (.t (.t .h)))))))))))))))) (fun ha hp=>gy (v:=Ag.v) JQ.h (EN ha (.tmp rfl rfl) rfl) hp.2 rfl rfl) ?_
   refine bnd hF fun apx aAY hF=>pQ rfl rfl .no (.cons (.t (.t (.t (.t (.t (.t (.t (.t (.t (.t (.t (.t (.t (.t (.t (.t (.t (.t (.t .h))))))))))))))))))) (.rd .q13 rfl (.rd .q14 rfl .nil))) (.own (.t (.t (.t (.t (.t (.t (.t (.t (.t (.t (.t (.t (.t (.t (.t (.t .h)))))))))))))))) (fun _ h=>h) .nil) (fun ha=>mH aX (fun _=>(.cons .nil)) (qR (.rd (.t .h) rfl (.rd .q2 rfl (.rd .h rfl .nil))) (cK aCV.h (.cons (EN ha (.tmp rfl rfl) rfl) (.cons (EN ha (.tmp rfl rfl) rfl) .nil)) (@ati aK bf bR sJ Ah _ aAY)))) (fun UG=>?_)
   refine du ?_
   refine bnd hF fun Ux aAZ hF=>dx rfl rfl .no (.cons (.t (.t (.t (.t (.t (.t (.t (.t (.t (.t (.t (.t (.t (.t (.t (.t (.t (.t (.t .h))))))))))))))))))) (.rd .q3 rfl .nil)) (.aV rfl .nil) (fun ha=>mH aX (fun _=>.nil) (qR (.rd (.t .h) rfl (.rd .h rfl .nil)) (cK aoE.h (.cons (EN ha (.tmp rfl rfl) rfl) (.cons (EN ha (.tmp rfl rfl) rfl) .nil)) (@aj2 aG aA Dm Ag _ aAZ)))) (fun _=>?_)
   refine dx rfl rfl .no (.cons (.t (.t (.t (.t (.t (.t (.t (.t (.t (.t (.t (.t (.t (.t (.t (.t (.t (.t (.t .h))))))))))))))))))) .nil) (.aV rfl .nil) (fun ha=>iO (e':=(zg [UG.1.v,Ag.v,F4.v,(zi 0)])) xG.h.sz (EN ha (.tmp rfl rfl) rfl) (EN ha (.tmp rfl rfl) rfl) rfl rfl rfl rfl rfl) (fun _=>?_)
   refine du ?_
   refine dx rfl rfl .no (.cons .h .nil) (.aV rfl .nil) (fun ha=>iO (e':=(zg [UG.1.v,Ag.v,F4.v,(zi Ux)])) (v:=(zi Ux)) gP.h.sz (EN ha (.tmp rfl rfl) rfl) (EN ha (.tmp rfl rfl) rfl) rfl rfl rfl rfl rfl) (fun _=>?_)
   refine du ?_
   refine eu ?_
   refine As (zg [UG.1.v,Ag.v,F4.v,(zi Ux)]) ?_
   refine eu ?_
   cases hF
   exact iW (UG.1,UG.2,Ag,F4,aaX,UE,aaV,UF,aaW) (.lZ rfl rfl .h rfl UZ.h Ay.h.sz rfl rfl .nil) rfl (.cO .q2 aX (.sel (.cons .q4 (.rd .h rfl (.cons (.t (.t (.t (.t (.t (.t (.t (.t (.t (.t (.t (.t (.t (.t (.t (.t (.t (.t (.t .h))))))))))))))))))) (.cons .q9 (.cons .q9 (.cons .q12 (.cons .q12 .nil)))))))))
 obtain⟨aAX,aA0,aA1⟩:=kH anO
 rw[Ez]at hF
 refine dO ?_
 refine mP ?_
 refine au ?_
 obtain⟨aaU,ayR,aA2⟩:=bind_some hF
 refine pU (fun f' cs'=>∃(Uy:List aS)(Uz:Int)(UA UB:List ag)(UC:List aj)(UD:List aN)(aaY:Sv)(agl:List Nat)(aaZ:Sv)(agm:List Nat)(aa0:Sv)(agn:List Nat)(aa1:Sv)(agp:List Nat)(aa2:Sv)(agq:List Nat)(g:Fr),aaU=(Uy,Uz,UA,UB,UC,UD)/\f'=dm g [(0,aA.v),(3,(.func (.func 208) [].toArray [(pz bu),(pz gF),(pz oz),(pz pK),(pz mV)].toArray)),(5,(pz k1)),(8,(pz k2)),(9,(pz k3)),(10,aa2.v),(23,bJ.v),(24,(zi (bY.length:Int))),(25,(zi (vH:Int)))]/\bL cs' [dY aA aG,bC bu 40 dB.v,dY dB aH,bC gF 184 (pz kF),aW kF 47 (zg [aaY.v,(zi Uz)]),jK agl aaY Uy,bC oz 3 (zi lD),bC pK 42 oJ.v,iK oJ mf,aW mV 48 aaZ.v,ah (aa 85 (pX Hn)) agm aaZ.v UA,bC k1 56 (zg [bf.v,bR.v]),bi bf aK.a_,eF bR aK.aL,aW k2 81 (.agg ([(.slice none 0 0),(.slice none 0 0),(.slice none 0 0),(zi 0)]:List Value).toArray),aW k3 81 (zg [(.slice none 0 0),aa0.v,aa1.v,(zi 0)]),wE agn aa0 UB,ik agp aa1 UC,wo agq aa2 UD,h_ bJ bY,t_ Hn]) ?_ ?_
 · replace hF:=ayR
   refine gU (eB (Jk (a:=l9) sM.h vE.h.sz (.tmp rfl rfl) (.tmp rfl rfl) (.t (.t (.t (.t (.t (.t (.t (.t (.t (.t (.t (.t (.t (.t (.t (.t (.t (.t (.t (.t .h)))))))))))))))))))) (aRX vH) aA0 (fun aN9 aN_=>?_)))
   refine aFl (akG l9) akH (fun _=>?_)
   refine gI (fun NN=>?_)
   refine As (zg [(zi l9.aJ),(zi l9.Method)]) ?_
   refine eu ?_
   refine lJ rfl (gq (g:=true) uw.h gB.h .nil (vs:=[]) rfl rfl rfl (by simp)) (fun apB=>?_)
   refine mo (.cons .h .nil) (gu (Ro:=j3) (E:=152) (F:=[]) (xs:=([]:List aN)) fU rfl rfl) ?_
   refine kP ?_
   refine gU (uq (.t (.t (.t (.t (.t (.t (.t (.t (.t (.t (.t (.t (.t (.t (.t (.t (.t (.t (.t (.t (.t (.t .h)))))))))))))))))))))) aX ?_)
   refine kI (m:=sJ.length) (fun apC f' cs'=>∃(g:Fr)(xz:Nat)(BP:List aN)(FX:List aS)(FY:Int)(FZ Ae:List ag)(F3:List aj)(wB:List aN)(UH:Sv)(aa3:List Nat)(UI:Sv)(aa4:List Nat)(NP:Sv)(aa5:List Nat)(JF:Sv)(UJ:List Nat)(NQ:Sv)(aa6:List Nat),apC=BP.length/\f'=dm g [(0,aA.v),(3,(.func (.func 208) [].toArray [(pz bu),(pz gF),(pz oz),(pz pK),(pz mV)].toArray)),(5,(pz k1)),(8,(pz k2)),(9,(pz k3)),(12,(pz NN)),(13,NQ.v),(23,bJ.v),(24,(zi (bY.length:Int))),(25,(zi (vH:Int))),(30,Ah.v),(31,(zi (sJ.length:Int))),(32,(zi (xz:Int)))]/\List.drop xz sJ=BP/\bL cs' [t_ Hn,dY aA aG,bC bu 40 dB.v,dY dB aH,bC gF 184 (pz kF),aW kF 47 (zg [UH.v,(zi FY)]),jK aa3 UH FX,bC oz 3 (zi lD),bC pK 42 oJ.v,iK oJ mf,aW mV 48 UI.v,ah (aa 85 (pX Hn)) aa4 UI.v FZ,bC k1 56 (zg [bf.v,bR.v]),bi bf aK.a_,eF bR aK.aL,aW k2 81 (.agg ([(.slice none 0 0),(.slice none 0 0),(.slice none 0 0),(zi 0)]:List Value).toArray),aW k3 81 (zg [(.slice none 0 0),NP.v,JF.v,(zi 0)]),wE aa5 NP Ae,ik UJ JF F3,aW NN 155 (zg [(zi l9.aJ),(zi l9.Method)]),wo aa6 NQ wB,h_ bJ bY,C8 Ah sJ]/\Be aG aK aH lD mf l9 BP xz FX FY FZ Ae F3 wB=some aaU) ⟨_,0,_,_,_,_,_,_,_,UE,aaV,UF,aaW,Ag,agk,F4,aaX,⟨(some ⟨apB,0,none⟩),0,1⟩,(apB::[]),rfl,df,rfl,bT,hF⟩ ?_
   rintro apC _ _ ⟨aN',xz,BP,FX,FY,FZ,Ae,F3,wB,UH,aa3,UI,aa4,NP,aa5,JF,UJ,NQ,aa6,rfl,rfl,anP,hE,hF⟩
   refine Kb hE sJ (fun aLC=>?_)
   rcases BP with _|⟨sI,BP⟩
   · have aA3:=dn anP
     rw[Be]at hF
     refine dO ?_
     refine mQ ?_
     refine kP ?_
     cases hF
     exact⟨_,_,_,_,_,_,UH,aa3,UI,aa4,NP,aa5,JF,UJ,NQ,aa6,_,rfl,df,bT⟩
   obtain⟨aA3,aA4,aA5⟩:=kH anP
   rw[Be]at hF
   refine dO ?_
   refine mP ?_
   refine au ?_
   obtain⟨aaT,ayS,aA6⟩:=bind_some hF
   refine pU (fun f' cs'=>∃(Ur:List aS)(Us:Int)(Ut Uu:List ag)(Uv:List aj)(Uw:List aN)(aa7:Sv)(ags:List Nat)(aa8:Sv)(agt:List Nat)(aa9:Sv)(agu:List Nat)(aa_:Sv)(agv:List Nat)(aa':Sv)(agw:List Nat)(g:Fr),aaT=(Ur,Us,Ut,Uu,Uv,Uw)/\f'=dm g [(0,aA.v),(3,(.func (.func 208) [].toArray [(pz bu),(pz gF),(pz oz),(pz pK),(pz mV)].toArray)),(5,(pz k1)),(8,(pz k2)),(9,(pz k3)),(12,(pz NN)),(13,aa'.v),(23,bJ.v),(24,(zi (bY.length:Int))),(25,(zi (vH:Int))),(30,Ah.v),(31,(zi (sJ.length:Int))),(32,(zi (xz:Int)))]/\bL cs' [dY aA aG,bC bu 40 dB.v,dY dB aH,bC gF 184 (pz kF),aW kF 47 (zg [aa7.v,(zi Us)]),jK ags aa7 Ur,bC oz 3 (zi lD),bC pK 42 oJ.v,iK oJ mf,aW mV 48 aa8.v,ah (aa 85 (pX Hn)) agt aa8.v Ut,bC k1 56 (zg [bf.v,bR.v]),bi bf aK.a_,eF bR aK.aL,aW k2 81 (.agg ([(.slice none 0 0),(.slice none 0 0),(.slice none 0 0),(zi 0)]:List Value).toArray),aW k3 81 (zg [(.slice none 0 0),aa9.v,aa_.v,(zi 0)]),wE agu aa9 Uu,ik agv aa_ Uv,aW NN 155 (zg [(zi l9.aJ),(zi l9.Method)]),wo agw aa' Uw,h_ bJ bY,C8 Ah sJ,t_ Hn]) ?_ ?_
   · replace hF:=ayS
     refine gU (eB (Jk (a:=sI) uw.h gB.h.sz (.tmp rfl rfl) (.tmp rfl rfl) (.t (.t (.t (.t (.t (.t (.t (.t (.t (.t (.t (.t (.t (.t (.t (.t (.t (.t (.t (.t (.t (.t .h)))))))))))))))))))))) (aRX xz) aA4 (fun aOa aOb=>?_)))
     refine abk (L6 sI) L8 (fun xA=>?_)
     refine gI (fun apD=>?_)
     refine As (zg [xA.1.v,xA.2.v]) ?_
     refine au ?_
     refine iQ [0,1,2,3,4,5,6,7,8,9,11,10,12] [0,0,2,0,8,0,32,120,248,0,1023,0,4095] [10,12] mixed (by decide+kernel) ?_
     refine jF ?_
     refine dF rfl .no (.t (.t (.t (.t (.t (.t (.t (.t (.t (.t (.t (.t (.t (.t (.t (.t (.t (.t (.t (.t (.t (.t (.t .h))))))))))))))))))))))) (fun ha hp=>gy (v:=(zi l9.Method)) wL.h (EN ha (.tmp rfl rfl) rfl) hp.2 rfl rfl) ?_
     refine pu ?_
     refine dF rfl .no (.t (.t (.t (.t (.t (.t (.t (.t (.t (.t (.t (.t (.t (.t (.t (.t (.t (.t (.t (.t (.t (.t (.t .h))))))))))))))))))))))) (fun ha hp=>gy (v:=(zi l9.aJ)) wL.h (EN ha (.tmp rfl rfl) rfl) hp.2 rfl rfl) ?_
     refine zI hF fun aaR aMA aA7 hF=>?_
     refine Di aA7 (fun aOc aOd=>?_)
     refine xE (Bp aaR) Bq (fun aEV=>?_)
     refine dF rfl .no .q2 (fun ha hp=>lm vD.h gB.h.sz rfl (EN ha (.tmp rfl rfl) rfl) hp.2 rfl) ?_
     refine jw rfl .no rfl (fun ha=>vW (g:=true) nD.h rfl rfl) (fun aOe=>?_)
     refine bnd hF fun Af aA8 hF=>dx rfl rfl .no (.rd .q8 rfl (.rd (.t .h) rfl (.rd .q4 rfl (.rd .q5 rfl .nil)))) (.own .h (fun _ h=>h) (.aV rfl (.aV rfl (.aV rfl .nil)))) (fun ha=>cK aCT.h (.cons (EN ha (.tmp rfl rfl) rfl) (.cons (EN ha (.tmp rfl rfl) rfl) (.cons (EN ha (.tmp rfl rfl) rfl) (.cons (EN ha (.tmp rfl rfl) rfl) .nil)))) (@asQ aG aA l9.Method aaR aEV sI xA.1 xA.2 _ aA8)) (fun NR=>?_)
     refine dx rfl rfl .no (.cons (.t .h) .nil) (.aV rfl (.aV rfl (.aV rfl (.aV rfl .nil)))) (fun ha=>iO (e':=(zg [(zi Af.Method),NR.1.v])) (v:=(zg [(zi Af.Method),NR.1.v])) nD.h.sz (EN ha (.tmp rfl rfl) rfl) (EN ha (.tmp rfl rfl) rfl) rfl rfl rfl rfl rfl) (fun _=>?_)
     refine du ?_
     refine fw ?_
     refine azy (.t .h) .q7 ?_
     refine bnd hF fun nQ aA9 hF=>apR (.rd .q9 rfl (.rd (.t .h) rfl (.cons .h (.rd .q10 rfl (.rd .q11 rfl (.rd .q12 rfl (.cons .q13 (.cons .q13 (.rd .q13 rfl (.rd .q14 rfl (.rd (.t (.t (.t (.t (.t (.t (.t (.t (.t (.t (.t (.t (.t (.t (.t .h))))))))))))))) rfl (.cons (.t (.t (.t (.t (.t (.t (.t (.t (.t (.t (.t (.t (.t (.t (.t (.t .h)))))))))))))))) (.cons (.t (.t (.t (.t (.t (.t (.t (.t (.t (.t (.t (.t (.t (.t (.t (.t .h)))))))))))))))) .nil))))))))))))) (ZQ aCN.h (.tmp rfl rfl) fG (@acE Hn Af NR.1 NR.2 bu aH dB gF kF (⟨FX,FY⟩:Cache) UH aa3 oz lD pK mf oJ mV FZ UI aa4 _ aA9)) (fun qB=>?_)
     refine iq ?_
     refine bnd hF fun apu aA_ hF=>iZ (.cons (.t (.t (.t (.t (.t (.t (.t (.t (.t (.t (.t (.t (.t (.t (.t (.t (.t (.t (.t (.t (.t (.t (.t (.t (.t (.t .h)))))))))))))))))))))))))) (.rd .q5 rfl .nil)) (mH aX (fun _=>.nil) (cK aCU.h fG (@asS Ae NP Af NR.1 _ aA_))) (fun _=>?_)
     refine eu ?_
     refine Ci hF (fun aA' hF=>?_) (fun aA' hF=>?_)
     · refine dO ?_
       refine lJ rfl (gq (g:=true) uD.h nD.h fG (vs:=[(zg [(zi Af.Method),NR.1.v])]) rfl rfl rfl (by intro v hv; simp at hv; rcases hv with rfl<;>rfl)) (fun aOf=>?_)
       refine mo (.cons .h (.rd .q6 rfl .nil)) (gu (Ro:=(az kN)) (E:=85) (F:=([]++[])) (xs:=([Af]:List ag)) (iV abv fU dS) rfl rfl) ?_
       refine bnd hF fun Jz aBa hF=>iZ (.cons (.t .h) (.cons .h .nil)) (iU (Ro:=(az kN)) uD.h N7 nD.h rfl rfl rfl (.tmp rfl rfl) (.tmp rfl rfl) aBa kJ) (fun JG=>?_)
       refine au ?_
       refine As (zg [(.slice none 0 0),JG.1.v,JF.v,(zi 0)]) ?_
       refine lN ?_
       refine gU (uq .q2 aX ?_)
       refine kI (m:=nQ.1.length) (fun apE f' cs'=>∃(g:Fr)(Dk:Nat)(BO JA:List aj)(aba:Sv)(agx:List Nat),apE=BO.length/\f'=dm g [(0,aA.v),(3,(.func (.func 208) [].toArray [(pz bu),(pz gF),(pz oz),(pz pK),(pz mV)].toArray)),(5,(pz k1)),(8,(pz k2)),(9,(pz k3)),(12,(pz NN)),(13,NQ.v),(15,(pz apD)),(17,qB.1.v),(23,bJ.v),(24,(zi (bY.length:Int))),(25,(zi (vH:Int))),(30,Ah.v),(31,(zi (sJ.length:Int))),(32,(zi (xz:Int))),(61,qB.1.v),(62,(zi (nQ.1.length:Int))),(63,(zi (Dk:Int)))]/\List.drop Dk nQ.1=BO/\bL cs' [t_ Hn,dY aA aG,bC bu 40 dB.v,dY dB aH,bC gF 184 (pz kF),aW kF 47 (zg [qB.2.2.1.v,(zi nQ.2.1.Age)]),jK qB.2.2.2.1 qB.2.2.1 nQ.2.1.Entries,bC oz 3 (zi lD),bC pK 42 oJ.v,iK oJ mf,aW mV 48 qB.2.2.2.2.1.v,ah (aa 85 (pX Hn)) qB.2.2.2.2.2 qB.2.2.2.2.1.v nQ.2.2,bC k1 56 (zg [bf.v,bR.v]),bi bf aK.a_,eF bR aK.aL,aW k2 81 (.agg ([(.slice none 0 0),(.slice none 0 0),(.slice none 0 0),(zi 0)]:List Value).toArray),aW k3 81 (zg [(.slice none 0 0),JG.1.v,aba.v,(zi 0)]),wE JG.2 JG.1 Jz,ik agx aba JA,aW NN 155 (zg [(zi l9.aJ),(zi l9.Method)]),wo aa6 NQ wB,aW apD 152 (zg [xA.1.v,xA.2.v]),bi xA.1 sI.Vars,bi xA.2 sI.Values,iK qB.1 nQ.1,h_ bJ bY,C8 Ah sJ]/\Ey aK l9 wB sI nQ Jz BO Dk JA=some aaT) ⟨_,0,_,_,JF,UJ,rfl,df,rfl,bT,hF⟩ ?_
       rintro apE _ _ ⟨aOg,Dk,BO,JA,aba,agx,rfl,rfl,anQ,hE,hF⟩
       refine Kb hE nQ.1 (fun aLD=>?_)
       rcases BO with _|⟨aaQ,BO⟩
       · have aBb:=dn anQ
         rw[Ey]at hF
         refine dO ?_
         refine mQ ?_
         refine dO ?_
         refine qP [0,1,2,3,4,5,6,7,8,9,10,11,12] [0,0,2,0,8,0,32,120,248,0,1022,2047,4095] [10,11] mixed (by decide+kernel) ?_
         refine du ?_
         refine dF rfl .no (.t (.t (.t (.t (.t (.t (.t (.t (.t (.t (.t (.t (.t (.t (.t (.t (.t (.t (.t (.t (.t .h))))))))))))))))))))) (fun ha hp=>lm vD.h gB.h.sz rfl (EN ha (.tmp rfl rfl) rfl) hp.2 rfl) ?_
         refine jw rfl .no rfl (fun ha=>gq (g:=true) (len:=1) (parts:=[(0,.tmp 74)]) uw.h gB.h (.cons (EN ha (.tmp rfl rfl) rfl) .nil) (vs:=[(zg [xA.1.v,xA.2.v])]) rfl rfl rfl (by intro v hv; simp at hv; rcases hv with rfl<;>rfl)) (fun aEW=>?_)
         refine lQ (.cons .h (.rd (.t (.t (.t (.t (.t (.t (.t (.t (.t (.t (.t (.t (.t (.t (.t (.t (.t (.t (.t (.t (.t (.t .h)))))))))))))))))))))) rfl (.rd (.t (.t (.t (.t (.t (.t (.t (.t (.t (.t (.t (.t (.t (.t (.t (.t (.t (.t (.t (.t (.t (.t (.t .h))))))))))))))))))))))) rfl .nil))) (gu (Ro:=(az sF)) (E:=152) (F:=([]++[])) (xs:=([sI]:List aN)) (iV Jp fU dS) rfl rfl) ?_
         refine pu ?_
         refine dF rfl .no (.t (.t (.t (.t (.t (.t (.t (.t (.t (.t (.t (.t (.t (.t (.t (.t (.t (.t (.t (.t .h)))))))))))))))))))) (fun ha hp=>gy (v:=(zi l9.aJ)) wL.h (EN ha (.tmp rfl rfl) rfl) hp.2 rfl rfl) ?_
         refine zI hF fun aaP aMB aBc hF=>?_
         refine Di aBc (fun aOh aOi=>?_)
         refine xE (Bp aaP) Bq (fun aEX=>?_)
         refine du ?_
         refine bnd hF fun apr aBd hF=>pQ rfl rfl .no (.cons .q2 (.rd .h rfl (.rd (.t (.t (.t (.t (.t (.t (.t (.t (.t (.t (.t (.t (.t (.t (.t (.t (.t (.t (.t (.t (.t (.t (.t (.t (.t (.t .h)))))))))))))))))))))))))) rfl .nil))) (.aV rfl (.aV rfl (.aV rfl .nil))) (fun ha=>mH aX (fun _=>(.cons .nil)) (cK aoF.h (.cons (EN ha (.tmp rfl rfl) rfl) (.cons (EN ha (.tmp rfl rfl) rfl) (.cons (EN ha (.tmp rfl rfl) rfl) .nil))) (@ajL ([sI]:List aN) (⟨(some ⟨aEW,0,none⟩),1,1⟩) aaP aEX nQ.1 qB.1 _ aBd))) (fun aOj=>?_)
         refine bnd hF fun aps aBe hF=>dx rfl rfl .no (.cons (.t (.t (.t (.t (.t (.t (.t (.t (.t (.t (.t (.t (.t (.t (.t (.t (.t (.t (.t (.t (.t (.t (.t (.t .h)))))))))))))))))))))))) (.cons (.t .h) .nil)) (.aV rfl (.aV rfl (.aV rfl .nil))) (fun ha=>iU (Ro:=j3) uw.h NG gB.h rfl rfl rfl (EN ha (.tmp rfl rfl) rfl) (EN ha (.tmp rfl rfl) rfl) aBe kJ) (fun apF=>?_)
         refine jF ?_
         cases hF
         exact⟨_,_,_,_,_,_,qB.2.2.1,qB.2.2.2.1,qB.2.2.2.2.1,qB.2.2.2.2.2,JG.1,JG.2,aba,agx,apF.1,apF.2,_,rfl,df,bT⟩
       obtain⟨aBb,aBf,aBg⟩:=kH anQ
       rw[Ey]at hF
       refine dO ?_
       refine mP ?_
       refine fw ?_
       refine Ai aBf (fun aOk aOl=>?_)
       refine NV (QL aaQ) QM (fun aEY=>?_)
       refine gI (fun aOm=>?_)
       refine As (zg [(zi aaQ.aD),aEY.v]) ?_
       refine fI ?_
       refine bnd hF fun apt aBh hF=>qM (ak1.h aBh) (fun agy=>?_)
       refine au ?_
       refine As (zg [(.slice none 0 0),JG.1.v,agy.1.v,(zi 0)]) ?_
       refine fI ?_
       rw[wk Dk]
       exact⟨_,lT _,_,Dk+1,BO,_,agy.1,agy.2,rfl,df,aBg,bT,hF⟩
     refine au ?_
     refine qP [0,1,2,3,4,5,6,7,8,9,10,11,12] [0,0,2,0,8,0,32,120,248,0,1022,2047,4095] [10,11] mixed (by decide+kernel) ?_
     refine du ?_
     refine dF rfl .no .q10 (fun ha hp=>lm vD.h gB.h.sz rfl (EN ha (.tmp rfl rfl) rfl) hp.2 rfl) ?_
     refine jw rfl .no rfl (fun ha=>gq (g:=true) (len:=1) (parts:=[(0,.tmp 74)]) uw.h gB.h (.cons (EN ha (.tmp rfl rfl) rfl) .nil) (vs:=[(zg [xA.1.v,xA.2.v])]) rfl rfl rfl (by intro v hv; simp at hv; rcases hv with rfl<;>rfl)) (fun aEZ=>?_)
     refine lQ (.cons .h (.rd .q11 rfl (.rd .q12 rfl .nil))) (gu (Ro:=(az sF)) (E:=152) (F:=([]++[])) (xs:=([sI]:List aN)) (iV Jp fU dS) rfl rfl) ?_
     refine pu ?_
     refine dF rfl .no (.t (.t (.t (.t (.t (.t (.t (.t (.t (.t (.t (.t (.t (.t (.t (.t (.t (.t (.t (.t (.t (.t (.t (.t (.t (.t (.t (.t (.t .h))))))))))))))))))))))))))))) (fun ha hp=>gy (v:=(zi l9.aJ)) wL.h (EN ha (.tmp rfl rfl) rfl) hp.2 rfl rfl) ?_
     refine zI hF fun aaS aMC aBi hF=>?_
     refine Di aBi (fun aOn aOo=>?_)
     refine xE (Bp aaS) Bq (fun aE0=>?_)
     refine du ?_
     refine bnd hF fun apv aBj hF=>aeN rfl rfl .no (.cons .q4 (.cons .q2 (.rd .h rfl .nil))) (.aV rfl (.aV rfl (.aV rfl .nil))) (fun ha=>amS (pre:=_) (.cons aX (.cons aX .nil)) (fun _=>(.cons .nil)) (qR (.rd (.t .h) rfl (.rd .q2 rfl (.rd .h rfl .nil))) (cK aoF.h (.cons (EN ha (.tmp rfl rfl) rfl) (.cons (EN ha (.tmp rfl rfl) rfl) (.cons (EN ha (.tmp rfl rfl) rfl) .nil))) (@ajL ([sI]:List aN) (⟨(some ⟨aEZ,0,none⟩),1,1⟩) aaS aE0 nQ.1 qB.1 _ aBj)))) (fun aOp=>?_)
     refine bnd hF fun apw aBk hF=>dx rfl rfl .no (.cons (.t (.t (.t (.t (.t (.t (.t (.t (.t (.t (.t (.t (.t (.t (.t (.t (.t (.t (.t (.t (.t (.t (.t (.t (.t (.t (.t (.t (.t (.t (.t (.t (.t .h))))))))))))))))))))))))))))))))) (.cons .q2 .nil)) (.aV rfl (.aV rfl (.aV rfl .nil))) (fun ha=>iU (Ro:=j3) uw.h NG gB.h rfl rfl rfl (EN ha (.tmp rfl rfl) rfl) (EN ha (.tmp rfl rfl) rfl) aBk kJ) (fun apG=>?_)
     refine jF ?_
     cases hF
     exact⟨_,_,_,_,_,_,qB.2.2.1,qB.2.2.2.1,qB.2.2.2.2.1,qB.2.2.2.2.2,NP,aa5,JF,UJ,apG.1,apG.2,_,rfl,df,bT⟩
   rintro _ _ ⟨Ur,Us,Ut,Uu,Uv,Uw,aa7,ags,aa8,agt,aa9,agu,aa_,agv,aa',agw,aOq,rfl,rfl,hE⟩
   replace hF:=aA6
   try dsimp only at hF
   refine gV hE ?_
   refine dO ?_
   rw[wk xz]
   exact⟨_,lT _,_,xz+1,BP,_,_,_,_,_,_,aa7,ags,aa8,agt,aa9,agu,aa_,agv,aa',agw,rfl,df,aA5,bT,hF⟩
 rintro _ _ ⟨Uy,Uz,UA,UB,UC,UD,aaY,agl,aaZ,agm,aa0,agn,aa1,agp,aa2,agq,aOr,rfl,rfl,hE⟩
 replace hF:=aA2
 try dsimp only at hF
 refine gV hE ?_
 refine dO ?_
 rw[wk vH]
 exact⟨_,lT _,_,vH+1,BQ,_,_,_,_,_,_,aaY,agl,aaZ,agm,aa0,agn,aa1,agp,aa2,agq,rfl,df,aA1,bT,hF⟩
theorem acm{aG:List Method}{aA:Sv}{aK:Query}{bf bR:Sv}{bY:List Step}{bJ:Sv}{bu:Nat}{aH:List Method}{dB:Sv}{gF kF:Nat}{l_:Cache}{sH:Sv}{yN:List Nat}{oz:Nat}{lD:Int}{pK:Nat}{mf:List aj}{oJ:Sv}{mV:Nat}{uH:List ag}{wz:Sv}{Dj:List Nat}{R:Run×Cache×(List ag)}(hF:O7 aG aK bY aH l_ lD mf uH=some R):
   Fw.Spec Tryz.prog 207 [aA.v,(zg [bf.v,bR.v]),bJ.v,(.func (.func 208) [].toArray [(pz bu),(pz gF),(pz oz),(pz pK),(pz mV)].toArray)] [dY aA aG,bi bf aK.a_,eF bR aK.aL,h_ bJ bY,bC bu 40 dB.v,dY dB aH,bC gF 184 (pz kF),aW kF 47 (zg [sH.v,(zi l_.Age)]),jK yN sH l_.Entries,bC oz 3 (zi lD),bC pK 42 oJ.v,iK oJ mf,aW mV 48 wz.v,oL Dj wz uH] (fun p:Sv×List Nat×Sv×Sv×List Nat×Sv×List Nat×Sv×List Nat=>(zg [p.1.v,p.2.2.1.v,p.2.2.2.1.v,(zi R.1.bK)])) (fun p=>[ah (aa 22 (aa 3 (az ax))) p.2.1 p.1.v R.1.nN,ik p.2.2.2.2.1 p.2.2.2.1 R.1.rP,aW kF 47 (zg [p.2.2.2.2.2.1.v,(zi R.2.1.Age)]),jK p.2.2.2.2.2.2.1 p.2.2.2.2.2.1 R.2.1.Entries,aW mV 48 p.2.2.2.2.2.2.2.1.v,oL p.2.2.2.2.2.2.2.2 p.2.2.2.2.2.2.2.1 R.2.2]):=
 awC (RF:=pX) (Ro:=ji) (p0:=fun Hn=>[t_ Hn,dY aA aG,bi bf aK.a_,eF bR aK.aL,h_ bJ bY,bC bu 40 dB.v,dY dB aH,bC gF 184 (pz kF),aW kF 47 (zg [sH.v,(zi l_.Age)]),jK yN sH l_.Entries,bC oz 3 (zi lD),bC pK 42 oJ.v,iK oJ mf,aW mV 48 wz.v,ah (aa 85 (pX Hn)) Dj wz.v uH]) (pf:=fun Hn p=>[ah (aa 22 (aa 3 (az ax))) p.2.1 p.1.v R.1.nN,sN p.2.2.1 R.1.bD,ik p.2.2.2.2.1 p.2.2.2.1 R.1.rP,aW kF 47 (zg [p.2.2.2.2.2.1.v,(zi R.2.1.Age)]),jK p.2.2.2.2.2.2.1 p.2.2.2.2.2.1 R.2.1.Entries,aW mV 48 p.2.2.2.2.2.2.2.1.v,ah (aa 85 (pX Hn)) p.2.2.2.2.2.2.2.2 p.2.2.2.2.2.2.2.1.v R.2.2]) (fun Hn=>arS Hn aG aA aK bf bR bY bJ bu aH dB gF kF l_ sH yN oz lD pK mf oJ mV uH wz Dj R hF) .q13 (fun _=>.q14) (fun _ _=>.q6) (fun _=>(.cons_cons _ (.cons _ (.cons_cons _ (.cons_cons _ (.cons_cons _ (.cons_cons _ .slnil))))))) (fun _=>.q5) (fun _=>(.cons (.cons (.cons (.cons (.cons .nil))))))
instance:dz Tryz.prog 207 (type_of% @acm):=⟨@acm⟩
end Go.Proofs.YtlnefhbbbikmgabGreat
