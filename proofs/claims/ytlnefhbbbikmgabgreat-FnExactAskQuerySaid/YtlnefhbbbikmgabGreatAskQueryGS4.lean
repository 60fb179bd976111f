/-
  Functions of the program as Lean functions, and that the calls return what these say. No conditions.
-/
import Derived.Test.YtlnefhbbbikmgabGreatAskQueryGS3
set_option maxRecDepth 100000
set_option maxHeartbeats 4000000
set_option linter.unusedVariables false
namespace Go.Proofs.YtlnefhbbbikmgabGreat
open Go Go.Fw
def G9(iY:aJ)(nz:List aN)(l8:aN)(nA:(List aj))(vF:List ag)(z_:Cache):List aj->Nat->(List aj)->Option ((List ag)×(List aj)×(List aS)×Int×(List aN))
 |[],Da,FM=>(uY ([l8]:List aN) iY nA).bind fun aoR=>
   (app nz aoR).bind fun aoS=>
   some (vF,FM,z_.Entries,z_.Age,aoS)
 |aaA::BI,Da,FM=>(zQ FM aaA).bind fun aoT=>
   G9 iY nz l8 nA vF z_ BI (Da+1) aoT
def G_(iY:aJ)(nP:List aS)(oI:Int)(nz:List aN)(l8:aN)(nA:(List aj))(vF:List ag):List aj->Nat->(List aj)->Option ((List ag)×(List aj)×(List aS)×Int×(List aN))
 |[],Db,FN=>(uY ([l8]:List aN) iY nA).bind fun aoU=>
   (app nz aoU).bind fun aoV=>
   some (vF,FN,nP,oI,aoV)
 |aaB::BJ,Db,FN=>(zQ FN aaB).bind fun aoW=>
   G_ iY nP oI nz l8 nA vF BJ (Db+1) aoW
def Hd(iY:aJ)(ww:List ag)(nP:List aS)(oI:Int)(nz:List aN)(l8:aN)(wy:(List aj)×Bool):List aj->Nat->(List aj)->Option ((List ag)×(List aj)×(List aS)×Int×(List aN))
 |[],Dc,FO=>(uY ([l8]:List aN) iY wy.1).bind fun aoX=>
   (app nz aoX).bind fun aoY=>
   some (ww,FO,nP,oI,aoY)
 |aaC::BK,Dc,FO=>(zQ FO aaC).bind fun aoZ=>
   Hd iY ww nP oI nz l8 wy BK (Dc+1) aoZ
def Bi(aC:List Int)(aG:List Method)(dM:List aj)(dA:Int)(o7:Step)(iY:aJ):List aN->Nat->(List ag)->(List aj)->(List aS)->Int->(List aN)->Option ((List ag)×(List aj)×(List aS)×Int×(List aN))
 |[],vG,ww,Aa,nP,oI,nz=>some (ww,Aa,nP,oI,nz)
 |l8::BL,vG,ww,Aa,nP,oI,nz=>((ix aG o7.Method).bind fun aaD=>
     (Iq aaD iY l8).bind fun Ab=>
     (K8 aC aG (⟨nP,oI⟩:Cache) (⟨o7.Method,Ab⟩:ag) dA).bind fun wy=>
     if (!wy.2)then (
       (ix aG o7.Method).bind fun af0=>
       (Md af0 Ab dM).bind fun nA=>
       (app ww ([(⟨o7.Method,Ab⟩:ag)]:List ag)).bind fun vF=>
       (bif (decide (((nP.length:Int):Int)<100))then (some true)
         else ((YU (⟨nP,oI⟩:Cache) (⟨o7.Method,Ab⟩:ag)).bind fun ao0=>
           some (decide ((0:Int)<=ao0)))).bind fun af1=>
       match af1 with
       |TZ=>if TZ then (
           (Iu (⟨nP,oI⟩:Cache) (⟨o7.Method,Ab⟩:ag) nA dA).bind fun z_=>
           G9 iY nz l8 nA vF z_ nA 0 Aa)
         else (
           G_ iY nP oI nz l8 nA vF nA 0 Aa))
     else (
       Hd iY ww nP oI nz l8 wy wy.1 0 Aa)).bind fun NI=>
   match NI with
   |(T9,T_,Ua,Ub,Uc)=>Bi aC aG dM dA o7 iY BL (vG+1) T9 T_ Ua Ub Uc
def EE(aC:List Int)(aG:List Method)(aK:Query)(dM:List aj)(dA:Int):List Step->Nat->(List ag)->(List aj)->(List aS)->Int->(List aN)->Option (Run×Cache)
 |[],tQ,De,Jt,Ju,Df,sG=>(MB aK sG).bind fun ao1=>
   (R7 aG De).bind fun Ud=>
   some ((⟨ao1,De,Jt,Ud⟩:Run),(⟨Ju,Df⟩:Cache))
 |o7::BM,tQ,De,Jt,Ju,Df,sG=>((ix aK.aL o7.aJ).bind fun iY=>
     Bi aC aG dM dA o7 iY sG 0 De Jt Ju Df ([]:List aN)).bind fun aaE=>
   match aaE with
   |(Ue,Uf,Ug,Uh,Ui)=>EE aC aG aK dM dA BM (tQ+1) Ue Uf Ug Uh Ui
def Ih(aC:List Int)(aG:List Method)(aK:Query)(bY:List Step)(dM:List aj)(bG:Cache)(dA:Int):Option (Run×Cache):=
 (R4 bG).bind fun r6=>
 ((R6 aC aG aK bY).bind fun gL=>
   bif (!gL)then (some true)
   else ((ZL aG bY).bind fun r16=>
     bif (!r16)then (some true)
     else ((Mw aC dM).bind fun kR=>
       bif (!kR)then (some true)
       else ((IE aC aG bG).bind fun qO=>
         bif (!qO)then (some true)
         else ((iR dA 0 10000).bind fun KE=>
           some (!KE)))))).bind fun o10=>
 match o10 with
 |c31=>if c31 then (
     some ((⟨[],[],[],0⟩:Run),r6))
   else (
     EE aC aG aK dM dA bY 0 ([]:List ag) ([]:List aj) r6.Entries r6.Age ([(⟨[],[]⟩:aN)]:List aN))
theorem asJ{aC:List Int}{aA:Sv}{aG:List Method}{bf:Sv}{aK:Query}{bJ gK:Sv}{bY:List Step}{gN:Sv}{dM:List aj}{jQ:Sv}{bG:Cache}{aqR:Sv}{dA:Int}{R:Run×Cache}(hF:Ih aC aG aK bY dM bG dA=some R):
   Fw.Spec Tryz.prog 27 [aA.v,bf.v,(zg [bJ.v,gK.v]),gN.v,jQ.v,(zg [aqR.v,(zi bG.Age)]),(zi dA)] [bi aA aC,dY bf aG,bi bJ aK.a_,eF gK aK.aL,h_ gN bY,iK jQ dM,ku aqR bG.Entries] (fun p:Sv×List Nat×Sv×Sv×List Nat×Sv=>(.tuple [(zg [p.1.v,p.2.2.1.v,p.2.2.2.1.v,(zi R.1.bK)]),(zg [p.2.2.2.2.2.v,(zi R.2.Age)])].toArray)) (fun p=>[ah (aa 22 (aa 3 (az ax))) p.2.1 p.1.v R.1.nN,sN p.2.2.1 R.1.bD,ik p.2.2.2.2.1 p.2.2.2.1 R.1.rP,ku p.2.2.2.2.2 R.2.Entries]):=by
 refine Se 183 Tryz.func27 [.cell 14 81,.cell 15 47] ?_
 intro H0 F0
 unfold Ih at hF
 refine au ?_
 refine j6 (fun k1=>?_)
 refine j6 (fun k2=>?_)
 refine gI (fun k3=>?_)
 refine gI (fun k4=>?_)
 refine eu ?_
 refine aP (iy Ay.h rfl (vs:=[]) .nil (cells:=[(.slice none 0 0),(.slice none 0 0),(.slice none 0 0),(zi 0)]) rfl) ?_
 refine gI (fun k5=>?_)
 refine As (.agg ([(.slice none 0 0),(.slice none 0 0),(.slice none 0 0),(zi 0)]:List Value).toArray) ?_
 refine fw ?_
 refine bnd hF fun r6 hx7 hF=>qM (akd.h hx7) (fun p8=>?_)
 refine gI (fun k9=>?_)
 refine As (zg [p8.1.v,(zi r6.Age)]) ?_
 refine eu ?_
 obtain⟨o10,aDP,aHm⟩:=bind_some hF
 refine au ?_
 refine qo (fun f' cs'=>∃(c31:Bool)(g:Fr),c31=o10/\f'=dm g [(0,aA.v),(1,bf.v),(3,gN.v),(4,jQ.v),(6,(zi dA)),(9,(pz k1)),(14,(pz k3)),(15,(pz k4)),(16,(pz k5)),(17,(pz k9)),(59,(.bool c31))]/\bL cs' [bi aA aC,dY bf aG,h_ gN bY,iK jQ dM,bC k1 56 (zg [bJ.v,gK.v]),bi bJ aK.a_,eF gK aK.aL,aW k3 81 (.agg ([(.slice none 0 0),(.slice none 0 0),(.slice none 0 0),(zi 0)]:List Value).toArray),aW k4 47 (.agg ([(.slice none 0 0),(zi 0)]:List Value).toArray),aW k5 81 (.agg ([(.slice none 0 0),(.slice none 0 0),(.slice none 0 0),(zi 0)]:List Value).toArray),aW k9 47 (zg [p8.1.v,(zi r6.Age)]),jK p8.2 p8.1 r6.Entries]) ?_ ?_
 · replace hF:=aDP
   refine dO ?_
   refine bnd hF fun gL U8 hF=>oO (auI.h U8) (fun _=>?_)
   refine eu ?_
   rcases kQ (!gL)with zf|zf
   · rw[zf]
     try rw[zf]at hF; dsimp only[eZ,eY]at hF
     exact jP hF
   rw[zf]
   try rw[zf]at hF; dsimp only[eZ,eY]at hF
   refine fI ?_
   refine bnd hF fun r16 Vm hF=>oO (auJ.h Vm) (fun _=>?_)
   refine dO ?_
   rcases kQ (!r16)with zh|zh
   · rw[zh]
     try rw[zh]at hF; dsimp only[eZ,eY]at hF
     exact jP hF
   rw[zh]
   try rw[zh]at hF; dsimp only[eZ,eY]at hF
   refine fI ?_
   refine bnd hF fun kR aHn hF=>oO (atH.h aHn) (fun _=>?_)
   refine dO ?_
   rcases kQ (!kR)with Vn|Vn
   · rw[Vn]
     try rw[Vn]at hF; dsimp only[eZ,eY]at hF
     exact jP hF
   rw[Vn]
   try rw[Vn]at hF; dsimp only[eZ,eY]at hF
   refine iq ?_
   refine bnd hF fun qO hx25 hF=>oO (auE.h hx25) (fun _=>?_)
   refine dO ?_
   rcases kQ (!qO)with Vo|Vo
   · rw[Vo]
     try rw[Vo]at hF; dsimp only[eZ,eY]at hF
     exact jP hF
   rw[Vo]
   try rw[Vo]at hF; dsimp only[eZ,eY]at hF
   refine fw ?_
   refine bnd hF fun KE hx29 hF=>oO (awG.h hx29) (fun _=>?_)
   exact jP hF
 rintro _ _ ⟨c31,aNn,rfl,rfl,hE⟩
 replace hF:=aHm
 try dsimp only at hF
 refine gV hE ?_
 refine Ci hF (fun az' hF=>?_) (fun az' hF=>?_)
 · refine iQ [0,1,2,3] [0,0,1,7] [2,3] mixed (by decide+kernel) ?_
   refine dF rfl .no .q9 (fun ha hp=>lm UZ.h Ay.h.sz rfl (EN ha (.tmp rfl rfl) rfl) hp.2 rfl) ?_
   refine dF rfl .no .q10 (fun ha hp=>lm wD.h p_.h.sz rfl (EN ha (.tmp rfl rfl) rfl) hp.2 rfl) ?_
   refine dx rfl rfl .no (.cons .q7 .nil) (.own .q9 (fun _ h=>h) (.aV rfl .nil)) (fun ha=>iO (e':=(.agg ([(.slice none 0 0),(.slice none 0 0),(.slice none 0 0),(zi 0)]:List Value).toArray)) (v:=(.agg ([(.slice none 0 0),(.slice none 0 0),(.slice none 0 0),(zi 0)]:List Value).toArray)) Ay.h.sz (EN ha (.tmp rfl rfl) rfl) (EN ha (.tmp rfl rfl) rfl) rfl rfl rfl rfl rfl) (fun _=>?_)
   refine dx rfl rfl .no (.cons .q8 .nil) (.aV rfl (.aV rfl .nil)) (fun ha=>iO (e':=(zg [p8.1.v,(zi r6.Age)])) (v:=(zg [p8.1.v,(zi r6.Age)])) p_.h.sz (EN ha (.tmp rfl rfl) rfl) (EN ha (.tmp rfl rfl) rfl) rfl rfl rfl rfl rfl) (fun _=>?_)
   refine du ?_
   refine au ?_
   cases hF
   exact iW (⟨none,0,0⟩,[],⟨none,0,0⟩,⟨none,0,0⟩,[],p8.1) (.lZ rfl rfl (.t .h) rfl UZ.h Ay.h.sz rfl rfl (.lZ rfl rfl .h rfl wD.h p_.h.sz rfl rfl .nil)) rfl (.conv .nil (jJ (Ro:=(aa 3 (az ax))) (E:=22)) (.cons .nil) (.conv .nil (zW (R:=kN) (E:=85)) (.cons .nil) (.conv .nil (jJ (Ro:=dV) (E:=164)) (.cons .nil) (.cO .q14 aX (.sel (.cons .q3 (.rd .q2 rfl (.cons (.t .h) (.rd .h rfl .nil)))))))))
 refine eu ?_
 refine aP (iy gB.h rfl (vs:=[]) .nil (cells:=[(.slice none 0 0),(.slice none 0 0)]) rfl) ?_
 refine lJ rfl (gq (g:=true) uw.h gB.h fG (vs:=[(.agg ([(.slice none 0 0),(.slice none 0 0)]:List Value).toArray)]) rfl rfl rfl (by intro v hv; simp at hv; rcases hv with rfl<;>rfl)) (fun rQ=>?_)
 iterate 2 refine S_ .nil (jJ (Ro:=(az ax)) (E:=3)) dS ?_
 refine mo (.cons .q2 (.cons (.t .h) (.cons .h .nil))) (gu (Ro:=j3) (E:=152) (F:=(([]++[])++[])) (xs:=([(⟨[],[]⟩:aN)]:List aN)) (iV (aat (v0:=⟨none,0,0⟩) (v1:=⟨none,0,0⟩) (a:=(⟨[],[]⟩:aN))) fU dS) rfl rfl) ?_
 refine lN ?_
 refine gU (kI (m:=bY.length) (fun ao2 f' cs'=>∃(g:Fr)(tQ:Nat)(BM:List Step)(De:List ag)(Jt:List aj)(Ju:List aS)(Df:Int)(sG:List aN)(Ac:Sv)(af2:List Nat)(Dg:Sv)(aaF:List Nat)(Jv tT:Sv)(ao3:List Nat),ao2=BM.length/\f'=dm g [(0,aA.v),(1,bf.v),(3,gN.v),(4,jQ.v),(6,(zi dA)),(9,(pz k1)),(14,(pz k3)),(15,(pz k4)),(16,(pz k5)),(17,(pz k9)),(18,tT.v),(19,(zi (tQ:Int)))]/\List.drop tQ bY=BM/\bL cs' [bi aA aC,dY bf aG,h_ gN bY,iK jQ dM,bC k1 56 (zg [bJ.v,gK.v]),bi bJ aK.a_,eF gK aK.aL,aW k3 81 (.agg ([(.slice none 0 0),(.slice none 0 0),(.slice none 0 0),(zi 0)]:List Value).toArray),aW k4 47 (.agg ([(.slice none 0 0),(zi 0)]:List Value).toArray),aW k5 81 (zg [(.slice none 0 0),Ac.v,Dg.v,(zi 0)]),wE af2 Ac De,ik aaF Dg Jt,aW k9 47 (zg [Jv.v,(zi Df)]),ku Jv Ju,wo ao3 tT sG]/\EE aC aG aK dM dA BM tQ De Jt Ju Df sG=some R) ⟨_,0,_,_,_,_,_,_,⟨none,0,0⟩,[],⟨none,0,0⟩,[],p8.1,⟨(some ⟨rQ,0,none⟩),1,1⟩,(rQ::(([]++[])++[])),rfl,df,rfl,(.conv .nil (jJ (Ro:=(az kN)) (E:=85)) (.cons .nil) (.conv .nil (jJ (Ro:=dV) (E:=164)) (.cons .nil) (.cO .q14 aX bT))),hF⟩ ?_)
 rintro ao2 _ _ ⟨aNo,tQ,BM,De,Jt,Ju,Df,sG,Ac,af2,Dg,aaF,Jv,tT,ao3,rfl,rfl,anJ,hE,hF⟩
 refine Kb hE bY (fun aLw=>?_)
 rcases BM with _|⟨o7,BM⟩
 · have aAa:=dn anJ
   rw[EE]at hF
   refine iq ?_
   refine mQ ?_
   refine iq ?_
   refine bnd hF fun ao1 aAb hF=>tZ (.cons .q14 (.rd .q5 rfl (.rd .q6 rfl .nil))) (mH aX (fun _=>(.cons .nil)) (qR (.rd (.t .h) rfl (.rd .q2 rfl (.rd .h rfl .nil))) (cK aCA.h fG (@as9 aK bJ gK sG tT _ aAb)))) (fun NJ=>?_)
   refine au ?_
   refine As (zg [NJ.1.v,Ac.v,Dg.v,(zi 0)]) ?_
   refine fI ?_
   refine bnd hF fun Ud aAc hF=>iZ (.cons .q12 (.rd .q4 rfl .nil)) (mH aX (fun _=>.nil) (qR (.rd (.t .h) rfl (.rd .h rfl .nil)) (cK aCB.h fG (@atN aG bf De Ac _ aAc)))) (fun _=>?_)
   refine au ?_
   refine As (zg [NJ.1.v,Ac.v,Dg.v,(zi Ud)]) ?_
   refine au ?_
   refine iQ [0,1,2,3] [0,0,1,7] [2,3] mixed (by decide+kernel) ?_
   refine dF rfl .no .h (fun ha hp=>lm UZ.h Ay.h.sz rfl (EN ha (.tmp rfl rfl) rfl) hp.2 rfl) ?_
   refine dF rfl .no .q14 (fun ha hp=>lm wD.h p_.h.sz rfl (EN ha (.tmp rfl rfl) rfl) hp.2 rfl) ?_
   refine dx rfl rfl .no (.cons .q11 .nil) (.own .q13 (fun _ h=>h) (.aV rfl .nil)) (fun ha=>iO (e':=(zg [NJ.1.v,Ac.v,Dg.v,(zi Ud)])) (v:=(zg [NJ.1.v,Ac.v,Dg.v,(zi Ud)])) Ay.h.sz (EN ha (.tmp rfl rfl) rfl) (EN ha (.tmp rfl rfl) rfl) rfl rfl rfl rfl rfl) (fun _=>?_)
   refine dx rfl rfl .no (.cons .q12 .nil) (.aV rfl (.aV rfl .nil)) (fun ha=>iO (e':=(zg [Jv.v,(zi Df)])) (v:=(zg [Jv.v,(zi Df)])) p_.h.sz (EN ha (.tmp rfl rfl) rfl) (EN ha (.tmp rfl rfl) rfl) rfl rfl rfl rfl rfl) (fun _=>?_)
   refine du ?_
   refine au ?_
   cases hF
   exact iW (NJ.1,NJ.2,Ac,Dg,aaF,Jv) (.lZ rfl rfl (.t .h) rfl UZ.h Ay.h.sz rfl rfl (.lZ rfl rfl .h rfl wD.h p_.h.sz rfl rfl .nil)) rfl (.cO .q3 aX (.sel (.cons .q5 (.rd .h rfl (.cons .q12 (.rd .q13 rfl .nil))))))
 obtain⟨aAa,ae_,aAd⟩:=kH anJ
 rw[EE]at hF
 refine iq ?_
 refine mP ?_
 refine au ?_
 obtain⟨aaE,ayO,aAe⟩:=bind_some hF
 refine pU (fun f' cs'=>∃(Ue:List ag)(Uf:List aj)(Ug:List aS)(Uh:Int)(Ui:List aN)(aaG:Sv)(af3:List Nat)(aaH:Sv)(af4:List Nat)(aaI aaJ:Sv)(af5:List Nat)(g:Fr),aaE=(Ue,Uf,Ug,Uh,Ui)/\f'=dm g [(0,aA.v),(1,bf.v),(3,gN.v),(4,jQ.v),(6,(zi dA)),(9,(pz k1)),(14,(pz k3)),(15,(pz k4)),(16,(pz k5)),(17,(pz k9)),(18,aaJ.v),(19,(zi (tQ:Int)))]/\bL cs' [bi aA aC,dY bf aG,h_ gN bY,iK jQ dM,bC k1 56 (zg [bJ.v,gK.v]),bi bJ aK.a_,eF gK aK.aL,aW k3 81 (.agg ([(.slice none 0 0),(.slice none 0 0),(.slice none 0 0),(zi 0)]:List Value).toArray),aW k4 47 (.agg ([(.slice none 0 0),(zi 0)]:List Value).toArray),aW k5 81 (zg [(.slice none 0 0),aaG.v,aaH.v,(zi 0)]),wE af3 aaG Ue,ik af4 aaH Uf,aW k9 47 (zg [aaI.v,(zi Uh)]),ku aaI Ug,wo af5 aaJ Ui]) ?_ ?_
 · replace hF:=ayO
   refine gU (eB (lJ rfl (gq (g:=true) uw.h gB.h .nil (vs:=[]) rfl rfl rfl (by simp)) (fun ao4=>?_)))
   refine mo (.cons .h .nil) (gu (Ro:=j3) (E:=152) (F:=[]) (xs:=([]:List aN)) fU rfl rfl) ?_
   refine eu ?_
   refine iQ [0,1,2,3,4,5,6,7,8,9,10] [0,1,0,0,12,28,60,127,255,0,1023] [10] mixed (by decide+kernel) ?_
   refine Az ?_
   refine Di ae_ (fun aNp aNq=>?_)
   refine du ?_
   refine Dl aew ?_
   refine zI hF fun iY aMr aAf hF=>?_
   refine Di aAf (fun aNr aNs=>?_)
   refine xE (Bp iY) Bq (fun qZ=>?_)
   refine jw rfl .no rfl (fun ha=>vW (g:=true) zZ.h rfl rfl) (fun xw=>?_)
   refine dx rfl rfl .no (.cons .h .nil) (.aV rfl .nil) (fun ha=>iO (e':=(zg [(zi iY.aD),qZ.v])) (v:=(zg [(zi iY.aD),qZ.v])) zZ.h.sz (EN ha (.tmp rfl rfl) rfl) (EN ha (.tmp rfl rfl) rfl) rfl rfl rfl rfl rfl) (fun _=>?_)
   refine du ?_
   refine dO ?_
   refine gU (uq (.t (.t (.t (.t (.t (.t (.t (.t (.t (.t (.t (.t (.t (.t (.t (.t (.t (.t (.t .h))))))))))))))))))) aX ?_)
   refine kI (m:=sG.length) (fun ao5 f' cs'=>∃(g:Fr)(vG:Nat)(BL:List aN)(ww:List ag)(Aa:List aj)(nP:List aS)(oI:Int)(nz:List aN)(FP:Sv)(Uj:List Nat)(Ad:Sv)(Jw:List Nat)(xx xy:Sv)(Jy:List Nat),ao5=BL.length/\f'=dm g [(0,aA.v),(1,bf.v),(3,gN.v),(4,jQ.v),(6,(zi dA)),(9,(pz k1)),(14,(pz k3)),(15,(pz k4)),(16,(pz k5)),(17,(pz k9)),(18,tT.v),(19,(zi (tQ:Int))),(20,xy.v),(21,(pz xw)),(22,(zi (vG:Int)))]/\List.drop vG sG=BL/\bL cs' [bi aA aC,dY bf aG,h_ gN bY,iK jQ dM,bC k1 56 (zg [bJ.v,gK.v]),bi bJ aK.a_,eF gK aK.aL,aW k3 81 (.agg ([(.slice none 0 0),(.slice none 0 0),(.slice none 0 0),(zi 0)]:List Value).toArray),aW k4 47 (.agg ([(.slice none 0 0),(zi 0)]:List Value).toArray),aW k5 81 (zg [(.slice none 0 0),FP.v,Ad.v,(zi 0)]),wE Uj FP ww,ik Jw Ad Aa,aW k9 47 (zg [xx.v,(zi oI)]),ku xx nP,C8 tT sG,wo Jy xy nz,aW xw 138 (zg [(zi iY.aD),qZ.v]),bi qZ iY.Terms]/\Bi aC aG dM dA o7 iY BL vG ww Aa nP oI nz=some aaE) ⟨_,0,_,_,_,_,_,_,Ac,af2,Dg,aaF,Jv,⟨(some ⟨ao4,0,none⟩),0,1⟩,(ao4::[]),rfl,df,rfl,bT,hF⟩ ?_
   rintro ao5 _ _ ⟨aNt,vG,BL,ww,Aa,nP,oI,nz,FP,Uj,Ad,Jw,xx,xy,Jy,rfl,rfl,anK,hE,hF⟩
   refine Kb hE sG (fun aLx=>?_)
   rcases BL with _|⟨l8,BL⟩
   · have aAg:=dn anK
     rw[Bi]at hF
     refine iq ?_
     refine mQ ?_
     refine kP ?_
     cases hF
     exact⟨_,_,_,_,_,FP,Uj,Ad,Jw,xx,xy,Jy,_,rfl,df,bT⟩
   obtain⟨aAg,aai,aAh⟩:=kH anK
   rw[Bi]at hF
   refine iq ?_
   refine mP ?_
   refine au ?_
   obtain⟨NI,ayP,aAi⟩:=bind_some hF
   refine pU (fun f' cs'=>∃(T9:List ag)(T_:List aj)(Ua:List aS)(Ub:Int)(Uc:List aN)(aaK:Sv)(af6:List Nat)(aaL:Sv)(af7:List Nat)(aaM aaN:Sv)(af8:List Nat)(g:Fr),NI=(T9,T_,Ua,Ub,Uc)/\f'=dm g [(0,aA.v),(1,bf.v),(3,gN.v),(4,jQ.v),(6,(zi dA)),(9,(pz k1)),(14,(pz k3)),(15,(pz k4)),(16,(pz k5)),(17,(pz k9)),(18,tT.v),(19,(zi (tQ:Int))),(20,aaN.v),(21,(pz xw)),(22,(zi (vG:Int)))]/\bL cs' [bi aA aC,dY bf aG,h_ gN bY,iK jQ dM,bC k1 56 (zg [bJ.v,gK.v]),bi bJ aK.a_,eF gK aK.aL,aW k3 81 (.agg ([(.slice none 0 0),(.slice none 0 0),(.slice none 0 0),(zi 0)]:List Value).toArray),aW k4 47 (.agg ([(.slice none 0 0),(zi 0)]:List Value).toArray),aW k5 81 (zg [(.slice none 0 0),aaK.v,aaL.v,(zi 0)]),wE af6 aaK T9,ik af7 aaL T_,aW k9 47 (zg [aaM.v,(zi Ub)]),ku aaM Ua,C8 tT sG,wo af8 aaN Uc,aW xw 138 (zg [(zi iY.aD),qZ.v]),bi qZ iY.Terms]) ?_ ?_
   · replace hF:=ayP
     refine gU (iQ [0,1,2,3,4,5,6,7,8,9,10,11,12,13,14,15,16,17,20,18,19,21] [0,0,3,7,15,0,0,0,192,448,960,2016,4064,0,0,0,49152,114688,262112,524287,0,2097151] [18,21] mixed (by decide+kernel) ?_)
     refine jF ?_
     refine Di ae_ (fun aNu aNv=>?_)
     refine du ?_
     refine Dl aev ?_
     refine pu ?_
     refine Di ae_ (fun aNw aNx=>?_)
     refine du ?_
     refine Dl aev ?_
     refine zI hF fun aaD aMs aAj hF=>?_
     refine Di aAj (fun aNy aNz=>?_)
     refine xE (Ie aaD) Ig (fun aDQ=>?_)
     refine dF rfl .no (.t (.t (.t (.t (.t (.t (.t (.t (.t (.t (.t (.t (.t (.t (.t (.t (.t (.t (.t (.t .h)))))))))))))))))))) (fun ha hp=>lm aar.h zZ.h.sz rfl (EN ha (.tmp rfl rfl) rfl) hp.2 rfl) ?_
     refine jF ?_
     refine Di aai (fun aNA aNB=>?_)
     refine UO (L6 l8) L8 (fun ao6=>?_)
     refine jw rfl .no rfl (fun ha=>vW (g:=true) nD.h rfl rfl) (fun ao7=>?_)
     refine bnd hF fun Ab aAk hF=>dx rfl rfl .no (.rd .q4 rfl (.rd (.t (.t (.t (.t (.t (.t (.t (.t (.t (.t (.t (.t (.t (.t (.t (.t (.t (.t (.t (.t (.t (.t (.t (.t (.t .h))))))))))))))))))))))))) rfl (.rd (.t .h) rfl (.rd .q2 rfl .nil)))) (.own .h (fun _ h=>h) (.aV rfl .nil)) (fun ha=>CG (post':=fun yM:Sv×List Nat=>[bi yM.1 Ab]) (fun yM=>(.cO .h aX bT)) (cK aGh.h (.cons (EN ha (.tmp rfl rfl) rfl) (.cons (EN ha (.tmp rfl rfl) rfl) (.cons (EN ha (.tmp rfl rfl) rfl) .nil))) (@as_ aaD aDQ iY qZ l8 ao6.1 ao6.2 _ aAk))) (fun yM=>?_)
     refine dw rfl .no (fun ha=>iy nD.h rfl (vs:=[(zi o7.Method),yM.1.v]) (.cons (EN ha (.tmp rfl rfl) rfl) (.cons (EN ha (.tmp rfl rfl) rfl) .nil)) (cells:=[(zi o7.Method),yM.1.v]) rfl) ?_
     refine dx rfl rfl .no (.cons (.t .h) .nil) (.aV rfl (.aV rfl .nil)) (fun ha=>iO (e':=(zg [(zi o7.Method),yM.1.v])) (v:=(zg [(zi o7.Method),yM.1.v])) nD.h.sz (EN ha (.tmp rfl rfl) rfl) (EN ha (.tmp rfl rfl) rfl) rfl rfl rfl rfl rfl) (fun _=>?_)
     refine du ?_
     refine lN ?_
     refine bnd hF fun wy aAl hF=>qM (arX.h aAl) (fun af9=>?_)
     refine au ?_
     refine zx ?_
     refine zx ?_
     refine kP ?_
     refine Ci hF (fun aAm hF=>?_) (fun aAm hF=>?_)
     · refine iQ [0,1,2,3,4,5,6,7,8,9] [0,0,2,7,15,0,32,0,255,511] [8] mixed (by decide+kernel) ?_
       refine jF ?_
       refine dF rfl .no (.t .h) (fun ha hp=>gy (v:=(zi o7.Method)) wL.h (EN ha (.tmp rfl rfl) rfl) hp.2 rfl rfl) ?_
       refine zI hF fun af0 aMt aAn hF=>?_
       refine Di aAn (fun aNC aND=>?_)
       refine xE (Ie af0) Ig (fun aNE=>?_)
       refine du ?_
       refine dF rfl .no .q3 (fun ha hp=>gy (v:=yM.1.v) ry.h (EN ha (.tmp rfl rfl) rfl) hp.2 rfl rfl) ?_
       refine du ?_
       refine bnd hF fun nA aAo hF=>Dx1 (ata.h aAo) (fun Dh=>?_)
       refine jF ?_
       refine dO ?_
       refine lJ rfl (gq (g:=true) uD.h nD.h fG (vs:=[(zg [(zi o7.Method),yM.1.v])]) rfl rfl rfl (by intro v hv; simp at hv; rcases hv with rfl<;>rfl)) (fun aNF=>?_)
       refine mo (.cons .h (.rd .q5 rfl .nil)) (gu (Ro:=(az kN)) (E:=85) (F:=([]++[])) (xs:=([(⟨o7.Method,Ab⟩:ag)]:List ag)) (iV (abv (a:=(⟨o7.Method,Ab⟩:ag))) fU dS) rfl rfl) ?_
       refine bnd hF fun vF aAp hF=>iZ (.cons (.t (.t (.t (.t (.t (.t (.t (.t (.t (.t (.t (.t (.t (.t (.t (.t (.t (.t (.t (.t (.t (.t (.t (.t .h)))))))))))))))))))))))) (.cons .h .nil)) (iU (Ro:=(az kN)) uD.h N7 nD.h rfl rfl rfl (.tmp rfl rfl) (.tmp rfl rfl) aAp kJ) (fun tV=>?_)
       refine au ?_
       refine As (zg [(.slice none 0 0),tV.1.v,Ad.v,(zi 0)]) ?_
       refine au ?_
       obtain⟨af1,ayQ,aAq⟩:=bind_some hF
       refine au ?_
       refine qo (fun f' cs'=>∃(TZ:Bool)(g:Fr),TZ=af1/\f'=dm g [(0,aA.v),(1,bf.v),(3,gN.v),(4,jQ.v),(6,(zi dA)),(9,(pz k1)),(14,(pz k3)),(15,(pz k4)),(16,(pz k5)),(17,(pz k9)),(18,tT.v),(19,(zi (tQ:Int))),(20,xy.v),(21,(pz xw)),(22,(zi (vG:Int))),(23,(pz ao7)),(24,Dh.1.v),(141,(.bool TZ))]/\bL cs' [bi aA aC,dY bf aG,h_ gN bY,iK jQ dM,bC k1 56 (zg [bJ.v,gK.v]),bi bJ aK.a_,eF gK aK.aL,aW k3 81 (.agg ([(.slice none 0 0),(.slice none 0 0),(.slice none 0 0),(zi 0)]:List Value).toArray),aW k4 47 (.agg ([(.slice none 0 0),(zi 0)]:List Value).toArray),aW k5 81 (zg [(.slice none 0 0),tV.1.v,Ad.v,(zi 0)]),wE tV.2 tV.1 vF,ik Jw Ad Aa,aW k9 47 (zg [xx.v,(zi oI)]),ku xx nP,C8 tT sG,wo Jy xy nz,aW xw 138 (zg [(zi iY.aD),qZ.v]),bi qZ iY.Terms,aW ao7 85 (zg [(zi o7.Method),yM.1.v]),bi yM.1 Ab,ik Dh.2 Dh.1 nA]) ?_ ?_
       · replace hF:=ayQ
         refine fI ?_
         rcases kQ (decide (((nP.length:Int):Int)<100))with Tp|Tp
         · rw[Tp]
           try rw[Tp]at hF; dsimp only[eZ,eY]at hF
           exact jP hF
         rw[Tp]
         try rw[Tp]at hF; dsimp only[eZ,eY]at hF
         refine fI ?_
         refine bnd hF fun ao0 aAr hF=>oO (asI.h aAr) (fun _=>?_)
         exact jP hF
       rintro _ _ ⟨TZ,aNG,rfl,rfl,hE⟩
       replace hF:=aAq
       try dsimp only at hF
       refine gV hE ?_
       refine Ci hF (fun aAs hF=>?_) (fun aAs hF=>?_)
       · refine uq (.t (.t (.t (.t (.t (.t (.t (.t (.t (.t (.t (.t (.t (.t (.t (.t (.t (.t (.t (.t .h)))))))))))))))))))) aX ?_
         refine fI ?_
         refine bnd hF fun z_ aAt hF=>qM (atP.h aAt) (fun aaO=>?_)
         refine As (zg [aaO.v,(zi z_.Age)]) ?_
         refine fI ?_
         refine gU (kI (m:=nA.length) (fun ao8 f' cs'=>∃(g:Fr)(Da:Nat)(BI FM:List aj)(NK:Sv)(af_:List Nat),ao8=BI.length/\f'=dm g [(0,aA.v),(1,bf.v),(3,gN.v),(4,jQ.v),(6,(zi dA)),(9,(pz k1)),(14,(pz k3)),(15,(pz k4)),(16,(pz k5)),(17,(pz k9)),(18,tT.v),(19,(zi (tQ:Int))),(20,xy.v),(21,(pz xw)),(22,(zi (vG:Int))),(24,Dh.1.v),(26,(zi (Da:Int)))]/\List.drop Da nA=BI/\bL cs' [bi aA aC,dY bf aG,h_ gN bY,iK jQ dM,bC k1 56 (zg [bJ.v,gK.v]),bi bJ aK.a_,eF gK aK.aL,aW k3 81 (.agg ([(.slice none 0 0),(.slice none 0 0),(.slice none 0 0),(zi 0)]:List Value).toArray),aW k4 47 (.agg ([(.slice none 0 0),(zi 0)]:List Value).toArray),aW k5 81 (zg [(.slice none 0 0),tV.1.v,NK.v,(zi 0)]),wE tV.2 tV.1 vF,ik af_ NK FM,aW k9 47 (zg [aaO.v,(zi z_.Age)]),ku aaO z_.Entries,C8 tT sG,wo Jy xy nz,aW xw 138 (zg [(zi iY.aD),qZ.v]),bi qZ iY.Terms,iK Dh.1 nA]/\G9 iY nz l8 nA vF z_ BI Da FM=some NI) ⟨_,0,_,_,Ad,Jw,rfl,df,rfl,bT,hF⟩ ?_)
         rintro ao8 _ _ ⟨aNH,Da,BI,FM,NK,af_,rfl,rfl,anL,hE,hF⟩
         refine Kb hE nA (fun aLy=>?_)
         rcases BI with _|⟨aaA,BI⟩
         · have aAu:=dn anL
           rw[G9]at hF
           refine iq ?_
           refine mQ ?_
           refine dO ?_
           refine qP [0,1,2,3,4,5,6,7,8,9,10] [0,0,0,6,14,30,0,0,254,511,1023] [8,9] mixed (by decide+kernel) ?_
           refine pu ?_
           refine Di aai (fun aNI aNJ=>?_)
           refine UO (L6 l8) L8 (fun ao9=>?_)
           refine jw rfl .no rfl (fun ha=>gq (g:=true) (len:=1) (parts:=[(0,.tmp 165)]) uw.h gB.h (.cons (EN ha (.tmp rfl rfl) rfl) .nil) (vs:=[(zg [ao9.1.v,ao9.2.v])]) rfl rfl rfl (by intro v hv; simp at hv; rcases hv with rfl<;>rfl)) (fun aDR=>?_)
           refine lQ (.cons .h (.rd .h rfl (.rd (.t .h) rfl .nil))) (gu (Ro:=(az sF)) (E:=152) (F:=([]++[])) (xs:=([l8]:List aN)) (iV Jp fU dS) rfl rfl) ?_
           refine dF rfl .no (.t (.t (.t (.t (.t (.t (.t (.t (.t (.t (.t (.t (.t (.t (.t (.t (.t (.t (.t (.t .h)))))))))))))))))))) (fun ha hp=>lm aar.h zZ.h.sz rfl (EN ha (.tmp rfl rfl) rfl) hp.2 rfl) ?_
           refine du ?_
           refine bnd hF fun aoR aAv hF=>pQ rfl rfl .no (.cons .h (.rd (.t (.t (.t (.t (.t (.t (.t (.t (.t (.t (.t (.t (.t (.t (.t (.t (.t (.t (.t (.t .h)))))))))))))))))))) rfl (.rd (.t (.t (.t (.t (.t (.t (.t (.t (.t (.t (.t (.t (.t (.t (.t (.t (.t (.t (.t (.t (.t .h))))))))))))))))))))) rfl .nil))) (.aV rfl (.aV rfl .nil)) (fun ha=>mH aX (fun _=>(.cons .nil)) (cK afG.h (.cons (EN ha (.tmp rfl rfl) rfl) (.cons (EN ha (.tmp rfl rfl) rfl) (.cons (EN ha (.tmp rfl rfl) rfl) .nil))) (@acV ([l8]:List aN) (⟨(some ⟨aDR,0,none⟩),1,1⟩) iY qZ nA Dh.1 _ aAv))) (fun aNK=>?_)
           refine bnd hF fun aoS aAw hF=>dx rfl rfl .no (.cons (.t (.t (.t (.t (.t (.t (.t (.t (.t (.t (.t (.t (.t (.t (.t (.t (.t (.t (.t (.t .h)))))))))))))))))))) (.cons (.t .h) .nil)) (.aV rfl (.aV rfl .nil)) (fun ha=>iU (Ro:=j3) uw.h NG gB.h rfl rfl rfl (EN ha (.tmp rfl rfl) rfl) (EN ha (.tmp rfl rfl) rfl) aAw kJ) (fun ao_=>?_)
           refine jF ?_
           cases hF
           exact⟨_,_,_,_,_,tV.1,tV.2,NK,af_,aaO,ao_.1,ao_.2,_,rfl,df,bT⟩
         obtain⟨aAu,aAx,aAy⟩:=kH anL
         rw[G9]at hF
         refine iq ?_
         refine mP ?_
         refine eu ?_
         refine qP [0,1,2,3,4,5,6,7,8] [0,1,0,0,12,28,63,127,255] [6,8] mixed (by decide+kernel) ?_
         refine du ?_
         refine dF rfl .no .q9 (fun ha hp=>gy (v:=NK.v) abt.h (EN ha (.tmp rfl rfl) rfl) hp.2 rfl rfl) ?_
         refine jF ?_
         refine Di aAx (fun aNL aNM=>?_)
         refine xE (QL aaA) QM (fun aDS=>?_)
         refine bnd hF fun aoT aAz hF=>pQ rfl rfl .no (.cons .q13 (.rd .h rfl .nil)) (.aV rfl .nil) (fun ha=>mH aX (fun _=>(.cons .nil)) (cK afF.h (.cons (EN ha (.tmp rfl rfl) rfl) (.cons (EN ha (.tmp rfl rfl) rfl) .nil)) (@ac2 FM NK aaA aDS _ aAz))) (fun af'=>?_)
         refine du ?_
         refine dx rfl rfl .no (.cons .q13 .nil) (.aV rfl .nil) (fun ha=>iO (e':=(zg [(.slice none 0 0),tV.1.v,af'.1.v,(zi 0)])) agT.h.sz (EN ha (.tmp rfl rfl) rfl) (EN ha (.tmp rfl rfl) rfl) rfl rfl rfl rfl rfl) (fun _=>?_)
         refine du ?_
         refine fI ?_
         rw[wk Da]
         exact⟨_,lT _,_,Da+1,BI,_,af'.1,af'.2,rfl,df,aAy,bT,hF⟩
       refine fI ?_
       refine gU (uq (.t (.t (.t (.t (.t (.t (.t (.t (.t (.t (.t (.t (.t (.t (.t (.t (.t (.t (.t (.t .h)))))))))))))))))))) aX ?_)
       refine kI (m:=nA.length) (fun ao' f' cs'=>∃(g:Fr)(Db:Nat)(BJ FN:List aj)(NL:Sv)(aga:List Nat),ao'=BJ.length/\f'=dm g [(0,aA.v),(1,bf.v),(3,gN.v),(4,jQ.v),(6,(zi dA)),(9,(pz k1)),(14,(pz k3)),(15,(pz k4)),(16,(pz k5)),(17,(pz k9)),(18,tT.v),(19,(zi (tQ:Int))),(20,xy.v),(21,(pz xw)),(22,(zi (vG:Int))),(24,Dh.1.v),(26,(zi (Db:Int)))]/\List.drop Db nA=BJ/\bL cs' [bi aA aC,dY bf aG,h_ gN bY,iK jQ dM,bC k1 56 (zg [bJ.v,gK.v]),bi bJ aK.a_,eF gK aK.aL,aW k3 81 (.agg ([(.slice none 0 0),(.slice none 0 0),(.slice none 0 0),(zi 0)]:List Value).toArray),aW k4 47 (.agg ([(.slice none 0 0),(zi 0)]:List Value).toArray),aW k5 81 (zg [(.slice none 0 0),tV.1.v,NL.v,(zi 0)]),wE tV.2 tV.1 vF,ik aga NL FN,aW k9 47 (zg [xx.v,(zi oI)]),ku xx nP,C8 tT sG,wo Jy xy nz,aW xw 138 (zg [(zi iY.aD),qZ.v]),bi qZ iY.Terms,iK Dh.1 nA]/\G_ iY nP oI nz l8 nA vF BJ Db FN=some NI) ⟨_,0,_,_,Ad,Jw,rfl,df,rfl,bT,hF⟩ ?_
       rintro ao' _ _ ⟨aNN,Db,BJ,FN,NL,aga,rfl,rfl,anM,hE,hF⟩
       refine Kb hE nA (fun aLz=>?_)
       rcases BJ with _|⟨aaB,BJ⟩
       · have aAA:=dn anM
         rw[G_]at hF
         refine iq ?_
         refine mQ ?_
         refine dO ?_
         refine qP [0,1,2,3,4,5,6,7,8,9,10] [0,0,0,6,14,30,0,0,254,511,1023] [8,9] mixed (by decide+kernel) ?_
         refine pu ?_
         refine Di aai (fun aNO aNP=>?_)
         refine UO (L6 l8) L8 (fun apa=>?_)
         refine jw rfl .no rfl (fun ha=>gq (g:=true) (len:=1) (parts:=[(0,.tmp 165)]) uw.h gB.h (.cons (EN ha (.tmp rfl rfl) rfl) .nil) (vs:=[(zg [apa.1.v,apa.2.v])]) rfl rfl rfl (by intro v hv; simp at hv; rcases hv with rfl<;>rfl)) (fun aDT=>?_)
         refine lQ (.cons .h (.rd .h rfl (.rd (.t .h) rfl .nil))) (gu (Ro:=(az sF)) (E:=152) (F:=([]++[])) (xs:=([l8]:List aN)) (iV Jp fU dS) rfl rfl) ?_
         refine dF rfl .no (.t (.t (.t (.t (.t (.t (.t (.t (.t (.t (.t (.t (.t (.t (.t (.t (.t (.t (.t (.t .h)))))))))))))))))))) (fun ha hp=>lm aar.h zZ.h.sz rfl (EN ha (.tmp rfl rfl) rfl) hp.2 rfl) ?_
         refine du ?_
         refine bnd hF fun aoU aAB hF=>pQ rfl rfl .no (.cons .h (.rd (.t (.t (.t (.t (.t (.t (.t (.t (.t (.t (.t (.t (.t (.t (.t (.t (.t (.t (.t (.t .h)))))))))))))))))))) rfl (.rd (.t (.t (.t (.t (.t (.t (.t (.t (.t (.t (.t (.t (.t (.t (.t (.t (.t (.t (.t (.t (.t .h))))))))))))))))))))) rfl .nil))) (.aV rfl (.aV rfl .nil)) (fun ha=>mH aX (fun _=>(.cons .nil)) (cK afG.h (.cons (EN ha (.tmp rfl rfl) rfl) (.cons (EN ha (.tmp rfl rfl) rfl) (.cons (EN ha (.tmp rfl rfl) rfl) .nil))) (@acV ([l8]:List aN) (⟨(some ⟨aDT,0,none⟩),1,1⟩) iY qZ nA Dh.1 _ aAB))) (fun aNQ=>?_)
         refine bnd hF fun aoV aAC hF=>dx rfl rfl .no (.cons (.t (.t (.t (.t (.t (.t (.t (.t (.t (.t (.t (.t (.t (.t (.t (.t (.t (.t (.t (.t .h)))))))))))))))))))) (.cons (.t .h) .nil)) (.aV rfl (.aV rfl .nil)) (fun ha=>iU (Ro:=j3) uw.h NG gB.h rfl rfl rfl (EN ha (.tmp rfl rfl) rfl) (EN ha (.tmp rfl rfl) rfl) aAC kJ) (fun apb=>?_)
         refine jF ?_
         cases hF
         exact⟨_,_,_,_,_,tV.1,tV.2,NL,aga,xx,apb.1,apb.2,_,rfl,df,bT⟩
       obtain⟨aAA,aAD,aAE⟩:=kH anM
       rw[G_]at hF
       refine iq ?_
       refine mP ?_
       refine eu ?_
       refine qP [0,1,2,3,4,5,6,7,8] [0,1,0,0,12,28,63,127,255] [6,8] mixed (by decide+kernel) ?_
       refine du ?_
       refine dF rfl .no .q9 (fun ha hp=>gy (v:=NL.v) abt.h (EN ha (.tmp rfl rfl) rfl) hp.2 rfl rfl) ?_
       refine jF ?_
       refine Di aAD (fun aNR aNS=>?_)
       refine xE (QL aaB) QM (fun aDU=>?_)
       refine bnd hF fun aoW aAF hF=>pQ rfl rfl .no (.cons .q13 (.rd .h rfl .nil)) (.aV rfl .nil) (fun ha=>mH aX (fun _=>(.cons .nil)) (cK afF.h (.cons (EN ha (.tmp rfl rfl) rfl) (.cons (EN ha (.tmp rfl rfl) rfl) .nil)) (@ac2 FN NL aaB aDU _ aAF))) (fun agb=>?_)
       refine du ?_
       refine dx rfl rfl .no (.cons .q13 .nil) (.aV rfl .nil) (fun ha=>iO (e':=(zg [(.slice none 0 0),tV.1.v,agb.1.v,(zi 0)])) agT.h.sz (EN ha (.tmp rfl rfl) rfl) (EN ha (.tmp rfl rfl) rfl) rfl rfl rfl rfl rfl) (fun _=>?_)
       refine du ?_
       refine fI ?_
       rw[wk Db]
       exact⟨_,lT _,_,Db+1,BJ,_,agb.1,agb.2,rfl,df,aAE,bT,hF⟩
     refine fI ?_
     refine gU (uq .h aX ?_)
     refine kI (m:=wy.1.length) (fun apc f' cs'=>∃(g:Fr)(Dc:Nat)(BK FO:List aj)(NM:Sv)(agc:List Nat),apc=BK.length/\f'=dm g [(0,aA.v),(1,bf.v),(3,gN.v),(4,jQ.v),(6,(zi dA)),(9,(pz k1)),(14,(pz k3)),(15,(pz k4)),(16,(pz k5)),(17,(pz k9)),(18,tT.v),(19,(zi (tQ:Int))),(20,xy.v),(21,(pz xw)),(22,(zi (vG:Int))),(24,af9.1.v),(26,(zi (Dc:Int)))]/\List.drop Dc wy.1=BK/\bL cs' [bi aA aC,dY bf aG,h_ gN bY,iK jQ dM,bC k1 56 (zg [bJ.v,gK.v]),bi bJ aK.a_,eF gK aK.aL,aW k3 81 (.agg ([(.slice none 0 0),(.slice none 0 0),(.slice none 0 0),(zi 0)]:List Value).toArray),aW k4 47 (.agg ([(.slice none 0 0),(zi 0)]:List Value).toArray),aW k5 81 (zg [(.slice none 0 0),FP.v,NM.v,(zi 0)]),wE Uj FP ww,ik agc NM FO,aW k9 47 (zg [xx.v,(zi oI)]),ku xx nP,C8 tT sG,wo Jy xy nz,aW xw 138 (zg [(zi iY.aD),qZ.v]),bi qZ iY.Terms,iK af9.1 wy.1]/\Hd iY ww nP oI nz l8 wy BK Dc FO=some NI) ⟨_,0,_,_,Ad,Jw,rfl,df,rfl,bT,hF⟩ ?_
     rintro apc _ _ ⟨aNT,Dc,BK,FO,NM,agc,rfl,rfl,anN,hE,hF⟩
     refine Kb hE wy.1 (fun aLA=>?_)
     rcases BK with _|⟨aaC,BK⟩
     · have aAG:=dn anN
       rw[Hd]at hF
       refine iq ?_
       refine mQ ?_
       refine dO ?_
       refine qP [0,1,2,3,4,5,6,7,8,9,10] [0,0,0,6,14,30,0,0,254,511,1023] [8,9] mixed (by decide+kernel) ?_
       refine pu ?_
       refine Di aai (fun aNU aNV=>?_)
       refine UO (L6 l8) L8 (fun apd=>?_)
       refine jw rfl .no rfl (fun ha=>gq (g:=true) (len:=1) (parts:=[(0,.tmp 165)]) uw.h gB.h (.cons (EN ha (.tmp rfl rfl) rfl) .nil) (vs:=[(zg [apd.1.v,apd.2.v])]) rfl rfl rfl (by intro v hv; simp at hv; rcases hv with rfl<;>rfl)) (fun aDV=>?_)
       refine lQ (.cons .h (.rd .h rfl (.rd (.t .h) rfl .nil))) (gu (Ro:=(az sF)) (E:=152) (F:=([]++[])) (xs:=([l8]:List aN)) (iV Jp fU dS) rfl rfl) ?_
       refine dF rfl .no (.t (.t (.t (.t (.t (.t (.t (.t (.t (.t (.t (.t (.t (.t (.t (.t (.t (.t (.t (.t .h)))))))))))))))))))) (fun ha hp=>lm aar.h zZ.h.sz rfl (EN ha (.tmp rfl rfl) rfl) hp.2 rfl) ?_
       refine du ?_
       refine bnd hF fun aoX aAH hF=>pQ rfl rfl .no (.cons .h (.rd (.t (.t (.t (.t (.t (.t (.t (.t (.t (.t (.t (.t (.t (.t (.t (.t (.t (.t (.t (.t .h)))))))))))))))))))) rfl (.rd (.t (.t (.t (.t (.t (.t (.t (.t (.t (.t (.t (.t (.t (.t (.t (.t (.t (.t (.t (.t (.t .h))))))))))))))))))))) rfl .nil))) (.aV rfl (.aV rfl .nil)) (fun ha=>mH aX (fun _=>(.cons .nil)) (cK afG.h (.cons (EN ha (.tmp rfl rfl) rfl) (.cons (EN ha (.tmp rfl rfl) rfl) (.cons (EN ha (.tmp rfl rfl) rfl) .nil))) (@acV ([l8]:List aN) (⟨(some ⟨aDV,0,none⟩),1,1⟩) iY qZ wy.1 af9.1 _ aAH))) (fun aNW=>?_)
       refine bnd hF fun aoY aAI hF=>dx rfl rfl .no (.cons (.t (.t (.t (.t (.t (.t (.t (.t (.t (.t (.t (.t (.t (.t (.t (.t (.t (.t (.t (.t .h)))))))))))))))))))) (.cons (.t .h) .nil)) (.aV rfl (.aV rfl .nil)) (fun ha=>iU (Ro:=j3) uw.h NG gB.h rfl rfl rfl (EN ha (.tmp rfl rfl) rfl) (EN ha (.tmp rfl rfl) rfl) aAI kJ) (fun ape=>?_)
       refine jF ?_
       cases hF
       exact⟨_,_,_,_,_,FP,Uj,NM,agc,xx,ape.1,ape.2,_,rfl,df,bT⟩
     obtain⟨aAG,aAJ,aAK⟩:=kH anN
     rw[Hd]at hF
     refine iq ?_
     refine mP ?_
     refine eu ?_
     refine qP [0,1,2,3,4,5,6,7,8] [0,1,0,0,12,28,63,127,255] [6,8] mixed (by decide+kernel) ?_
     refine du ?_
     refine dF rfl .no .q9 (fun ha hp=>gy (v:=NM.v) abt.h (EN ha (.tmp rfl rfl) rfl) hp.2 rfl rfl) ?_
     refine jF ?_
     refine Di aAJ (fun aNX aNY=>?_)
     refine xE (QL aaC) QM (fun aDW=>?_)
     refine bnd hF fun aoZ aAL hF=>pQ rfl rfl .no (.cons .q13 (.rd .h rfl .nil)) (.aV rfl .nil) (fun ha=>mH aX (fun _=>(.cons .nil)) (cK afF.h (.cons (EN ha (.tmp rfl rfl) rfl) (.cons (EN ha (.tmp rfl rfl) rfl) .nil)) (@ac2 FO NM aaC aDW _ aAL))) (fun agd=>?_)
     refine du ?_
     refine dx rfl rfl .no (.cons .q13 .nil) (.aV rfl .nil) (fun ha=>iO (e':=(zg [(.slice none 0 0),FP.v,agd.1.v,(zi 0)])) agT.h.sz (EN ha (.tmp rfl rfl) rfl) (EN ha (.tmp rfl rfl) rfl) rfl rfl rfl rfl rfl) (fun _=>?_)
     refine du ?_
     refine fI ?_
     rw[wk Dc]
     exact⟨_,lT _,_,Dc+1,BK,_,agd.1,agd.2,rfl,df,aAK,bT,hF⟩
   rintro _ _ ⟨T9,T_,Ua,Ub,Uc,aaK,af6,aaL,af7,aaM,aaN,af8,aNZ,rfl,rfl,hE⟩
   replace hF:=aAi
   try dsimp only at hF
   refine gV hE ?_
   refine fI ?_
   rw[wk vG]
   exact⟨_,lT _,_,vG+1,BL,_,_,_,_,_,aaK,af6,aaL,af7,aaM,aaN,af8,rfl,df,aAh,bT,hF⟩
 rintro _ _ ⟨Ue,Uf,Ug,Uh,Ui,aaG,af3,aaH,af4,aaI,aaJ,af5,aN0,rfl,rfl,hE⟩
 replace hF:=aAe
 try dsimp only at hF
 refine gV hE ?_
 refine fI ?_
 rw[wk tQ]
 exact⟨_,lT _,_,tQ+1,BM,_,_,_,_,_,aaG,af3,aaH,af4,aaI,aaJ,af5,rfl,df,aAd,bT,hF⟩
instance atc:I7 27 t0 t26 t29 t32 t20 t23 t1 u31 Ih:=⟨fun h=>asJ h⟩
end Go.Proofs.YtlnefhbbbikmgabGreat
