/-
  Functions of the program as Lean functions, and that the calls return what these say. No conditions.
-/
import Derived.Test.YtlnefhbbbikmgabGreatAskQueryGI4
set_option maxRecDepth 100000
set_option maxHeartbeats 4000000
set_option linter.unusedVariables false
namespace Go.Proofs.YtlnefhbbbikmgabGreat
open Go Go.Fw
def G8(r7:(List Method))(fuel:Nat):List Query->Nat->(List Int)->(List aJ)->(List Step)->Int->Bool->Option (qF×Bool)
 |[],xP,Gt,Gu,Gw,xQ,zn=>some ((⟨(⟨Gt,Gu⟩:Query),Gw,xQ⟩:qF),zn)
 |zo::Cn,xP,Gt,Gu,Gw,xQ,zn=>((qL (zo.aL.length:Int) (false:Bool)).bind fun ark=>
     (acL fuel (⟨r7,zo.aL,[],[],0⟩:finder) ark [] 0).bind fun qH=>
     if ((!qH.2.oK.isEmpty)&&((!zn)||(decide ((qH.2.cost:Int)<xQ))))then (
       some (zo.a_,zo.aL,qH.2.oK,qH.2.cost,true))
     else (
       some (Gt,Gu,Gw,xQ,zn))).bind fun aia=>
   match aia with
   |(VQ,VR,VS,VT,VU)=>G8 r7 fuel Cn (xP+1) VQ VR VS VT VU
def Lp(fuel:Nat)(aC:List Int)(aG:List Method)(aK:Query):Option (qF×Bool):=
 (MG aC aG aK).bind fun r4=>
 if (!r4)then (
   some ((⟨(⟨[],[]⟩:Query),[],0⟩:qF),false))
 else (
   (Q8 aG).bind fun r7=>
   (Pf fuel aC aK).bind fun fF=>
   G8 r7 fuel fF 0 ([]:List Int) ([]:List aJ) ([]:List Step) 0 false)
theorem ar_{fuel:Nat}{aC:List Int}{aA:Sv}{aG:List Method}{bf:Sv}{aK:Query}{bJ gK:Sv}{R:qF×Bool}(hF:Lp fuel aC aG aK=some R):
   Fw.Spec Tryz.prog 40 [aA.v,bf.v,(zg [bJ.v,gK.v])] [bi aA aC,dY bf aG,bi bJ aK.a_,eF gK aK.aL] (fun p:Sv×Sv×Sv×List Nat=>(.tuple [(zg [p.1.v,p.2.1.v,p.2.2.1.v,(zi R.1.bK)]),(.bool R.2)].toArray)) (fun p=>[bi p.1 R.1.Query.a_,eF p.2.1 R.1.Query.aL,uy p.2.2.2 p.2.2.1 R.1.Steps]):=by
 refine Se 73 Tryz.func40 [.cell 6 76,.tmp 7] ?_
 intro H0 F0
 unfold Lp at hF
 refine au ?_
 refine j6 (fun k1=>?_)
 refine gI (fun k2=>?_)
 refine fw ?_
 refine aP (iy Dz.h rfl (vs:=[]) .nil (cells:=[(.slice none 0 0),(.slice none 0 0),(.slice none 0 0),(zi 0)]) rfl) ?_
 refine gI (fun k3=>?_)
 refine As (.agg ([(.slice none 0 0),(.slice none 0 0),(.slice none 0 0),(zi 0)]:List Value).toArray) ?_
 refine iq ?_
 refine bnd hF fun r4 hx5 hF=>oO (atT.h hx5) (fun _=>?_)
 refine eu ?_
 refine Ci hF (fun aEM hF=>?_) (fun aEM hF=>?_)
 · refine eu ?_
   refine As (.agg ([(.slice none 0 0),(.slice none 0 0),(.slice none 0 0),(zi 0)]:List Value).toArray) ?_
   refine fw ?_
   cases hF
   exact iW (⟨none,0,0⟩,⟨none,0,0⟩,⟨none,0,0⟩,[]) (.lZ rfl rfl .h rfl abu.h Dz.h.sz rfl rfl (.tmp rfl rfl .nil)) rfl (.conv .nil (zW (R:=ax) (E:=3)) (.cons .nil) (.conv .nil (zW (R:=l7) (E:=138)) (.cons .nil) (.conv .nil (jJ (Ro:=(az fZ)) (E:=155)) (.cons .nil) (.sel (.rd .q2 rfl (.rd (.t .h) rfl (.cons .h .nil)))))))
 refine fw ?_
 refine bnd hF fun r7 Kz hF=>qM (atg.h Kz) (fun p9=>?_)
 refine lN ?_
 refine bnd hF fun fF DR hF=>qM (arY.h DR) (fun kE=>?_)
 refine fw ?_
 refine gU ?_
 iterate 2 refine uq (.t .h) aX ?_
 refine kI (m:=fF.length) (fun arl f' cs'=>∃(g:Fr)(xP:Nat)(Cn:List Query)(Gt:List Int)(Gu:List aJ)(Gw:List Step)(xQ:Int)(zn:Bool)(Gx Gy GA:Sv)(VV:List Nat),arl=Cn.length/\f'=dm g [(6,(pz k2)),(8,(pz k3)),(9,(.bool zn)),(10,p9.1.v),(25,kE.1.v),(26,(zi (fF.length:Int))),(27,(zi (xP:Int)))]/\List.drop xP fF=Cn/\bL cs' [aW k2 76 (.agg ([(.slice none 0 0),(.slice none 0 0),(.slice none 0 0),(zi 0)]:List Value).toArray),aW k3 76 (zg [Gx.v,Gy.v,GA.v,(zi xQ)]),bi Gx Gt,eF Gy Gu,uy VV GA Gw,dY p9.1 r7,N9 kE.1 fF]/\G8 r7 fuel Cn xP Gt Gu Gw xQ zn=some R) ⟨_,0,_,_,_,_,_,_,⟨none,0,0⟩,⟨none,0,0⟩,⟨none,0,0⟩,[],rfl,df,rfl,(.conv .nil (zW (R:=ax) (E:=3)) (.cons .nil) (.conv .nil (zW (R:=l7) (E:=138)) (.cons .nil) (.conv .nil (jJ (Ro:=(az fZ)) (E:=155)) (.cons .nil) bT))),hF⟩ ?_
 rintro arl _ _ ⟨aQF,xP,Cn,Gt,Gu,Gw,xQ,zn,Gx,Gy,GA,VV,rfl,rfl,apm,hE,hF⟩
 refine Kb hE fF (fun aMz=>?_)
 rcases Cn with _|⟨zo,Cn⟩
 · have aEN:=dn apm
   rw[G8]at hF
   refine dO ?_
   refine mQ ?_
   refine iq ?_
   refine As (zg [Gx.v,Gy.v,GA.v,(zi xQ)]) ?_
   refine fw ?_
   cases hF
   exact iW (Gx,Gy,GA,VV) (.lZ rfl rfl .h rfl abu.h Dz.h.sz rfl rfl (.tmp rfl rfl .nil)) rfl (.sel (.rd .q2 rfl (.rd .q3 rfl (.cons .q4 .nil))))
 obtain⟨aEN,hx255,aEO⟩:=kH apm
 rw[G8]at hF
 refine dO ?_
 refine mP ?_
 refine au ?_
 obtain⟨aia,aAT,aEP⟩:=bind_some hF
 refine pU (fun f' cs'=>∃(VQ:List Int)(VR:List aJ)(VS:List Step)(VT:Int)(VU:Bool)(acb acd ace:Sv)(aib:List Nat)(g:Fr),aia=(VQ,VR,VS,VT,VU)/\f'=dm g [(6,(pz k2)),(8,(pz k3)),(9,(.bool VU)),(10,p9.1.v),(25,kE.1.v),(26,(zi (fF.length:Int))),(27,(zi (xP:Int)))]/\bL cs' [aW k2 76 (.agg ([(.slice none 0 0),(.slice none 0 0),(.slice none 0 0),(zi 0)]:List Value).toArray),aW k3 76 (zg [acb.v,acd.v,ace.v,(zi VT)]),bi acb VQ,eF acd VR,uy aib ace VS,dY p9.1 r7,N9 kE.1 fF]) ?_ ?_
 · replace hF:=aAT
   refine gU (eB (Jk (a:=zo) aCs.h F_.h.sz (.tmp rfl rfl) (.tmp rfl rfl) .q6 (aRX xP) hx255 (fun aQG aQH=>?_)))
   refine abk (Zz zo) ZA (fun rD=>?_)
   refine gI (fun arn=>?_)
   refine As (zg [rD.1.v,rD.2.v]) ?_
   refine fI ?_
   refine aP (iy aCu.h rfl (vs:=[p9.1.v,rD.2.v]) fG (cells:=[p9.1.v,rD.2.v,(.slice none 0 0),(.slice none 0 0),(zi 0)]) rfl) ?_
   refine AbW (fun Oh=>?_)
   refine iq ?_
   refine bnd hF fun ark apn hF=>?_
   have apo:=ad6 apn
   refine lJ rfl (akz (g:=true) (c:=(zo.aL.length:Int)) NH.h Ee.h rfl rfl (by decide) (.tmp rfl rfl) apo.2.1 apo.2.2) (fun aHP=>?_)
   refine mo (.cons .h .nil) (al2 (Ro:=(az rdBool)) (E:=4) (a:=(false:Bool)) apn (fun _=>⟨rfl,rfl⟩)) ?_
   refine mo .nil (jJ (Ro:=(az fZ)) (E:=155)) ?_
   refine mo .nil (axb (Ro:=(az fZ)) (E:=155)) ?_
   refine mo .nil (zW (R:=ax) (E:=3)) ?_
   refine bnd hF fun qH aEQ hF=>Cx6 (@ar9 _ _ _ _ _ (⟨none,0,0⟩) _ (⟨none,0,0⟩) _ _ (⟨(some ⟨aHP,0,none⟩),(zo.aL.length:Int).toNat,1⟩) _ _ (⟨none,0,0⟩) _ _ aEQ) (fun rE=>?_)
   refine au ?_
   refine iQ [0,1,2,3,4,5,6,7,8,9,10,11,12,13,14,15,16,17] [0,1,3,7,15,31,63,127,255,511,1023,2047,4095,511,8703,32767,65535,131071] [] mixed (by decide+kernel) ?_
   refine afj (fun f' cs'=>∃(g:Fr),f'=dm g [(6,(pz k2)),(8,(pz k3)),(9,(.bool zn)),(10,p9.1.v),(12,(pz arn)),(13,(pz Oh)),(25,kE.1.v),(26,(zi (fF.length:Int))),(27,(zi (xP:Int))),(59,(.bool ((!qH.2.oK.isEmpty)&&((!zn)||(decide ((qH.2.cost:Int)<xQ))))))]/\bL cs' [aW k2 76 (.agg ([(.slice none 0 0),(.slice none 0 0),(.slice none 0 0),(zi 0)]:List Value).toArray),aI (ak 3 ax) (.slice none 0 0) ([]:List Int),aW k3 76 (zg [Gx.v,Gy.v,GA.v,(zi xQ)]),bi Gx Gt,eF Gy Gu,uy VV GA Gw,dY p9.1 r7,aW arn 56 (zg [rD.1.v,rD.2.v]),bi rD.1 zo.a_,eF rD.2 zo.aL,aW Oh 180 (zg [rE.2.1.v,rE.2.2.1.v,rE.2.2.2.1.v,rE.2.2.2.2.2.1.v,(zi qH.2.cost)]),dY rE.2.1 qH.2.l,eF rE.2.2.1 qH.2.atoms,uy rE.2.2.2.2.1 rE.2.2.2.1 qH.2.steps,ah (pq 155 (az fZ)) rE.2.2.2.2.2.2 rE.2.2.2.2.2.1.v qH.2.oK,N9 kE.1 fF]) ?_ ?_
   · refine du ?_
     refine dw rfl .no (fun ha=>ni (v:=(pz Oh)) rfl (EN ha (.tmp rfl rfl) rfl)) ?_
     refine du ?_
     refine dF rfl .no (.t .h) (fun ha hp=>gy (v:=rE.2.2.2.2.2.1.v) UY.h (EN ha (.tmp rfl rfl) rfl) hp.2 rfl rfl) ?_
     refine dF rfl .no .q5 (fun ha hp=>axd (Ro:=(az fZ)) sM.h (EN ha (.tmp rfl rfl) rfl) hp) ?_
     refine du ?_
     rcases kQ (!qH.2.oK.isEmpty)with Uo|Uo
     · rw[Uo]
       try rw[Uo]at hF; dsimp only[eZ,eY]at hF
       refine pu ?_
       rcases kQ (!zn)with Uq|Uq
       · rw[Uq]
         try rw[Uq]at hF; dsimp only[eZ,eY]at hF
         refine aC8 ?_
         exact⟨_,df,bT⟩
       rw[Uq]
       try rw[Uq]at hF; dsimp only[eZ,eY]at hF
       refine du ?_
       refine dw rfl (.on 50 rfl rfl rfl) (fun ha=>ni (v:=(pz Oh)) rfl (EN ha (.tmp rfl rfl) rfl)) ?_
       refine du ?_
       refine dF rfl (.on 50 rfl rfl rfl) (.t .h) (fun ha hp=>gy (v:=(zi qH.2.cost)) wL.h (EN ha (.tmp rfl rfl) rfl) hp.2 rfl rfl) ?_
       refine du ?_
       refine dF rfl (.on 50 rfl rfl rfl) .q12 (fun ha hp=>gy (v:=(zi xQ)) wL.h (EN ha (.tmp rfl rfl) rfl) hp.2 rfl rfl) ?_
       refine Az ?_
       exact⟨_,df,bT⟩
     rw[Uo]
     try rw[Uo]at hF; dsimp only[eZ,eY]at hF
     refine aC9 ?_
     exact⟨_,df,bT⟩
   rintro _ _ ⟨aQI,rfl,hE⟩
   refine gV hE ?_
   refine Ci hF (fun aER hF=>?_) (fun aER hF=>?_)
   · refine qP [0,1,2,3,4,5,6,7,8,9,10,11] [0,0,2,6,14,0,32,96,224,511,1023,2047] [10] mixed (by decide+kernel) ?_
     refine dF rfl .no .q7 (fun ha hp=>lm abr.h F_.h.sz rfl (EN ha (.tmp rfl rfl) rfl) hp.2 rfl) ?_
     refine du ?_
     refine dw rfl .no (fun ha=>ni (v:=(pz Oh)) rfl (EN ha (.tmp rfl rfl) rfl)) ?_
     refine du ?_
     refine dF rfl .no .q10 (fun ha hp=>gy (v:=rE.2.2.2.2.2.1.v) UY.h (EN ha (.tmp rfl rfl) rfl) hp.2 rfl rfl) ?_
     refine du ?_
     refine dw rfl .no (fun ha=>ni (v:=(pz Oh)) rfl (EN ha (.tmp rfl rfl) rfl)) ?_
     refine du ?_
     refine dF rfl .no .q10 (fun ha hp=>gy (v:=(zi qH.2.cost)) wL.h (EN ha (.tmp rfl rfl) rfl) hp.2 rfl rfl) ?_
     refine dw rfl .no (fun ha=>iy Dz.h rfl (vs:=[(zg [rD.1.v,rD.2.v]),rE.2.2.2.2.2.1.v,(zi qH.2.cost)]) (.cons (EN ha (.tmp rfl rfl) rfl) (.cons (EN ha (.tmp rfl rfl) rfl) (.cons (EN ha (.tmp rfl rfl) rfl) .nil))) (cells:=[rD.1.v,rD.2.v,rE.2.2.2.2.2.1.v,(zi qH.2.cost)]) rfl) ?_
     refine lQ (.cons .q14 .nil) (ax9 (Ro:=(az fZ))) ?_
     refine dx rfl rfl .no (.cons .q3 .nil) (.aV rfl (.aV rfl (.aV rfl .nil))) (fun ha=>iO (e':=(zg [rD.1.v,rD.2.v,rE.2.2.2.2.2.1.v,(zi qH.2.cost)])) (v:=(zg [rD.1.v,rD.2.v,rE.2.2.2.2.2.1.v,(zi qH.2.cost)])) Dz.h.sz (EN ha (.tmp rfl rfl) rfl) (EN ha (.tmp rfl rfl) rfl) rfl rfl rfl rfl rfl) (fun _=>?_)
     refine jF ?_
     cases hF
     exact⟨_,_,_,_,_,rD.1,rD.2,rE.2.2.2.2.2.1,rE.2.2.2.2.2.2,_,rfl,df,bT⟩
   refine au ?_
   cases hF
   exact⟨_,_,_,_,_,Gx,Gy,GA,VV,_,rfl,df,bT⟩
 rintro _ _ ⟨VQ,VR,VS,VT,VU,acb,acd,ace,aib,aQJ,rfl,rfl,hE⟩
 replace hF:=aEP
 try dsimp only at hF
 refine gV hE ?_
 refine dO ?_
 rw[wk xP]
 exact⟨_,lT _,_,xP+1,Cn,_,_,_,_,_,acb,acd,ace,aib,rfl,df,aEO,bT,hF⟩
instance asf:IF3 40 t0 t26 t29 u37 Lp:=⟨fun h=>ar_ h⟩
def QE(aG:List Method)(aK:Query):List Step->Nat->(List Bool)->(List Int)->Option (Bool)
 |[],k94,wU,OE=>some true
 |x96::aAU,k94,wU,OE=>((mG x96.aJ 0 (IntKind.i64.wrap ((aK.aL.length:Int)-1))).bind fun abT=>
     bif (!abT)then (some true)
     else ((ix wU x96.aJ).bind fun x115=>
       bif x115 then (some true)
       else ((mG x96.Method 0 (IntKind.i64.wrap ((aG.length:Int)-1))).bind fun aHQ=>
         bif (!aHQ)then (some true)
         else ((ix aG x96.Method).bind fun aHR=>
           (ix aK.aL x96.aJ).bind fun aHS=>
           (MX aHR aHS OE).bind fun aHT=>
           some (!aHT))))).bind fun ahp=>
   match ahp with
   |c141=>if c141 then (
       some false)
     else (
       (j5 (decide (0<=x96.aJ)&&decide (x96.aJ<(wU.length:Int)))).bind fun aHU=>
       (some (wU.set (x96.aJ).toNat true)).bind fun aro=>
       (ix aK.aL x96.aJ).bind fun x150=>
       (app OE x150.Terms).bind fun z157=>
       QE aG aK aAU (k94+1) aro z157)
def Sa(aC:List Int)(aG:List Method)(aK:Query)(bY:List Step):Option (Bool):=
 ((MG aC aG aK).bind fun r4=>
   bif (!r4)then (some true)
   else (some (((bY.length:Int):Int)!=(aK.aL.length:Int)))).bind fun o2=>
 match o2 with
 |c8=>if c8 then (
     some false)
   else (
     (qL (aK.aL.length:Int) (false:Bool)).bind fun z9=>
     QE aG aK bY 0 z9 ([]:List Int))
instance aKb:I4 133 t0 t26 t29 t32 u20 Sa:=⟨by
 intro _ _ _ _ aK _ _ _ _ _ hF
 refine' en Tryz.func133 (Sa.eq_1 ..)
 refine' rc (q1 25 tB) [1,3,6]
 refine' A7 (a:=(false:Bool)) (az rdBool) hF (fun _=>⟨rfl,rfl⟩) ?_
 clear hF
 intro _ _ hF
 refine' go
 rename_i k12 _
 refine' Wd (.mk (β:=(List Bool)×(List Int)) (ι:=List Nat×Sv×List Nat) (fun|(wU,OE),i2=>[(10,i2.2.1.v)]) (fun|(wU,OE),i2=>[ah (aa 4 (az rdBool)) i2.1 (.slice (some ⟨k12,0,none⟩) (aK.aL.length:Int).toNat 1) wU,ah (aa 3 (az ax)) i2.2.2 i2.2.1.v OE]) [10] [(.slice (some ⟨k12,0,none⟩) (aK.aL.length:Int).toNat 1)]) 33 [1,6,9,31,32]<;>rw[QE]at hF<;>refine' go
 refine' qj ?_
 refine' go
 refine' dc (q1 76 tB) [1,6,9,10,12,31,32,33]
 replace hF:=bind_some hF
 obtain⟨x115,Jr,hF⟩:=hF
 have afQ:=lX Jr
 obtain⟨aDa,afR⟩:=kU Jr
 refine azt NH.h Ee.h.sz rfl (.on 45 rfl rfl rfl) aU aU rfl rfl bQ afQ (fun aqk afS=>?_)
 refine' go
 refine aB3 (w:=(.bool x115)) ag4.h rfl (.on 45 rfl rfl rfl) aU rfl bQ afS afR aox ?_
 refine' go
 replace hF:=bind_some hF
 obtain⟨aHU,aES,hF⟩:=hF
 have apq:=tF aES
 refine iJ NH.h Ee.h.sz aU aU bQ apq (fun aQK aET=>?_)
 refine' go
 replace hF:=bind_some hF
 obtain⟨aro,Uk,hF⟩:=hF
 replace Uk:=aQ0 Uk
 rename_i x96 _ _ _ _ _ _ _ _ _ _ _ _ _ _ _ _ _
 refine' Cy (uZ (Ro:=(az rdBool)) (a:=true) (i:=x96.aJ) Ee.h.sz rfl aU (.bool _) aET apq (vg (fun _=>rfl)) (fun _ _ _ _ h=>by obtain⟨-,h⟩:=h; cases h; rfl)) (fun aQL=>?_)
 rw[Uk]
 refine' go⟩
def Q_(aT:Step)(aH:List Method):Option (Bool):=
 ((mG aT.Method 0 (IntKind.i64.wrap ((aH.length:Int)-1))).bind fun r4=>
   bif (!r4)then (some true)
   else ((ix aH aT.Method).bind fun x8=>
     some ((x8.Limit:Int)!=0))).bind fun o2=>
 match o2 with
 |c14=>some c14
theorem ajN{aT:Step}{bu:Nat}{aH:List Method}{dB:Sv}{R:Bool}(hF:Q_ aT aH=some R):
   Fw.Spec Tryz.prog 204 [(.agg [(.int .i64 aT.aJ),(.int .i64 aT.Method)].toArray),(.pointer (some ⟨bu,0,some 0⟩))] [bC bu 40 dB.v,aI (ak 127 iB) dB.v aH] (fun _:Unit=>(.bool R)) (fun _=>[]):=by
 refine' en Tryz.func204 (Q_.eq_1 ..)
 refine' rc (q1 3 tB) []
instance:dz Tryz.prog 204 (type_of% @ajN):=⟨@ajN⟩
def OU(aH:List Method):List Step->Nat->Option (Int)
 |[],k4=>some (-1)
 |x6::dH,k4=>(Q_ x6 aH).bind fun fu=>
   if fu then (
     some (k4:Int))
   else (
     OU aH dH (k4+1))
def Xm(aC:List Step)(aH:List Method):Option (Int):=
 OU aH aC 0
theorem aiu{aC:List Step}{aA:Sv}{bu:Nat}{aH:List Method}{dB:Sv}{R:Int}(hF:Xm aC aH=some R):
   Fw.Spec Tryz.prog 249 [aA.v,(.func (.func 204) [].toArray [(.pointer (some ⟨bu,0,some 0⟩))].toArray)] [aI (ak 155 fZ) aA.v aC,bC bu 40 dB.v,aI (ak 127 iB) dB.v aH] (fun _:Unit=>(.int .i64 R)) (fun _=>[]):=by
 refine' en Tryz.func249 (Xm.eq_1 ..)
 refine' eP q0 8 [0,1,7]<;>rw[OU]at hF<;>refine' go
instance:dz Tryz.prog 249 (type_of% @aiu):=⟨@aiu⟩
def Xg(aC:List Step)(aH:List Method):Option (Bool):=
 (Xm aC aH).bind fun r1=>
 some (decide ((0:Int)<=r1))
theorem aip{aC:List Step}{aA:Sv}{bu:Nat}{aH:List Method}{dB:Sv}{R:Bool}(hF:Xg aC aH=some R):
   Fw.Spec Tryz.prog 203 [aA.v,(.func (.func 204) [].toArray [(.pointer (some ⟨bu,0,some 0⟩))].toArray)] [aI (ak 155 fZ) aA.v aC,bC bu 40 dB.v,aI (ak 127 iB) dB.v aH] (fun _:Unit=>(.bool R)) (fun _=>[]):=by
 refine' en Tryz.func203 (Xg.eq_1 ..)
instance:dz Tryz.prog 203 (type_of% @aip):=⟨@aip⟩
def Sc(aG:List Method)(bY:List Step):Option (Bool):=
 (Xg bY aG).bind fun r2=>
 some (!r2)
instance aKc:I2 134 t26 t32 u20 Sc:=⟨by
 intro _ _ _ _ _ hF
 refine' en Tryz.func134 (Sc.eq_1 ..)⟩
def QF(aT:List Int)(aH:List Int):Option (Bool):=
 (KT aT aH).bind fun r1=>
 some r1
theorem ajs{aT:List Int}{aA:Sv}{bu:Nat}{aH:List Int}{dB:Sv}{R:Bool}(hF:QF aT aH=some R):
   Fw.Spec Tryz.prog 316 [aA.v,(.pointer (some ⟨bu,0,some 0⟩))] [aI (ak 3 ax) aA.v aT,bC bu 22 dB.v,aI (ak 3 ax) dB.v aH] (fun _:Unit=>(.bool R)) (fun _=>[]):=by
 refine' en Tryz.func316 (QF.eq_1 ..)
instance:dz Tryz.prog 316 (type_of% @ajs):=⟨@ajs⟩
def Xz(aH:List Int):List (List Int)->Nat->Option (Int)
 |[],k4=>some (-1)
 |x6::dH,k4=>(QF x6 aH).bind fun r16=>
   if r16 then (
     some (k4:Int))
   else (
     Xz aH dH (k4+1))
def XL(aC:List (List Int))(aH:List Int):Option (Int):=
 Xz aH aC 0
theorem aiH{aC:List (List Int)}{aA:Sv}{bu:Nat}{aH:List Int}{dB:Sv}{R:Int}(hF:XL aC aH=some R):
   Fw.Spec Tryz.prog 308 [aA.v,(.func (.func 316) [].toArray [(.pointer (some ⟨bu,0,some 0⟩))].toArray)] [aI (ak 22 (ak 3 ax)) aA.v aC,bC bu 22 dB.v,aI (ak 3 ax) dB.v aH] (fun _:Unit=>(.int .i64 R)) (fun _=>[]):=by
 refine' en Tryz.func308 (XL.eq_1 ..)
 refine' eP q0 8 [0,1,7]<;>rw[Xz]at hF<;>refine' go
instance:dz Tryz.prog 308 (type_of% @aiH):=⟨@aiH⟩
def XA(aC:List (List Int))(aH:List Int):Option (Bool):=
 (XL aC aH).bind fun r1=>
 some (decide ((0:Int)<=r1))
theorem aiA{aC:List (List Int)}{aA:Sv}{bu:Nat}{aH:List Int}{dB:Sv}{R:Bool}(hF:XA aC aH=some R):
   Fw.Spec Tryz.prog 315 [aA.v,(.func (.func 316) [].toArray [(.pointer (some ⟨bu,0,some 0⟩))].toArray)] [aI (ak 22 (ak 3 ax)) aA.v aC,bC bu 22 dB.v,aI (ak 3 ax) dB.v aH] (fun _:Unit=>(.bool R)) (fun _=>[]):=by
 refine' en Tryz.func315 (XA.eq_1 ..)
instance:dz Tryz.prog 315 (type_of% @aiA):=⟨@aiA⟩
def MH(aG:List (List Int))(gT:List Int):Option (Bool):=
 (XA aG gT).bind fun r2=>
 some r2
instance atY:I2 307 A8 t0 u20 MH:=⟨by
 intro _ _ _ _ _ hF
 refine' en Tryz.func307 (MH.eq_1 ..)⟩
theorem ath{aG:List (List Int)}{aA:Sv}{gT:List Int}{bf:Sv}{R:Bool}(hF:MH aG gT=some R):
   Fw.Spec Tryz.prog 307 [aA.v,bf.v] [aI (ak 22 (ak 3 ax)) aA.v aG,aI (ak 3 ax) bf.v gT] (fun _:Unit=>(.bool R)) (fun _=>[]):=atY.h hF
def P5(aT:List Int)(aH:List Int):Option (Bool):=
 (GV aT aH).bind fun r1=>
 some (decide ((0:Int)<r1))
theorem ai7{aT:List Int}{aA:Sv}{bu:Nat}{aH:List Int}{dB:Sv}{R:Bool}(hF:P5 aT aH=some R):
   Fw.Spec Tryz.prog 309 [aA.v,(.pointer (some ⟨bu,0,some 0⟩))] [aI (ak 3 ax) aA.v aT,bC bu 22 dB.v,aI (ak 3 ax) dB.v aH] (fun _:Unit=>(.bool R)) (fun _=>[]):=by
 refine' en Tryz.func309 (P5.eq_1 ..)
instance:dz Tryz.prog 309 (type_of% @ai7):=⟨@ai7⟩
def Xq(aH:List Int):List (List Int)->Nat->Option (Int)
 |[],k4=>some (-1)
 |x6::dH,k4=>(P5 x6 aH).bind fun r16=>
   if r16 then (
     some (k4:Int))
   else (
     Xq aH dH (k4+1))
def XF(aC:List (List Int))(aH:List Int):Option (Int):=
 Xq aH aC 0
theorem aci{aC:List (List Int)}{aA:Sv}{bu:Nat}{aH:List Int}{dB:Sv}{R:Int}(hF:XF aC aH=some R):
   Fw.Spec Tryz.prog 308 [aA.v,(.func (.func 309) [].toArray [(.pointer (some ⟨bu,0,some 0⟩))].toArray)] [aI (ak 22 (ak 3 ax)) aA.v aC,bC bu 22 dB.v,aI (ak 3 ax) dB.v aH] (fun _:Unit=>(.int .i64 R)) (fun _=>[]):=by
 refine' en Tryz.func308 (XF.eq_1 ..)
 refine' eP q0 8 [0,1,7]<;>rw[Xq]at hF<;>refine' go
instance:dz Tryz.prog 308 (type_of% @aci):=⟨@aci⟩
def KS(aC:List (List Int))(jd:Int)(kD:List (List Int)):Option (List (List Int)):=
 match kD with
 |[a]=>if 0<=jd/\jd.toNat<=aC.length/\aC.length+1<4294967296 then some (aC.take jd.toNat++a::aC.drop jd.toNat)else none
 |_=>none
set_option maxHeartbeats 4000000 in
theorem arQ(es:List Value)(e:Value)(v u:Sv)(F F2:List Nat)(i:Nat)(hi:i<=es.length)(hb:es.length+1<4294967296):Fw.Spec Tryz.prog 310 [v.v,.int .i64 (i:Int),u.v] [ah (aa 22 (az (fA 1))) F v.v es,ah (aa 22 (az (fA 1))) F2 u.v [e]] (fun q:Sv×List Nat=>q.1.v) (fun q=>[ah (aa 22 (az (fA 1))) q.2 q.1.v (es.take i++e::es.drop i)]):=by
 refine Im (n:=95) Tryz.func310 rfl rfl (rs:=[.tmp 6]) rfl rfl rfl ?_
 intro H0 F0
 refine eB ?_
 refine aP (jI (v:=(.slice none 0 0)) EV.oF) ?_
 refine eQ ?_
 refine eB ?_
 refine aP (bE (v:=v.v) (.tmp rfl rfl)) ?_
 refine aP (bE (v:=(.int .i64 (i:Int))) (.tmp rfl rfl)) ?_
 refine iZ (.cons .h .nil) (adC mM.h lw.h.sz (.tmp rfl rfl) (.tmp rfl rfl) hi) (fun w0=>?_)
 refine eQ ?_
 refine eB ?_
 refine aP (bE (v:=u.v) (.tmp rfl rfl)) ?_
 refine gM (.t .h) (fun hp=>tK (l:=1) mM.h (.tmp rfl rfl) (wY hp)) ?_
 refine aP (jI (v:=(.int .i64 ((1:Nat):Int))) (.tmp rfl rfl)) ?_
 refine eQ ?_
 refine dZ ?_
 refine eB ?_
 refine aP (bE (v:=(.int .i64 ((1:Nat):Int))) (.tmp rfl rfl)) ?_
 refine aP (CQ (i:=((1:Nat):Int)) (j:=0) (.tmp rfl rfl) (.int _ _)) ?_
 refine eQ ?_
 refine nY (b:=(((1:Nat):Int)==0)) (.tmp rfl rfl) (fun hb0=>absurd hb0 (by decide)) (fun _=>?_)
 refine uo ?_
 refine eB ?_
 refine aP (bE (v:=v.v) (.tmp rfl rfl)) ?_
 refine gM .h (fun hp=>tK (l:=es.length) mM.h (.tmp rfl rfl) (wY hp)) ?_
 refine aP (jI (v:=(.int .i64 (es.length:Int))) (.tmp rfl rfl)) ?_
 refine eQ ?_
 refine dZ ?_
 refine eB ?_
 refine aP (bE (v:=(.int .i64 (i:Int))) (.tmp rfl rfl)) ?_
 refine aP (bE (v:=(.int .i64 (es.length:Int))) (.tmp rfl rfl)) ?_
 refine aP (CQ (i:=(i:Int)) (j:=(es.length:Int)) (.tmp rfl rfl) (.tmp rfl rfl)) ?_
 refine eQ ?_
 refine nY (b:=((i:Int)==(es.length:Int))) (.tmp rfl rfl) (fun hb1=>?_) (fun hb1=>?_)
 · have hie:i=es.length:=by simp only[aRZ]at hb1; omega
   refine eB ?_
   refine aP (bE (v:=v.v) (.tmp rfl rfl)) ?_
   refine aP (bE (v:=u.v) (.tmp rfl rfl)) ?_
   refine iZ (.cons .h (.cons .h .nil)) (iU (Ro:=(az (fA 1))) mM.h aqa lw.h rfl rfl rfl (.tmp rfl rfl) (.tmp rfl rfl) (nZ (xs:=es) (ys:=[e]) (by simpa using hb)) kJ) (fun p=>?_)
   refine aP (jI (v:=p.1.v) (.tmp rfl rfl)) ?_
   refine eQ ?_
   refine vz ?_
   rw[hie,aR7,aSj]
   exact iW p (.tmp rfl rfl .nil) rfl (.sel (.cons .h .nil))
 refine uo ?_
 have hlt:i<es.length:=by simp at hb1; omega
 refine zV .h (IR (by intro h; rw[h]at hlt; simp at hlt)) (fun hv=>?_)
 obtain⟨k0,m0,rfl,hm0⟩:=hv
 refine zV (.t .h) (IR (by simp)) (fun hu=>?_)
 obtain⟨k1,m1,rfl,hm1⟩:=hu
 refine afA (t:=0) (k:=k0) (l:=es.length) (m:=m0) rfl rfl hm0 (by omega) .h rfl (fun c hc=>?_)
 have w1:IntKind.i64.wrap ((es.length:Int)+((1:Nat):Int))=((es.length+1:Nat):Int):=by rw[di (by omega) (by omega)]; rfl
 have w2:IntKind.i64.wrap ((i:Int)+((1:Nat):Int))=((i+1:Nat):Int):=by rw[di (by omega) (by omega)]; rfl
 have w3:IntKind.i64.wrap (((es.length+1:Nat):Int)-(i:Int))=((es.length+1-i:Nat):Int):=by rw[di (by omega) (by omega)]; omega
 have hel:(es.take i++e::es.drop i).length=es.length+1:=aeq hi
 refine dZ ?_
 refine eB ?_
 refine aP (bE (v:=(.int .i64 (es.length:Int))) (.tmp rfl rfl)) ?_
 refine aP (bE (v:=(.int .i64 ((1:Nat):Int))) (.tmp rfl rfl)) ?_
 refine aP (nO (i:=(es.length:Int)) (j:=((1:Nat):Int)) (.tmp rfl rfl) (.tmp rfl rfl)) ?_
 rw[w1]
 refine aP (bE (v:=(.slice (some ⟨k0,0,none⟩) es.length (c+3))) (.tmp rfl rfl)) ?_
 refine gM .h (fun hp=>aeR mM.h hp rfl (.tmp rfl rfl)) ?_
 refine aP (Tv (i:=((es.length+1:Nat):Int)) (j:=(c:Int)) (.tmp rfl rfl) (.tmp rfl rfl)) ?_
 refine eQ ?_
 refine nY (b:=(decide ((c:Int)<((es.length+1:Nat):Int)))) (.tmp rfl rfl) (fun hb2=>?_) (fun hb2=>?_)
 · have hcl:c<es.length+1:=by simp only[ag3]at hb2; omega
   refine eB ?_
   refine aP (bE (v:=(.slice (some ⟨k0,0,none⟩) es.length (c+3))) (.tmp rfl rfl)) ?_
   refine aP (bE (v:=(.int .i64 (i:Int))) (.tmp rfl rfl)) ?_
   refine gM .h (fun hp=>LZ (j:=i) mM.h lw.h.sz hp rfl (.tmp rfl rfl) (.tmp rfl rfl) (by omega)) ?_
   refine aP (bE (v:=(.int .i64 (es.length:Int))) (.tmp rfl rfl)) ?_
   refine aP (bE (v:=(.int .i64 ((1:Nat):Int))) (.tmp rfl rfl)) ?_
   refine aP (nO (i:=(es.length:Int)) (j:=((1:Nat):Int)) (.tmp rfl rfl) (.tmp rfl rfl)) ?_
   rw[w1]
   refine aP (bE (v:=(.int .i64 (i:Int))) (.tmp rfl rfl)) ?_
   refine aP (Tu (i:=((es.length+1:Nat):Int)) (j:=(i:Int)) (.tmp rfl rfl) (.tmp rfl rfl)) ?_
   rw[w3]
   refine tZ (.cons .h .nil) (ac7 (c:=c) (q:=es.length+1-i) mM.h We lw.h rfl rfl rfl rfl rfl rfl (.tmp rfl rfl) (.tmp rfl rfl) (by omega) (by omega) (by omega) (by omega)) (fun k2=>?_)
   rw[show i+(es.length+1-i)=es.length+1 from by omega]
   refine aP (jI (v:=(.slice (some ⟨k2,0,none⟩) (es.length+1) 2)) (.tmp rfl rfl)) ?_
   refine eQ ?_
   refine eB ?_
   refine aP (bE (v:=(.slice (some ⟨k2,0,none⟩) (es.length+1) 2)) (.tmp rfl rfl)) ?_
   refine aP (bE (v:=(.int .i64 (i:Int))) (.tmp rfl rfl)) ?_
   refine gM .h (fun hp=>oC (j:=i) mM.h lw.h.sz hp rfl (.tmp rfl rfl) (.tmp rfl rfl) (by omega)) ?_
   refine aP (bE (v:=(.slice (some ⟨k1,0,none⟩) 1 m1)) (.tmp rfl rfl)) ?_
   refine tZ (.cons .h (.cons (.t .h) .nil)) (BU (m1:=0) (m2:=m1) (ia:=i) (ja:=0) (ld:=es.length+1-i) (ls:=1) (es2:=[e]) (es':=es.take i++e::List.replicate (es.length-i) (.slice none 0 0)) mM.h lw.h.sz rfl rfl rfl (by exact .tmp rfl rfl) (by exact .tmp rfl rfl) (by omega) (by omega) (by rw[aSc]; omega) (by simp; omega) (aeS (e:=e) (z:=(.slice none 0 0)) hlt) (by simp; omega)) (fun _=>?_)
   refine eQ ?_
   refine iQ [0,1,2,3,4,5,6,7,8] [0,0,0,6,15,0,0,96,255] [8] mixed (by decide+kernel) ?_
   refine dw rfl .no (fun ha=>bE (v:=(.slice (some ⟨k2,0,none⟩) (es.length+1) 2)) (EN ha (.tmp rfl rfl) rfl)) ?_
   refine dw rfl .no (fun ha=>bE (v:=(.int .i64 (i:Int))) (EN ha (.tmp rfl rfl) rfl)) ?_
   refine dw rfl .no (fun ha=>bE (v:=(.int .i64 ((1:Nat):Int))) (EN ha (.tmp rfl rfl) rfl)) ?_
   refine dw rfl .no (fun ha=>nO (i:=(i:Int)) (j:=((1:Nat):Int)) (EN ha (.tmp rfl rfl) rfl) (EN ha (.tmp rfl rfl) rfl)) ?_
   rw[w2]
   refine dF rfl .no .h (fun ha hp=>oC (j:=i+1) mM.h lw.h.sz hp rfl (EN ha (.tmp rfl rfl) rfl) (EN ha (.tmp rfl rfl) rfl) (by omega)) ?_
   refine dw rfl .no (fun ha=>bE (v:=(.slice (some ⟨k0,0,none⟩) es.length (c+3))) (EN ha (.tmp rfl rfl) rfl)) ?_
   refine dw rfl .no (fun ha=>bE (v:=(.int .i64 (i:Int))) (EN ha (.tmp rfl rfl) rfl)) ?_
   refine dF rfl .no (.t (.t .h)) (fun ha hp=>oC (j:=i) mM.h lw.h.sz hp rfl (EN ha (.tmp rfl rfl) rfl) (EN ha (.tmp rfl rfl) rfl) (by omega)) ?_
   refine pQ rfl rfl .no (.cons .h (.cons (.t .h) .nil)) (.aV rfl (.aV rfl .nil)) (fun ha=>BU mM.h lw.h.sz rfl rfl rfl (EN ha (.tmp rfl rfl) rfl) (EN ha (.tmp rfl rfl) rfl) (by omega) (by omega) (by omega) (by simp; omega) (aeT (e:=e) (z:=(.slice none 0 0)) hlt) (by omega)) (fun _=>?_)
   refine FL ?_
   refine eB ?_
   refine aP (bE (v:=(.slice (some ⟨k2,0,none⟩) (es.length+1) 2)) (.tmp rfl rfl)) ?_
   refine aP (jI (v:=(.slice (some ⟨k2,0,none⟩) (es.length+1) 2)) (.tmp rfl rfl)) ?_
   refine eQ ?_
   refine vz ?_
   rw[hel]
   exact iW (⟨some ⟨k2,0,none⟩,es.length+1,2⟩,[k2]) (.tmp rfl rfl .nil) rfl (.sel (.cons .h .nil))
 refine uo ?_
 have hcl:es.length+1<=c:=by simp only[aRw]at hb2; omega
 refine eB ?_
 refine aP (bE (v:=(.slice (some ⟨k0,0,none⟩) es.length (c+3))) (.tmp rfl rfl)) ?_
 refine aP (bE (v:=(.int .i64 (es.length:Int))) (.tmp rfl rfl)) ?_
 refine aP (bE (v:=(.int .i64 ((1:Nat):Int))) (.tmp rfl rfl)) ?_
 refine aP (nO (i:=(es.length:Int)) (j:=((1:Nat):Int)) (.tmp rfl rfl) (.tmp rfl rfl)) ?_
 rw[w1]
 refine gM .h (fun hp=>LZ (j:=es.length+1) mM.h lw.h.sz hp rfl (.tmp rfl rfl) (.tmp rfl rfl) hcl) ?_
 refine aP (jI (v:=(.slice (some ⟨k0,0,none⟩) (es.length+1) (c+3))) (.tmp rfl rfl)) ?_
 refine eQ ?_
 refine dZ ?_
 refine eB ?_
 refine aP (bE (v:=(.slice (some ⟨k1,0,none⟩) 1 m1)) (.tmp rfl rfl)) ?_
 refine aP (bE (v:=(.slice (some ⟨k0,0,none⟩) (es.length+1) (c+3))) (.tmp rfl rfl)) ?_
 refine aP (bE (v:=(.int .i64 (i:Int))) (.tmp rfl rfl)) ?_
 refine aP (bE (v:=(.int .i64 ((1:Nat):Int))) (.tmp rfl rfl)) ?_
 refine aP (nO (i:=(i:Int)) (j:=((1:Nat):Int)) (.tmp rfl rfl) (.tmp rfl rfl)) ?_
 rw[w2]
 refine gM .h (fun hp=>oC (j:=i+1) mM.h lw.h.sz hp rfl (.tmp rfl rfl) (.tmp rfl rfl) (by omega)) ?_
 refine tZ (.cons (.t .h) (.cons .h .nil)) (adB mM.h lw.h.sz rfl azH rfl rfl (.tmp rfl rfl) (.tmp rfl rfl) (by omega) (by omega)) (fun _=>?_)
 refine aP (NE (b:=false) (.tmp rfl rfl)) ?_
 refine eQ ?_
 refine nY (b:=(!false)) (.tmp rfl rfl) (fun _=>?_) (fun h=>absurd h (by decide))
 refine iQ [0,1,2,3,4,5,6,7,8] [0,0,0,6,15,0,0,96,255] [8] mixed (by decide+kernel) ?_
 refine dw rfl .no (fun ha=>bE (v:=(.slice (some ⟨k0,0,none⟩) (es.length+1) (c+3))) (EN ha (.tmp rfl rfl) rfl)) ?_
 refine dw rfl .no (fun ha=>bE (v:=(.int .i64 (i:Int))) (EN ha (.tmp rfl rfl) rfl)) ?_
 refine dw rfl .no (fun ha=>bE (v:=(.int .i64 ((1:Nat):Int))) (EN ha (.tmp rfl rfl) rfl)) ?_
 refine dw rfl .no (fun ha=>nO (i:=(i:Int)) (j:=((1:Nat):Int)) (EN ha (.tmp rfl rfl) rfl) (EN ha (.tmp rfl rfl) rfl)) ?_
 rw[w2]
 refine dF rfl .no (.t .h) (fun ha hp=>oC (j:=i+1) mM.h lw.h.sz hp rfl (EN ha (.tmp rfl rfl) rfl) (EN ha (.tmp rfl rfl) rfl) (by omega)) ?_
 refine dw rfl .no (fun ha=>bE (v:=(.slice (some ⟨k0,0,none⟩) (es.length+1) (c+3))) (EN ha (.tmp rfl rfl) rfl)) ?_
 refine dw rfl .no (fun ha=>bE (v:=(.int .i64 (i:Int))) (EN ha (.tmp rfl rfl) rfl)) ?_
 refine dF rfl .no (.t .h) (fun ha hp=>oC (j:=i) mM.h lw.h.sz hp rfl (EN ha (.tmp rfl rfl) rfl) (EN ha (.tmp rfl rfl) rfl) (by omega)) ?_
 refine dx rfl rfl .no (.cons (.t .h) .nil) (.aV rfl (.aV rfl .nil)) (fun ha=>aep mM.h lw.h.sz rfl rfl (EN ha (.tmp rfl rfl) rfl) (EN ha (.tmp rfl rfl) rfl) (by omega) (by omega) (by omega) (by omega) (aeU hlt) (by simp; omega)) (fun _=>?_)
 refine FL ?_
 refine eB ?_
 refine aP (bE (v:=(.slice (some ⟨k0,0,none⟩) (es.length+1) (c+3))) (.tmp rfl rfl)) ?_
 refine aP (bE (v:=(.int .i64 (i:Int))) (.tmp rfl rfl)) ?_
 refine gM .h (fun hp=>oC (j:=i) mM.h lw.h.sz hp rfl (.tmp rfl rfl) (.tmp rfl rfl) (by omega)) ?_
 refine aP (bE (v:=(.slice (some ⟨k1,0,none⟩) 1 m1)) (.tmp rfl rfl)) ?_
 refine tZ (.cons .h (.cons .h .nil)) (BU (m1:=0) (m2:=m1) (ia:=i) (ja:=0) (ld:=es.length+1-i) (ls:=1) (es2:=[e]) (es':=es.take i++e::es.drop i) mM.h lw.h.sz rfl rfl rfl (by exact .tmp rfl rfl) (by exact .tmp rfl rfl) (by omega) (by omega) (by rw[aSc]; omega) (by simp; omega) (aeV (e:=e) hlt) (by omega)) (fun _=>?_)
 refine eQ ?_
 refine eB ?_
 refine aP (bE (v:=(.slice (some ⟨k0,0,none⟩) (es.length+1) (c+3))) (.tmp rfl rfl)) ?_
 refine aP (jI (v:=(.slice (some ⟨k0,0,none⟩) (es.length+1) (c+3))) (.tmp rfl rfl)) ?_
 refine eQ ?_
 refine aeo (t:=6) (k:=k0) (l:=es.length+1) (c:=c) rfl rfl ?_
 refine vz ?_
 rw[hel]
 exact iW (⟨some ⟨k0,0,none⟩,es.length+1,2⟩,F) (.tmp rfl rfl .nil) rfl (.sel (.cons .h .nil))
theorem XO{aC:List (List Int)}{aA:Sv}{jb:List Nat}{jd:Int}{kD:List (List Int)}{bJ:Sv}{Vt:List Nat}{R:List (List Int)}(hF:KS aC jd kD=some R):
   Fw.Spec Tryz.prog 310 [aA.v,.int .i64 jd,bJ.v] [ah (aa 22 (aa 3 (az ax))) jb aA.v aC,ah (aa 22 (aa 3 (az ax))) Vt bJ.v kD] (fun p:Sv×List Nat=>p.1.v) (fun p=>[ah (aa 22 (aa 3 (az ax))) p.2 p.1.v R]):=by
 unfold KS at hF
 rcases kD with _|⟨a,_|⟨_,_⟩⟩
 · simp at hF
 · dsimp only at hF
   split at hF
   · rename_i h
     obtain⟨h0,h1,h2⟩:=h
     obtain⟨i,rfl⟩:∃i:Nat,jd=(i:Int):=⟨jd.toNat,by omega⟩
     cases hF
     rw[aRc]at h1 ⊢
     exact adO (s:=1) fun es e Fa Fb hl=>arQ es e aA bJ Fa Fb i (by omega) (by omega)
   · simp at hF
 · simp at hF
instance:dz Tryz.prog 310 (type_of% @XO):=⟨@XO⟩
def LW(aG:List (List Int))(gT:List Int):Option ((List (List Int))):=
 (MH aG gT).bind fun r2=>
 if r2 then (
   some aG)
 else (
   (XF aG gT).bind fun r5=>
   if (decide ((r5:Int)<0))then (
     (rT gT).bind fun r8=>
     (KS aG (aG.length:Int) ([r8]:List (List Int))).bind fun gL=>
     some gL)
   else (
     (rT gT).bind fun fu=>
     (KS aG r5 ([fu]:List (List Int))).bind fun eU=>
     some eU))
theorem asx{aG:List (List Int)}{aA:Sv}{jb:List Nat}{gT:List Int}{bf:Sv}{R:(List (List Int))}(hF:LW aG gT=some R):
   Fw.Spec Tryz.prog 291 [aA.v,bf.v] [ah (aa 22 (aa 3 (az ax))) jb aA.v aG,bi bf gT] (fun p:Sv×List Nat=>p.1.v) (fun p=>[ah (aa 22 (aa 3 (az ax))) p.2 p.1.v R]):=by
 refine Se 23 Tryz.func291 [.tmp 4] ?_
 intro H0 F0
 unfold LW at hF
 refine au ?_
 refine j6 (fun k1=>?_)
 refine lN ?_
 refine bnd hF fun r2 hx3 hF=>iZ (.cons (.t .h) (.rd (.t .h) rfl .nil)) (mH aX (fun _=>.nil) (cK aC4.h fG (@ath aG aA gT bf _ hx3))) (fun _=>?_)
 refine au ?_
 refine Ci hF (fun aHV hF=>?_) (fun aHV hF=>?_)
 · refine fI ?_
   cases hF
   exact Er (aA,jb)
 refine fw ?_
 refine aP (Rc (fn:=.func 309) (vs:=[]) (us:=[(pz k1)]) .nil fG) ?_
 refine bnd hF fun r5 hx6 hF=>iZ (.cons .h (.rd .h rfl (.rd (.t .h) rfl .nil))) (mH aX (fun _=>.nil) (cK aC5.h fG (@aci aG aA k1 gT bf _ hx6))) (fun _=>?_)
 refine iq ?_
 refine Ci hF (fun aic hF=>?_) (fun aic hF=>?_)
 · refine JR ?_
   refine bnd hF fun r8 Eo hF=>qM (XP.h Eo) (fun sV=>?_)
   refine lJ rfl (gq (g:=true) mM.h lw.h fG (vs:=[sV.1.v]) rfl rfl rfl (by intro v hv; simp at hv; rcases hv with rfl<;>rfl)) (fun k11=>?_)
   refine mo (.cons .h (.cons .h .nil)) (gu (Ro:=(aa 3 (az ax))) (E:=22) (F:=(sV.2++[])) (xs:=([r8]:List (List Int))) (iV yA fU dS) rfl rfl) ?_
   refine bnd hF fun gL U8 hF=>qM (@XO _ _ _ _ _ (⟨(some ⟨k11,0,none⟩),1,1⟩) _ _ U8) (fun oP=>?_)
   refine fw ?_
   cases hF
   exact Er (oP.1,oP.2)
 refine fI ?_
 refine bnd hF fun fu hx16 hF=>qM (XP.h hx16) (fun oQ=>?_)
 refine lJ rfl (gq (g:=true) mM.h lw.h fG (vs:=[oQ.1.v]) rfl rfl rfl (by intro v hv; simp at hv; rcases hv with rfl<;>rfl)) (fun k18=>?_)
 refine mo (.cons .h (.cons .h .nil)) (gu (Ro:=(aa 3 (az ax))) (E:=22) (F:=(oQ.2++[])) (xs:=([fu]:List (List Int))) (iV yA fU dS) rfl rfl) ?_
 refine bnd hF fun eU DN hF=>qM (@XO _ _ _ _ _ (⟨(some ⟨k18,0,none⟩),1,1⟩) _ _ DN) (fun fH=>?_)
 refine fw ?_
 cases hF
 exact Er (fH.1,fH.2)
instance aIZ:I2 291 t47 t0 Kn LW:=⟨fun h=>asx h⟩
def Qi(aK:Query):List aN->Nat->(List (List Int))->Option ((List (List Int)))
 |[],k9,c3=>some c3
 |jc::r_,k9,c3=>(E_ aK jc).bind fun mq=>
   (LW c3 mq).bind fun iA=>
   Qi aK r_ (k9+1) iA
def MI(aK:Query)(Bw:List aN):Option ((List (List Int))):=
 Qi aK Bw 0 ([]:List (List Int))
instance atZ:I2 254 t29 t31 Kn MI:=⟨by
 intro _ _ _ _ _ _ hF
 refine' en Tryz.func254 (MI.eq_1 ..)
 refine' ed (q1 5 (tO 22 (aa 3 (az ax)))) 11 [2,9,10]<;>rw[Qi]at hF<;>refine' go⟩
theorem ati{aK:Query}{aA:Sv}{bB:Sv}{Bw:List aN}{bf:Sv}{R:(List (List Int))}(hF:MI aK Bw=some R):
   Fw.Spec Tryz.prog 254 [(.agg [aA.v,bB.v].toArray),bf.v] [aI (ak 3 ax) aA.v aK.a_,aI (ak 138 l7) bB.v aK.aL,aI (ak 152 sF) bf.v Bw] (fun p:Sv×List Nat=>p.1.v) (fun p=>[ah (aa 22 (aa 3 (az ax))) p.2 p.1.v R]):=atZ.h hF
def SN(aG:List Method)(u_:Int):Option (Int):=
 ((mG u_ 0 (IntKind.i64.wrap ((aG.length:Int)-1))).bind fun r3=>
   bif (!r3)then (some true)
   else ((ix aG u_).bind fun x7=>
     (SF x7.bK).bind fun gQ=>
     some (!gQ))).bind fun o1=>
 match o1 with
 |c16=>if c16 then (
     some 0)
   else (
     (ix aG u_).bind fun Wv=>
     some Wv.bK)
instance aKI:I2 266 t26 t1 u0 SN:=⟨by
 intro _ _ _ _ hF
 refine' en Tryz.func266 (SN.eq_1 ..)
 refine' rc (q1 19 tB) [0,1]⟩
def QG(aG:List Method):List ag->Nat->Int->Option (Int)
 |[],k5,c1=>some c1
 |x7::fM,k5,c1=>(SN aG x7.Method).bind fun A_=>
   QG aG fM (k5+1) (IntKind.i64.wrap (c1+A_))
def MZ(aG:List Method)(C_:List ag):Option (Int):=
 QG aG C_ 0 0
instance auR:I2 213 t26 t24 u0 MZ:=⟨by
 intro _ _ _ _ _ hF
 refine' en Tryz.func213 (MZ.eq_1 ..)
 refine' ed (q1 5 tI) 10 [0,8,9]<;>rw[QG]at hF<;>refine' go⟩
theorem aj2{aG:List Method}{aA:Sv}{C_:List ag}{bf:Sv}{R:Int}(hF:MZ aG C_=some R):
   Fw.Spec Tryz.prog 213 [aA.v,bf.v] [aI (ak 127 iB) aA.v aG,aI (ak 85 kN) bf.v C_] (fun _:Unit=>(.int .i64 R)) (fun _=>[]):=auR.h hF
end Go.Proofs.YtlnefhbbbikmgabGreat
