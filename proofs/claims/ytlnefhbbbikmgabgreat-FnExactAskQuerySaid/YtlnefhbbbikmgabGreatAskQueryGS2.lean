/-
  Functions of the program as Lean functions, and that the calls return what these say. No conditions.
-/
import Derived.Test.YtlnefhbbbikmgabGreatAskQueryGS1
set_option maxRecDepth 100000
set_option maxHeartbeats 4000000
set_option linter.unusedVariables false
namespace Go.Proofs.YtlnefhbbbikmgabGreat
open Go Go.Fw
def yf(aG:List Method)(aK:Query)(bY:List Step)(dX:List Int)(ff:(List Method)->Query->(List Step)->(List Int)->(List Step)->Option ((List Step)))(k23:Nat)(x25:aJ)(c34:Bool):Nat->(List Step)->Int->Option ((List Step))
 |0,_,_=>none
 |Kw+1,uT,c49=>if ((decide ((c49:Int)<(aG.length:Int)))&&(!c34))then (
     ((ix aG c49).bind fun Ww=>
       (MW Ww x25 dX).bind fun r72=>
       if r72 then (
         (app ([]:List Step) bY).bind fun z76=>
         (app z76 ([(⟨(k23:Int),c49⟩:Step)]:List Step)).bind fun z80=>
         (Np dX x25).bind fun OB=>
         (ff aG aK z80 OB uT).bind fun Ky=>
         some Ky)
       else (
         some uT)).bind fun o60=>
     match o60 with
     |En=>yf aG aK bY dX ff k23 x25 c34 Kw En (IntKind.i64.wrap (c49+1)))
   else (
     some uT)
def EF(aG:List Method)(aK:Query)(bY:List Step)(dX:List Int)(ff:(List Method)->Query->(List Step)->(List Int)->(List Step)->Option ((List Step)))(c18:List Step)(k23:Nat)(x25:aJ):List Step->Nat->Bool->Option ((List Step))
 |[],wT,c34=>yf aG aK bY dX ff k23 x25 c34 (((aG.length:Int)-0).toNat+2) c18 0
 |x40::yC,wT,c34=>EF aG aK bY dX ff c18 k23 x25 yC (wT+1) (c34||((x40.aJ:Int)==(k23:Int)))
def Hw(aG:List Method)(aK:Query)(bY:List Step)(dX:List Int)(ff:(List Method)->Query->(List Step)->(List Int)->(List Step)->Option ((List Step))):List aJ->Nat->(List Step)->Option ((List Step))
 |[],k23,c18=>some c18
 |x25::oW,k23,c18=>(EF aG aK bY dX ff c18 k23 x25 bY 0 false).bind fun o32=>
   match o32 with
   |Ve=>Hw aG aK bY dX ff oW (k23+1) Ve
def adb(ff:(List Method)->Query->(List Step)->(List Int)->(List Step)->Option ((List Step)))(fuel:Nat)(aG:List Method)(aK:Query)(bY:List Step)(dX:List Int)(qV:List Step):Option ((List Step)):=
 if (((bY.length:Int):Int)==(aK.aL.length:Int))then (
   (bif (((qV.length:Int):Int)==0)then (some true)
     else ((Mc aG bY).bind fun r5=>
       (Mc aG qV).bind fun r8=>
       some (decide ((r5:Int)<r8)))).bind fun o2=>
   match o2 with
   |c11=>if c11 then (
       (app ([]:List Step) bY).bind fun z13=>
       some z13)
     else (
       some qV))
 else (
   Hw aG aK bY dX ff aK.aL 0 qV)
def HZ(fuel:Nat):Nat->(List Method)->Query->(List Step)->(List Int)->(List Step)->Option ((List Step))
 |0,_,_,_,_,_=>none
 |n+1,aG,aK,bY,dX,qV=>adb (HZ fuel n) fuel aG aK bY dX qV
def adE(fuel:Nat)(aG:List Method)(aK:Query)(bY:List Step)(dX:List Int)(qV:List Step):Option ((List Step)):=
 HZ fuel fuel aG aK bY dX qV
theorem X7(fuel:Nat):∀(n:Nat)(aG:List Method)(aA:Sv)(aK:Query)(bf:Sv)(bR:Sv)(bY:List Step)(bJ:Sv)(dX:List Int)(gN:Sv)(qV:List Step)(jQ:Sv)(R:(List Step))(hF:HZ fuel n aG aK bY dX qV=some R),
   Fw.Spec Tryz.prog 89 [aA.v,(zg [bf.v,bR.v]),bJ.v,gN.v,jQ.v] [dY aA aG,bi bf aK.a_,eF bR aK.aL,h_ bJ bY,bi gN dX,h_ jQ qV] (fun p:Sv=>p.v) (fun p=>[h_ p R])
 |0,_,_,_,_,_,_,_,_,_,_,_,_,hF=>by cases hF
 |n+1,aG,aA,aK,bf,bR,bY,bJ,dX,gN,qV,jQ,R,hF=>by
   have ih:=X7 fuel n
   unfold HZ at hF
   generalize HZ fuel n=ff at hF ih
   refine Se 103 Tryz.func89 [.tmp 10] ?_
   intro H0 F0
   unfold adb at hF
   refine au ?_
   refine j6 (fun k1=>?_)
   refine afH ?_
   refine Ci hF (fun aDq hF=>?_) (fun aDq hF=>?_)
   · refine au ?_
     obtain⟨o2,aHc,hO3⟩:=bind_some hF
     refine au ?_
     refine qo (fun f' cs'=>∃(c11:Bool)(g:Fr),c11=o2/\f'=dm g [(2,bJ.v),(4,jQ.v),(33,(.bool c11))]/\bL cs' [h_ bJ bY,h_ jQ qV]) ?_ ?_
     · replace hF:=aHc
       refine dO ?_
       rcases kQ (((qV.length:Int):Int)==0)with hg4|hg4
       · rw[hg4]
         try rw[hg4]at hF; dsimp only[eZ,eY]at hF
         exact jP hF
       rw[hg4]
       try rw[hg4]at hF; dsimp only[eZ,eY]at hF
       refine fI ?_
       refine bnd hF fun r5 hx6 hF=>oO (acW.h hx6) (fun _=>?_)
       refine fI ?_
       refine bnd hF fun r8 Eo hF=>oO (acW.h Eo) (fun _=>?_)
       exact jP hF
     rintro _ _ ⟨c11,g17,rfl,rfl,hE⟩
     replace hF:=hO3
     try dsimp only at hF
     refine gV hE ?_
     refine Ci hF (fun aHd hF=>?_) (fun aHd hF=>?_)
     · refine au ?_
       refine lJ rfl (gq (g:=true) sM.h vE.h .nil (vs:=[]) rfl rfl rfl (by simp)) (fun k12=>?_)
       refine mo (.cons .h .nil) (gu (Ro:=(az fZ)) (E:=155) (F:=[]) (xs:=([]:List Step)) fU rfl rfl) ?_
       refine au ?_
       refine bnd hF fun z13 J3 hF=>iZ (.cons .h (.rd .h rfl .nil)) (iU (Ro:=(az fZ)) sM.h UX vE.h rfl rfl rfl (.tmp rfl rfl) (.tmp rfl rfl) J3 zX) (fun oU=>?_)
       refine fw ?_
       cases hF
       exact iW oU.1 (.tmp rfl rfl .nil) rfl (.cO .h aX (.sel (.rd .h rfl .nil)))
     refine lN ?_
     cases hF
     exact Er jQ
   refine fI ?_
   refine gU (kI (m:=aK.aL.length) (fun m21 f' cs'=>∃(g:Fr)(k23:Nat)(oW:List aJ)(c18:List Step)(v19:Sv),m21=oW.length/\f'=dm g [(0,aA.v),(2,bJ.v),(3,gN.v),(4,v19.v),(6,(pz k1)),(11,(zi (k23:Int)))]/\List.drop k23 aK.aL=oW/\bL cs' [dY aA aG,h_ bJ bY,bi gN dX,h_ v19 c18,bC k1 56 (zg [bf.v,bR.v]),bi bf aK.a_,eF bR aK.aL]/\Hw aG aK bY dX ff oW k23 c18=some R) ⟨_,0,_,_,jQ,rfl,df,rfl,bT,hF⟩ ?_)
   rintro m21 _ _ ⟨g22,k23,oW,c18,v19,rfl,rfl,Vf,hE,hF⟩
   refine Kb hE aK.aL (fun aDr=>?_)
   rcases oW with _|⟨x25,oW⟩
   · have ahq:=dn Vf
     rw[Hw]at hF
     refine kP ?_
     refine mQ ?_
     refine JR ?_
     cases hF
     exact Er v19
   obtain⟨ahq,hx28,hd29⟩:=kH Vf
   rw[Hw]at hF
   refine kP ?_
   refine mP ?_
   refine au ?_
   obtain⟨o32,aDs,aHe⟩:=bind_some hF
   refine pU (fun f' cs'=>∃(Ve:List Step)(v109:Sv)(g:Fr),Ve=o32/\f'=dm g [(0,aA.v),(2,bJ.v),(3,gN.v),(4,v109.v),(6,(pz k1)),(11,(zi (k23:Int)))]/\bL cs' [dY aA aG,h_ bJ bY,bi gN dX,h_ v109 Ve,bC k1 56 (zg [bf.v,bR.v]),bi bf aK.a_,eF bR aK.aL]) ?_ ?_
   · replace hF:=aDs
     refine gU (eB (aP (jI (v:=(.bool false)) (.bool _)) ?_))
     refine fI ?_
     refine gU (kI (m:=bY.length) (fun m36 f' cs'=>∃(g:Fr)(wT:Nat)(yC:List Step)(c34:Bool),m36=yC.length/\f'=dm g [(0,aA.v),(2,bJ.v),(3,gN.v),(4,v19.v),(6,(pz k1)),(11,(zi (k23:Int))),(12,(.bool c34)),(13,(zi (wT:Int)))]/\List.drop wT bY=yC/\bL cs' [dY aA aG,h_ bJ bY,bi gN dX,h_ v19 c18,bC k1 56 (zg [bf.v,bR.v]),bi bf aK.a_,eF bR aK.aL]/\EF aG aK bY dX ff c18 k23 x25 yC wT c34=some o32) ⟨_,0,_,_,rfl,df,rfl,bT,hF⟩ ?_)
     rintro m36 _ _ ⟨g37,wT,yC,c34,rfl,rfl,aqH,hE,hF⟩
     refine Kb hE bY (fun aNm=>?_)
     rcases yC with _|⟨x40,yC⟩
     · have aHf:=dn aqH
       rw[EF]at hF
       refine iq ?_
       refine mQ ?_
       refine iq ?_
       refine gU (kI (m:=(((aG.length:Int)-0).toNat+2)) (fun Kw f' cs'=>∃(g:Fr)(uT:List Step)(c49:Int)(v48:Sv),f'=dm g [(0,aA.v),(2,bJ.v),(3,gN.v),(4,v48.v),(6,(pz k1)),(11,(zi (k23:Int))),(12,(.bool c34)),(14,(zi c49))]/\bL cs' [dY aA aG,h_ bJ bY,bi gN dX,h_ v48 uT,bC k1 56 (zg [bf.v,bR.v]),bi bf aK.a_,eF bR aK.aL]/\yf aG aK bY dX ff k23 x25 c34 Kw uT c49=some o32) ⟨_,_,_,v19,df,bT,hF⟩ ?_)
       rintro Kw _ _ ⟨g51,uT,c49,v48,rfl,hE,hF⟩
       refine gV hE ?_
       rcases Kw with _|Kw
       · rw[yf]at hF
         exact absurd hF (by simp)
       rw[yf]at hF
       refine eu ?_
       refine qo (fun f' cs'=>∃(g:Fr),f'=dm g [(0,aA.v),(2,bJ.v),(3,gN.v),(4,v48.v),(6,(pz k1)),(11,(zi (k23:Int))),(12,(.bool c34)),(14,(zi c49)),(68,(.bool ((decide ((c49:Int)<(aG.length:Int)))&&(!c34))))]/\bL cs' [dY aA aG,h_ bJ bY,bi gN dX,h_ v48 uT,bC k1 56 (zg [bf.v,bR.v]),bi bf aK.a_,eF bR aK.aL]) ?_ ?_
       · refine fI ?_
         rcases kQ (decide ((c49:Int)<(aG.length:Int)))with y9|y9
         · rw[y9]
           try rw[y9]at hF; dsimp only[eZ,eY]at hF
           refine lN ?_
           exact⟨_,df,bT⟩
         rw[y9]
         try rw[y9]at hF; dsimp only[eZ,eY]at hF
         refine dO ?_
         exact⟨_,df,bT⟩
       rintro _ _ ⟨g59,rfl,hE⟩
       refine gV hE ?_
       refine Ci hF (fun afY hF=>?_) (fun afY hF=>?_)
       · refine au ?_
         obtain⟨o60,aDt,aHg⟩:=bind_some hF
         refine pU (fun f' cs'=>∃(En:List Step)(abK:Sv)(g:Fr),En=o60/\f'=dm g [(0,aA.v),(2,bJ.v),(3,gN.v),(4,abK.v),(6,(pz k1)),(11,(zi (k23:Int))),(12,(.bool c34)),(14,(zi c49))]/\bL cs' [dY aA aG,h_ bJ bY,bi gN dX,h_ abK En,bC k1 56 (zg [bf.v,bR.v]),bi bf aK.a_,eF bR aK.aL]) ?_ ?_
         · replace hF:=aDt
           refine gU (iQ [0,1,2,3,4,5,6,7,8,9,10] [0,0,3,7,0,16,0,112,240,0,1023] [10] mixed (by decide+kernel) ?_)
           refine jF ?_
           refine zI hF fun Ww aPF J4 hF=>?_
           refine Di J4 (fun k66 j67=>?_)
           refine xE (Ie Ww) Ig (fun p68=>?_)
           refine pu ?_
           refine Di hx28 (fun k69 j70=>?_)
           refine xE (Bp x25) Bq (fun p71=>?_)
           refine du ?_
           refine bnd hF fun r72 ahc hF=>Dx0 (auH.h ahc) (fun _=>?_)
           refine du ?_
           refine Ci hF (fun ahr hF=>?_) (fun ahr hF=>?_)
           · refine au ?_
             refine lJ rfl (gq (g:=true) sM.h vE.h .nil (vs:=[]) rfl rfl rfl (by simp)) (fun k75=>?_)
             refine mo (.cons .h .nil) (gu (Ro:=(az fZ)) (E:=155) (F:=[]) (xs:=([]:List Step)) fU rfl rfl) ?_
             refine au ?_
             refine bnd hF fun z76 aHh hF=>iZ (.cons .h (.rd .q5 rfl .nil)) (iU (Ro:=(az fZ)) sM.h UX vE.h rfl rfl rfl (.tmp rfl rfl) (.tmp rfl rfl) aHh zX) (fun p78=>?_)
             refine eu ?_
             refine aP (iy vE.h rfl (vs:=[(zi (k23:Int)),(zi c49)]) fG (cells:=[(zi (k23:Int)),(zi c49)]) rfl) ?_
             refine lJ rfl (gq (g:=true) sM.h vE.h fG (vs:=[(zg [(zi (k23:Int)),(zi c49)])]) rfl rfl rfl (by intro v hv; simp at hv; rcases hv with rfl<;>rfl)) (fun k79=>?_)
             refine mo (.cons .h .nil) (gu (Ro:=(az fZ)) (E:=155) (F:=([]++[])) (xs:=([(⟨(k23:Int),c49⟩:Step)]:List Step)) (iV (vg (fun _=>rfl)) fU dS) rfl rfl) ?_
             refine bnd hF fun z80 ahb hF=>iZ (.cons (.t .h) (.cons .h .nil)) (iU (Ro:=(az fZ)) sM.h UX vE.h rfl rfl rfl (.tmp rfl rfl) (.tmp rfl rfl) ahb kJ) (fun p82=>?_)
             refine eu ?_
             refine uq .h aX ?_
             refine qP [0,1,2,3,4,5,6,7,8,10,9,11,12] [0,0,0,0,0,16,0,112,240,504,0,2047,4095] [9,11] mixed (by decide+kernel) ?_
             refine aGj ?_
             refine Di hx28 (fun rR j90=>?_)
             refine xE (Bp x25) Bq (fun Ow=>?_)
             refine du ?_
             refine bnd hF fun OB hx93 hF=>dx rfl rfl .no (.rd .q9 rfl (.rd .h rfl .nil)) .nil (fun ha=>CG (post':=fun p94:Sv×List Nat=>[bi p94.1 OB]) (fun p94=>(.cO .h aX bT)) (cK aCK.h (.cons (EN ha (.tmp rfl rfl) rfl) (.cons (EN ha (.tmp rfl rfl) rfl) .nil)) (avl.h hx93))) (fun p94=>?_)
             refine bnd hF fun Ky hx96 hF=>dx rfl rfl .no (.rd .q8 rfl (.rd .q13 rfl (.rd .q14 rfl (.rd .q3 rfl (.rd .h rfl (.rd .q11 rfl .nil)))))) .nil (fun ha=>cK aGf.h (.cons (EN ha (.tmp rfl rfl) rfl) (.cons (EN ha (.tmp rfl rfl) rfl) (.cons (EN ha (.tmp rfl rfl) rfl) (.cons (EN ha (.tmp rfl rfl) rfl) (.cons (EN ha (.tmp rfl rfl) rfl) .nil))))) (ih aG aA aK bf bR z80 p82.1 OB p94.1 uT v48 _ hx96)) (fun p97=>?_)
             refine jF ?_
             cases hF
             exact⟨_,p97,_,rfl,df,bT⟩
           refine au ?_
           cases hF
           exact⟨_,v48,_,rfl,df,bT⟩
         rintro _ _ ⟨En,abK,aHi,rfl,rfl,hE⟩
         replace hF:=aHg
         try dsimp only at hF
         refine gV hE ?_
         refine fI ?_
         exact⟨Kw,lT _,_,_,_,abK,df,bT,hF⟩
       refine dO ?_
       cases hF
       exact⟨_,v48,_,rfl,df,bT⟩
     obtain⟨aHf,aHj,aHk⟩:=kH aqH
     rw[EF]at hF
     refine iq ?_
     refine mP ?_
     refine fw ?_
     refine qo (fun f' cs'=>∃(g:Fr),f'=dm g [(0,aA.v),(2,bJ.v),(3,gN.v),(4,v19.v),(6,(pz k1)),(11,(zi (k23:Int))),(12,(.bool (c34||((x40.aJ:Int)==(k23:Int))))),(13,(zi (wT:Int)))]/\bL cs' [dY aA aG,h_ bJ bY,bi gN dX,h_ v19 c18,bC k1 56 (zg [bf.v,bR.v]),bi bf aK.a_,eF bR aK.aL]) ?_ ?_
     · refine eu ?_
       rcases kQ c34 with TT|TT
       · rw[TT]
         try rw[TT]at hF; dsimp only[eZ,eY]at hF
         refine aaz ?_
         exact⟨_,df,bT⟩
       rw[TT]
       try rw[TT]at hF; dsimp only[eZ,eY]at hF
       refine fI ?_
       refine Ai aHj (fun aPG aPH=>?_)
       refine fw ?_
       refine Al aew ?_
       refine iq ?_
       exact⟨_,df,bT⟩
     rintro _ _ ⟨aPI,rfl,hE⟩
     refine gV hE ?_
     refine fI ?_
     rw[wk wT]
     exact⟨_,lT _,_,wT+1,yC,_,rfl,df,aHk,bT,hF⟩
   rintro _ _ ⟨Ve,v109,aPJ,rfl,rfl,hE⟩
   replace hF:=aHe
   try dsimp only at hF
   refine gV hE ?_
   refine fI ?_
   rw[wk k23]
   exact⟨_,lT _,_,k23+1,oW,_,v109,rfl,df,hd29,bT,hF⟩
theorem atL{fuel:Nat}{aG:List Method}{aA:Sv}{aK:Query}{bf bR:Sv}{bY:List Step}{bJ:Sv}{dX:List Int}{gN:Sv}{qV:List Step}{jQ:Sv}{R:(List Step)}(hF:adE fuel aG aK bY dX qV=some R):
   Fw.Spec Tryz.prog 89 [aA.v,(zg [bf.v,bR.v]),bJ.v,gN.v,jQ.v] [dY aA aG,bi bf aK.a_,eF bR aK.aL,h_ bJ bY,bi gN dX,h_ jQ qV] (fun p:Sv=>p.v) (fun p=>[h_ p R]):=X7 fuel fuel aG aA aK bf bR bY bJ dX gN qV jQ R hF
instance:dz Tryz.prog 89 (type_of% @X7):=⟨@X7⟩
def GZ(aG:List Method)(fuel:Nat):List Query->Nat->(List Int)->(List aJ)->(List Step)->Int->Bool->Option (qF×Bool)
 |[],y_,c175,Gh,Gj,c183,za=>some ((⟨(⟨c175,Gh⟩:Query),Gj,c183⟩:qF),za)
 |Vg::Cb,y_,c175,Gh,Gj,c183,za=>((Mx aG).bind fun ahs=>
     (adE fuel ahs Vg ([]:List Step) ([]:List Int) ([]:List Step)).bind fun J5=>
     (Mc aG J5).bind fun Gm=>
     if ((decide ((0:Int)<(J5.length:Int)))&&((!za)||(decide ((Gm:Int)<c183))))then (
       (Nk Vg).bind fun aht=>
       some (aht.a_,aht.aL,J5,Gm,true))
     else (
       some (c175,Gh,Gj,c183,za))).bind fun ahu=>
   match ahu with
   |(Vh,c227,Vi,c232,c233)=>GZ aG fuel Cb (y_+1) Vh c227 Vi c232 c233
def Ll(fuel:Nat)(aC:List Int)(aG:List Method)(aK:Query):Option (qF×Bool):=
 (Ni aC aG aK).bind fun r4=>
 if (!r4)then (
   some ((⟨(⟨[],[]⟩:Query),[],0⟩:qF),false))
 else (
   (O_ fuel aC aK).bind fun r7=>
   GZ aG fuel r7 0 ([]:List Int) ([]:List aJ) ([]:List Step) 0 false)
theorem ar6{fuel:Nat}{aC:List Int}{aA:Sv}{aG:List Method}{bf:Sv}{aK:Query}{bJ gK:Sv}{R:qF×Bool}(hF:Ll fuel aC aG aK=some R):
   Fw.Spec Tryz.prog 26 [aA.v,bf.v,(zg [bJ.v,gK.v])] [bi aA aC,dY bf aG,bi bJ aK.a_,eF gK aK.aL] (fun p:Sv×List Nat×Sv×List Nat×Sv=>(.tuple [(zg [p.1.v,p.2.2.1.v,p.2.2.2.2.v,(zi R.1.bK)]),(.bool R.2)].toArray)) (fun p=>[dW p.2.1 p.1 R.1.Query.a_,TN p.2.2.2.1 p.2.2.1 R.1.Query.aL,h_ p.2.2.2.2 R.1.Steps]):=by
 refine Se 66 Tryz.func26 [.cell 6 76,.tmp 7] ?_
 intro H0 F0
 unfold Ll at hF
 refine au ?_
 refine j6 (fun k1=>?_)
 refine gI (fun k2=>?_)
 refine fw ?_
 refine aP (iy Dz.h rfl (vs:=[]) .nil (cells:=[(.slice none 0 0),(.slice none 0 0),(.slice none 0 0),(zi 0)]) rfl) ?_
 refine gI (fun k3=>?_)
 refine As (.agg ([(.slice none 0 0),(.slice none 0 0),(.slice none 0 0),(zi 0)]:List Value).toArray) ?_
 refine JR ?_
 refine bnd hF fun r4 hx5 hF=>oO (avj.h hx5) (fun _=>?_)
 refine eu ?_
 refine Ci hF (fun aDu hF=>?_) (fun aDu hF=>?_)
 · refine eu ?_
   refine As (.agg ([(.slice none 0 0),(.slice none 0 0),(.slice none 0 0),(zi 0)]:List Value).toArray) ?_
   refine fw ?_
   cases hF
   exact iW (⟨none,0,0⟩,[],⟨none,0,0⟩,[],⟨none,0,0⟩) (.lZ rfl rfl .h rfl abu.h Dz.h.sz rfl rfl (.tmp rfl rfl .nil)) rfl (.conv .nil (jJ (Ro:=(az ax)) (E:=3)) (.cons .nil) (.conv .nil (jJ (Ro:=jZ) (E:=138)) (.cons .nil) (.conv .nil (zW (R:=fZ) (E:=155)) (.cons .nil) (.sel (.cons .q2 (.cons (.t .h) (.rd .h rfl .nil)))))))
 refine dO ?_
 refine bnd hF fun r7 Kz hF=>qM (arW.h Kz) (fun p9=>?_)
 refine lN ?_
 refine gU (uq .h aX ?_)
 refine kI (m:=r7.length) (fun aqI f' cs'=>∃(g:Fr)(y_:Nat)(Cb:List Query)(c175:List Int)(Gh:List aJ)(Gj:List Step)(c183:Int)(za:Bool)(Gn:Sv)(Vj:List Nat)(Gp:Sv)(Vk:List Nat)(v182:Sv),aqI=Cb.length/\f'=dm g [(1,bf.v),(6,(pz k2)),(8,(pz k3)),(9,(.bool za)),(10,p9.1.v),(11,(zi (y_:Int)))]/\List.drop y_ r7=Cb/\bL cs' [dY bf aG,aW k2 76 (.agg ([(.slice none 0 0),(.slice none 0 0),(.slice none 0 0),(zi 0)]:List Value).toArray),aW k3 76 (zg [Gn.v,Gp.v,v182.v,(zi c183)]),dW Vj Gn c175,TN Vk Gp Gh,h_ v182 Gj,N9 p9.1 r7]/\GZ aG fuel Cb y_ c175 Gh Gj c183 za=some R) ⟨_,0,_,_,_,_,_,_,⟨none,0,0⟩,[],⟨none,0,0⟩,[],⟨none,0,0⟩,rfl,df,rfl,(.conv .nil (jJ (Ro:=(az ax)) (E:=3)) (.cons .nil) (.conv .nil (jJ (Ro:=jZ) (E:=138)) (.cons .nil) (.conv .nil (zW (R:=fZ) (E:=155)) (.cons .nil) bT))),hF⟩ ?_
 rintro aqI _ _ ⟨aPK,y_,Cb,c175,Gh,Gj,c183,za,Gn,Vj,Gp,Vk,v182,rfl,rfl,aoO,hE,hF⟩
 refine Kb hE r7 (fun aMp=>?_)
 rcases Cb with _|⟨Vg,Cb⟩
 · have aDv:=dn aoO
   rw[GZ]at hF
   refine iq ?_
   refine mQ ?_
   refine iq ?_
   refine As (zg [Gn.v,Gp.v,v182.v,(zi c183)]) ?_
   refine fw ?_
   cases hF
   exact iW (Gn,Vj,Gp,Vk,v182) (.lZ rfl rfl .h rfl abu.h Dz.h.sz rfl rfl (.tmp rfl rfl .nil)) rfl (.sel (.cons .q3 (.cons .q3 (.rd .q3 rfl .nil))))
 obtain⟨aDv,aoP,aDw⟩:=kH aoO
 rw[GZ]at hF
 refine iq ?_
 refine mP ?_
 refine au ?_
 obtain⟨ahu,az5,aDx⟩:=bind_some hF
 refine pU (fun f' cs'=>∃(Vh:List Int)(c227:List aJ)(Vi:List Step)(c232:Int)(c233:Bool)(abL:Sv)(ahv:List Nat)(v228:Sv)(ahw:List Nat)(abM:Sv)(g:Fr),ahu=(Vh,c227,Vi,c232,c233)/\f'=dm g [(1,bf.v),(6,(pz k2)),(8,(pz k3)),(9,(.bool c233)),(10,p9.1.v),(11,(zi (y_:Int)))]/\bL cs' [dY bf aG,aW k2 76 (.agg ([(.slice none 0 0),(.slice none 0 0),(.slice none 0 0),(zi 0)]:List Value).toArray),aW k3 76 (zg [abL.v,v228.v,abM.v,(zi c232)]),dW ahv abL Vh,TN ahw v228 c227,h_ abM Vi,N9 p9.1 r7]) ?_ ?_
 · replace hF:=az5
   refine gU (iQ [0,2,3,4,5,6,7,8,1,9,10] [0,1,0,0,12,28,0,0,0,511,1023] [1,9] mixed (by decide+kernel) ?_)
   refine pu ?_
   refine Di aoP (fun aPL aPM=>?_)
   refine UO (Zz Vg) ZA (fun aPN=>?_)
   refine jw rfl .no rfl (fun ha=>gq (g:=true) (len:=0) (parts:=[]) sM.h vE.h .nil (vs:=[]) rfl rfl rfl (by simp)) (fun Vb=>?_)
   refine lQ (.cons .h .nil) (gu (Ro:=(az fZ)) (E:=155) (F:=[]) (xs:=([]:List Step)) fU rfl rfl) ?_
   refine lQ .nil (aeQ (R:=fZ) (E:=155) (k:=Vb) (i:=0) (m:=1)) ?_
   refine jw rfl .no rfl (fun ha=>gq (g:=true) (len:=0) (parts:=[]) jO.h gP.h .nil (vs:=[]) rfl rfl rfl (by simp)) (fun aqJ=>?_)
   refine lQ (.cons .h .nil) (gu (Ro:=(az ax)) (E:=3) (F:=[]) (xs:=([]:List Int)) fU rfl rfl) ?_
   refine lQ .nil (aeQ (R:=ax) (E:=3) (k:=aqJ) (i:=0) (m:=1)) ?_
   refine jw rfl .no rfl (fun ha=>gq (g:=true) (len:=0) (parts:=[]) sM.h vE.h .nil (vs:=[]) rfl rfl rfl (by simp)) (fun xL=>?_)
   refine lQ (.cons .h .nil) (gu (Ro:=(az fZ)) (E:=155) (F:=[]) (xs:=([]:List Step)) fU rfl rfl) ?_
   refine lQ .nil (aeQ (R:=fZ) (E:=155) (k:=xL) (i:=0) (m:=1)) ?_
   refine bnd hF fun ahs aDy hF=>dx rfl rfl .no (.rd .q9 rfl .nil) (.own (.t .h) (by simp[ah]) (.own .q3 (by simp[ah]) (.own .q5 (by simp[ah]) .nil))) (fun ha=>CG (post':=fun ahx:Sv×List Nat=>[dY ahx.1 ahs]) (fun ahx=>(.cO .h aX bT)) (cK aGg.h (.cons (EN ha (.tmp rfl rfl) rfl) .nil) (@as8 aG bf _ aDy))) (fun ahx=>?_)
   refine bnd hF fun J5 afX hF=>Dx1 (@atL _ _ _ _ _ _ _ (⟨(some ⟨Vb,0,none⟩),0,1⟩) _ (⟨(some ⟨aqJ,0,none⟩),0,1⟩) _ (⟨(some ⟨xL,0,none⟩),0,1⟩) _ afX) (fun Od=>?_)
   refine jF ?_
   refine fw ?_
   refine bnd hF fun Gm aDz hF=>oO (acW.h aDz) (fun _=>?_)
   refine fw ?_
   refine qo (fun f' cs'=>∃(g:Fr),f'=dm g [(1,bf.v),(6,(pz k2)),(8,(pz k3)),(9,(.bool za)),(10,p9.1.v),(11,(zi (y_:Int))),(12,Od.v),(13,(zi Gm)),(55,(.bool ((decide ((0:Int)<(J5.length:Int)))&&((!za)||(decide ((Gm:Int)<c183))))))]/\bL cs' [dY bf aG,aW k2 76 (.agg ([(.slice none 0 0),(.slice none 0 0),(.slice none 0 0),(zi 0)]:List Value).toArray),aW k3 76 (zg [Gn.v,Gp.v,v182.v,(zi c183)]),dW Vj Gn c175,TN Vk Gp Gh,h_ v182 Gj,N9 p9.1 r7,h_ Od J5]) ?_ ?_
   · refine dO ?_
     rcases kQ (decide ((0:Int)<(J5.length:Int)))with TU|TU
     · rw[TU]
       try rw[TU]at hF; dsimp only[eZ,eY]at hF
       refine lN ?_
       rcases kQ (!za)with TV|TV
       · rw[TV]
         try rw[TV]at hF; dsimp only[eZ,eY]at hF
         refine kP ?_
         exact⟨_,df,bT⟩
       rw[TV]
       try rw[TV]at hF; dsimp only[eZ,eY]at hF
       refine TM ?_
       exact⟨_,df,bT⟩
     rw[TU]
     try rw[TU]at hF; dsimp only[eZ,eY]at hF
     refine aaz ?_
     exact⟨_,df,bT⟩
   rintro _ _ ⟨aPO,rfl,hE⟩
   refine gV hE ?_
   refine Ci hF (fun aDA hF=>?_) (fun aDA hF=>?_)
   · refine fw ?_
     refine Ai aoP (fun aPP aPQ=>?_)
     refine abk (Zz Vg) ZA (fun aPR=>?_)
     refine bnd hF fun aht aDB hF=>V3 (avk.h aDB) (fun AB=>?_)
     refine eu ?_
     refine aP (iy Dz.h rfl (vs:=[(zg [AB.1.v,AB.2.2.1.v]),Od.v,(zi Gm)]) fG (cells:=[AB.1.v,AB.2.2.1.v,Od.v,(zi Gm)]) rfl) ?_
     refine As (zg [AB.1.v,AB.2.2.1.v,Od.v,(zi Gm)]) ?_
     refine dO ?_
     cases hF
     exact⟨_,_,_,_,_,AB.1,AB.2.1,AB.2.2.1,AB.2.2.2,Od,_,rfl,df,bT⟩
   refine au ?_
   cases hF
   exact⟨_,_,_,_,_,Gn,Vj,Gp,Vk,v182,_,rfl,df,bT⟩
 rintro _ _ ⟨Vh,c227,Vi,c232,c233,abL,ahv,v228,ahw,abM,aPS,rfl,rfl,hE⟩
 replace hF:=aDx
 try dsimp only at hF
 refine gV hE ?_
 refine fI ?_
 rw[wk y_]
 exact⟨_,lT _,_,y_+1,Cb,_,_,_,_,_,abL,ahv,v228,ahw,abM,rfl,df,aDw,bT,hF⟩
instance asa:IF3 26 t0 t26 t29 u28 Ll:=⟨fun h=>ar6 h⟩
def Qw(aG:List Method)(aK:Query):List Step->Nat->(List Int)->(List Int)->Option (Bool)
 |[],k20,c11,c14=>some true
 |jT::Jg,k20,c11,c14=>((iR jT.aJ 0 (IntKind.i64.wrap ((aK.aL.length:Int)-1))).bind fun zH=>
     bif (!zH)then (some true)
     else ((Ca c14 jT.aJ).bind fun WK=>
       bif WK then (some true)
       else ((iR jT.Method 0 (IntKind.i64.wrap ((aG.length:Int)-1))).bind fun zG=>
         bif (!zG)then (some true)
         else ((ix aG jT.Method).bind fun KC=>
           (ix aK.aL jT.aJ).bind fun x60=>
           (MW KC x60 c11).bind fun WL=>
           some (!WL))))).bind fun Kv=>
   match Kv with
   |c70=>if c70 then (
       some false)
     else (
       (app c14 ([jT.aJ]:List Int)).bind fun z74=>
       (ix aK.aL jT.aJ).bind fun Kt=>
       (Np c11 Kt).bind fun r86=>
       Qw aG aK Jg (k20+1) r86 z74)
def R6(aC:List Int)(aG:List Method)(aK:Query)(bY:List Step):Option (Bool):=
 ((Ni aC aG aK).bind fun r4=>
   bif (!r4)then (some true)
   else (some (((bY.length:Int):Int)!=(aK.aL.length:Int)))).bind fun o2=>
 match o2 with
 |c8=>if c8 then (
     some false)
   else (
     Qw aG aK bY 0 ([]:List Int) ([]:List Int))
instance auI:I4 93 t0 t26 t29 t32 u20 R6:=⟨by
 intro _ _ _ _ _ _ _ _ _ _ hF
 refine' en Tryz.func93 (R6.eq_1 ..)
 refine' rc (q1 24 tB) [1,3,6]
 refine' Wd (qq 9 (tO 3 (az ax)) (q1 10 (tO 3 (az ax)))) 11 [1,3,6]<;>rw[Qw]at hF<;>refine' go
 refine' qj ?_
 refine' go
 refine' dc (q1 86 tB) [1,3,6,9,10,11]⟩
def Qx(aG:List Method):List Step->Nat->Option (Bool)
 |[],k4=>some true
 |x6::dH,k4=>((iR x6.Method 0 (IntKind.i64.wrap ((aG.length:Int)-1))).bind fun fC=>
     bif (!fC)then (some true)
     else ((ix aG x6.Method).bind fun x23=>
       some ((x23.Limit:Int)!=0))).bind fun wQ=>
   match wQ with
   |zJ=>if zJ then (
       some false)
     else (
       Qx aG dH (k4+1))
def ZL(aG:List Method)(bY:List Step):Option (Bool):=
 Qx aG bY 0
instance auJ:I2 94 t26 t32 u20 ZL:=⟨by
 intro _ _ _ _ _ hF
 refine' en Tryz.func94 (ZL.eq_1 ..)
 refine' eP q0 5 [0,1]<;>rw[Qx]at hF<;>refine' go
 refine' qj ?_
 refine' go
 refine' rc (q1 33 tB) [0,1,5]⟩
def zM(gT:List Int):List (List Int)->Nat->(List (List Int))->Bool->Option ((List (List Int)))
 |[],k22,c15,c18=>if (!c18)then (
     (app ([]:List Int) gT).bind fun z32=>
     (app c15 ([z32]:List (List Int))).bind fun z36=>
     some z36)
   else (
     some c15)
 |x24::Tn,k22,c15,c18=>((bif (!c18)then ((Nc gT x24).bind fun iH=>
         some iH)
       else (some false)).bind fun o42=>
     match o42 with
     |c51=>if c51 then (
         (app ([]:List Int) gT).bind fun z53=>
         (app c15 ([z53]:List (List Int))).bind fun z57=>
         (app ([]:List Int) x24).bind fun z64=>
         (app z57 ([z64]:List (List Int))).bind fun z68=>
         some (z68,true))
       else (
         (app ([]:List Int) x24).bind fun z75=>
         (app c15 ([z75]:List (List Int))).bind fun z79=>
         some (z79,c18))).bind fun o40=>
   match o40 with
   |(c84,c87)=>zM gT Tn (k22+1) c84 c87
def LB(aG:List (List Int))(gT:List Int):List (List Int)->Nat->Bool->Option ((List (List Int)))
 |[],k6,c2=>zM gT aG 0 ([]:List (List Int)) c2
 |x8::C9,k6,c2=>(bif c2 then (some true)
     else ((Nn x8 gT).bind fun WH=>
       some WH)).bind fun o90=>
   match o90 with
   |En=>LB aG gT C9 (k6+1) En
def Ip(aG:List (List Int))(gT:List Int):Option ((List (List Int))):=
 LB aG gT aG 0 false
instance aJD:I2 175 A8 t0 Kn Ip:=⟨by
 intro _ _ _ _ _ hF
 refine' en Tryz.func175 (Ip.eq_1 ..)
 refine' ed (q1 6 tB) 7 [0,1,5]<;>rw[LB]at hF<;>refine' go
 refine' Wd (qq 5 (tO 22 (aa 3 (az ax))) (q1 6 tB)) 8 [0,1]<;>rw[zM]at hF<;>refine' go
 refine' cu (qq 5 (tO 22 (aa 3 (az ax))) (q1 6 tB)) [0,1,8]
 refine' rc (q1 40 tB) [0,1,5,6,8]
 refine' qj ?_
 refine' go
 refine' rc (q1 6 tB) [0,1,5,7]⟩
def LC(c3:List (List Int))(jc:aN):List Int->Nat->(List Int)->Option ((List (List Int)))
 |[],k27,c21=>(Ip c3 c21).bind fun r36=>
   some r36
 |x29::Tm,k27,c21=>(yn jc x29).bind fun pI=>
   (app c21 ([pI]:List Int)).bind fun z48=>
   LC c3 jc Tm (k27+1) z48
def Qf(aK:Query):List aN->Nat->(List (List Int))->Option ((List (List Int)))
 |[],k9,c3=>some c3
 |jc::r_,k9,c3=>(LC c3 jc aK.a_ 0 ([]:List Int)).bind fun wS=>
   match wS with
   |WA=>Qf aK r_ (k9+1) WA
def MB(aK:Query)(aG:List aN):Option ((List (List Int))):=
 Qf aK aG 0 ([]:List (List Int))
instance atM:I2 103 t29 t31 Kn MB:=⟨by
 intro _ _ _ _ _ _ hF
 have hK:=True.intro
 refine' en Tryz.func103 (MB.eq_1 ..)
 refine' dZ ?_
 refine' go
 refine' ed (q1 5 (tO 22 (aa 3 (az ax)))) 6 [1,2]<;>rw[Qf]at hF<;>refine' go
 refine' dZ ?_
 refine' go
 refine' dZ ?_
 refine' go
 refine' cu (q1 5 (tO 22 (aa 3 (az ax)))) [1,2,6]
 refine' dZ ?_
 refine' go
 refine' ed (q1 7 (tO 3 (az ax))) 8 [1,2,5,6]<;>rw[LC]at hF<;>refine' go
 refine' dZ ?_
 refine' go
 refine' dZ ?_
 refine' go
 refine' qj ?_
 refine' go⟩
theorem as9{aK:Query}{aA:Sv}{bB:Sv}{aG:List aN}{bf:Sv}{R:(List (List Int))}(hF:MB aK aG=some R):
   Fw.Spec Tryz.prog 103 [(.agg [aA.v,bB.v].toArray),bf.v] [aI (ak 3 ax) aA.v aK.a_,aI (ak 138 l7) bB.v aK.aL,aI (ak 152 sF) bf.v aG] (fun p:Sv×List Nat=>p.1.v) (fun p=>[ah (aa 22 (aa 3 (az ax))) p.2 p.1.v R]):=atM.h hF
def Qy(aG:List Method):List ag->Nat->Int->Option (Int)
 |[],k5,c1=>some c1
 |x7::fM,k5,c1=>(((iR x7.Method 0 (IntKind.i64.wrap ((aG.length:Int)-1))).bind fun kR=>
       bif kR then ((ix aG x7.Method).bind fun wR=>
         (iR wR.bK 0 99).bind fun r32=>
         some r32)
       else (some false)).bind fun o16=>
     match o16 with
     |ig=>if ig then (
         (ix aG x7.Method).bind fun x38=>
         some (IntKind.i64.wrap (c1+x38.bK)))
       else (
         some c1)).bind fun WI=>
   match WI with
   |c46=>Qy aG fM (k5+1) c46
def R7(aG:List Method)(C_:List ag):Option (Int):=
 Qy aG C_ 0 0
instance auK:I2 104 t26 t24 u0 R7:=⟨by
 intro _ _ _ _ _ hF
 refine' en Tryz.func104 (R7.eq_1 ..)
 refine' ed (q1 5 tI) 6 [0,1]<;>rw[Qy]at hF<;>refine' go
 refine' cu (q1 5 tI) [0,1,6]
 refine' rc (q1 33 tB) [0,1,5,6]⟩
theorem atN{aG:List Method}{aA:Sv}{C_:List ag}{bf:Sv}{R:Int}(hF:R7 aG C_=some R):
   Fw.Spec Tryz.prog 104 [aA.v,bf.v] [aI (ak 127 iB) aA.v aG,aI (ak 85 kN) bf.v C_] (fun _:Unit=>(.int .i64 R)) (fun _=>[]):=auK.h hF
def LD(ae:aJ)(aM:aN):List Int->Nat->(List Int)->Option ((List Int))
 |[],k11,c5=>some c5
 |sW::az6,k11,c5=>(ix ae.Terms sW).bind fun jT=>
   (yn aM jT).bind fun KE=>
   (app c5 ([KE]:List Int)).bind fun z32=>
   LD ae aM az6 (k11+1) z32
def Iq(aF:Method)(ae:aJ)(aM:aN):Option ((List Int)):=
 LD ae aM aF.bg 0 ([]:List Int)
instance atO:I3 96 t2 t17 t30 u1 Iq:=⟨by
 intro _ _ _ _ _ _ _ _ hF
 refine' en Tryz.func96 (Iq.eq_1 ..)
 refine' ed (q1 7 (tO 3 (az ax))) 8 [3,4,5]<;>rw[LD]at hF<;>refine' go⟩
theorem as_{aF:Method}{bB:Sv}{ae:aJ}{bR:Sv}{aM:aN}{bJ:Sv}{gK:Sv}{R:(List Int)}(hF:Iq aF ae aM=some R):
   Fw.Spec Tryz.prog 96 [(.agg [(.int .i64 aF.aD),bB.v,(.int .i64 aF.Limit),(.int .i64 aF.bK),(.int .i64 aF.gW)].toArray),(.agg [(.int .i64 ae.aD),bR.v].toArray),(.agg [bJ.v,gK.v].toArray)] [aI (ak 3 ax) bB.v aF.bg,aI (ak 3 ax) bR.v ae.Terms,aI (ak 3 ax) bJ.v aM.Vars,aI (ak 3 ax) gK.v aM.Values] (fun p:Sv×List Nat=>p.1.v) (fun p=>[ah (aa 3 (az ax)) p.2 p.1.v R]):=atO.h hF
def Rx(bG:Cache)(uQ:aS)(dA:Int):Option (Bool):=
 some ((decide ((uQ.At:Int)<=dA))&&((decide (((IntKind.i64.wrap (dA-uQ.At)):Int)<=bG.Age))&&(decide ((0:Int)<=uQ.At))))
instance aJE:I3 168 t23 t22 t1 u20 Rx:=⟨by
 intro bG _ uQ _ _ dA _ hF
 refine' en Tryz.func168 (Rx.eq_1 ..)
 refine' zA [(6,(.bool ((decide ((uQ.At:Int)<=dA))&&((decide (((IntKind.i64.wrap (dA-uQ.At)):Int)<=bG.Age))&&(decide ((0:Int)<=uQ.At))))))] [] (fun _=>?_)
 refine' go⟩
def Ir(aG:List Method)(ae:ag):Option (Bool):=
 ((iR ae.Method 0 (IntKind.i64.wrap ((aG.length:Int)-1))).bind fun r4=>
   bif r4 then ((ix aG ae.Method).bind fun x8=>
     some (((ae.Values.length:Int):Int)==(x8.bg.length:Int)))
   else (some false)).bind fun o2=>
 match o2 with
 |c15=>some c15
instance aJF:I2 220 t26 t9 u20 Ir:=⟨by
 intro _ _ _ _ _ hF
 refine' en Tryz.func220 (Ir.eq_1 ..)
 refine' dc (q1 4 tB) []⟩
def K6(aG:List Method)(ae:ag)(aM:ag)(ek:Nat)(x38:Int):List Int->Nat->Bool->Option (Sum (Bool) (Unit))
 |[],zD,uT=>if (!uT)then (
     some (.inl false))
   else (
     some (.inr ()))
 |x53::az7,zD,uT=>(bif uT then (some true)
     else ((ix aG aM.Method).bind fun x64=>
       (ix x64.bg (zD:Int)).bind fun x71=>
       (ix aG ae.Method).bind fun x77=>
       (ix x77.bg (ek:Int)).bind fun x84=>
       bif ((x71:Int)==x84)then (some ((x53:Int)==x38))
       else (some false))).bind fun o61=>
   match o61 with
   |c95=>K6 aG ae aM ek x38 az7 (zD+1) c95
def K7(aG:List Method)(ae:ag)(aM:ag):List Int->Nat->Option (Bool)
 |[],ek=>some true
 |x38::rZ,ek=>((K6 aG ae aM ek x38 aM.Values 0 false):Option (Sum (Bool) (Unit))).bind fun o45=>
   match o45 with
   | .inl r=>some r
   | .inr _=>K7 aG ae aM rZ (ek+1)
def PR(aG:List Method)(ae:ag)(aM:ag):Option (Bool):=
 ((Ir aG ae).bind fun r5=>
   bif (!r5)then (some true)
   else ((Ir aG aM).bind fun r9=>
     bif (!r9)then (some true)
     else ((ix aG ae.Method).bind fun sW=>
       (ix aG aM.Method).bind fun x19=>
       bif ((sW.aD:Int)!=x19.aD)then (some true)
       else ((ix aG ae.Method).bind fun wR=>
         some ((wR.Limit:Int)!=0))))).bind fun o3=>
 match o3 with
 |c32=>if c32 then (
     some false)
   else (
     K7 aG ae aM ae.Values 0)
instance aIw:I3 169 t26 t9 t9 u20 PR:=⟨by
 intro _ _ _ _ _ _ _ hF
 have hK:=True.intro
 refine' en Tryz.func169 (PR.eq_1 ..)
 refine' dZ ?_
 refine' go
 refine' dc (q1 43 tB) [0,4,5]
 refine' dZ ?_
 refine' go
 refine' eP q0 7 [0,4,5]<;>rw[K7]at hF<;>refine' go
 refine' dZ ?_
 refine' go
 refine' dZ ?_
 refine' go
 refine' cuS q0 [0,4,5,7]
 refine' dZ ?_
 refine' go
 refine' ed (q1 8 tB) 9 [0,4,5,7]<;>rw[K6]at hF<;>refine' go
 refine' dZ ?_
 refine' go
 refine' dZ ?_
 refine' go
 refine' qj ?_
 refine' go
 refine' dc (q1 8 tB) [0,4,5,7,9]⟩
def EC(aM:ag)(x6:Method)(c14:List aj)(jT:aj):Nat->Bool->Int->Option ((List aj))
 |0,_,_=>none
 |m35+1,mD,c34=>if ((decide ((c34:Int)<(x6.bg.length:Int)))&&mD)then (
     ((ix x6.bg c34).bind fun x47=>
       (iR x47 0 (IntKind.i64.wrap ((jT.Values.length:Int)-1))).bind fun r56=>
       bif r56 then ((ix x6.bg c34).bind fun x63=>
         (ix jT.Values x63).bind fun x69=>
         (ix aM.Values c34).bind fun Eg=>
         some ((x69:Int)==Eg))
       else (some false)).bind fun o45=>
     match o45 with
     |c81=>EC aM x6 c14 jT m35 c81 (IntKind.i64.wrap (c34+1)))
   else (
     if mD then (
       (xk jT.aD jT.Values).bind fun r88=>
       (app c14 ([r88]:List aj)).bind fun Wm=>
       some Wm)
     else (
       some c14))
def Lg(aM:ag)(x6:Method):List aj->Nat->(List aj)->Option ((List aj))
 |[],k20,c14=>some c14
 |jT::Jg,k20,c14=>(EC aM x6 c14 jT (((x6.bg.length:Int)-0).toNat+2) ((jT.aD:Int)==x6.aD) 0).bind fun Kv=>
   match Kv with
   |c97=>Lg aM x6 Jg (k20+1) c97
def Qg(aG:List Method)(dM:List aj)(aM:ag):Option ((List aj)):=
 (Ir aG aM).bind fun r3=>
 if (!r3)then (
   some ([]:List aj))
 else (
   (ix aG aM.Method).bind fun x6=>
   Lg aM x6 dM 0 ([]:List aj))
instance aII:I3 170 t26 t20 t9 u7 Qg:=⟨by
 intro _ _ _ _ _ _ _ hF
 have hK:=True.intro
 refine' en Tryz.func170 (Qg.eq_1 ..)
 refine' Gb dV []
 refine' dZ ?_
 refine' go
 refine' dZ ?_
 refine' go
 refine' ed (q1 7 (tO 164 dV)) 9 [1,5,8]<;>rw[Lg]at hF<;>refine' go
 refine' dZ ?_
 refine' go
 refine' dZ ?_
 refine' go
 refine' cu (q1 7 (tO 164 dV)) [1,5,8,9]
 refine' dZ ?_
 refine' go
 refine' Km (qq 10 tB (q1 11 tI)) [1,5,7,8,9]<;>rw[EC]at hF<;>refine' go
 refine' dZ ?_
 refine' go
 rename_i x6 _ _ _ _ _ _ _ _ _ _ _ _ _ _ _ _ _ _ _ mD c34 _ _
 refine' zA [(44,(.bool ((decide ((c34:Int)<(x6.bg.length:Int)))&&mD)))] [1,5,7,8,9,10,11] (fun _=>?_)
 refine' go
 refine' qj ?_
 refine' go
 refine' dc (q1 10 tB) [1,5,7,8,9,11]⟩
def O9(aG:List Method)(bG:Cache)(aM:ag)(dA:Int):List aS->Nat->Option ((List aj)×Bool)
 |[],k24=>some (([]:List aj),false)
 |wR::az8,k24=>((Rx bG wR dA).bind fun WK=>
     bif WK then ((PR aG wR.ag aM).bind fun Ku=>
       some Ku)
     else (some false)).bind fun o34=>
   match o34 with
   |c49=>if c49 then (
       (Qg aG wR.Facts aM).bind fun El=>
       some (El,true))
     else (
       O9 aG bG aM dA az8 (k24+1))
def K8(aC:List Int)(aG:List Method)(bG:Cache)(aM:ag)(dA:Int):Option ((List aj)×Bool):=
 ((IE aC aG bG).bind fun r5=>
   bif (!r5)then (some true)
   else ((EU aC aG aM).bind fun r9=>
     bif (!r9)then (some true)
     else ((ix aG aM.Method).bind fun sW=>
       some ((sW.Limit:Int)!=0)))).bind fun o3=>
 match o3 with
 |c19=>if c19 then (
     some (([]:List aj),false))
   else (
     O9 aG bG aM dA bG.Entries 0)
instance arX:I5 97 t0 t26 t23 t9 t1 u29 K8:=⟨by
 intro _ _ _ _ _ _ _ _ _ _ hF
 refine' en Tryz.func97 (K8.eq_1 ..)
 refine' rc (q1 33 tB) [1,4,7,8]
 refine' Gb dV []
 refine' eP q0 12 [1,4,7,8]<;>rw[O9]at hF<;>refine' go
 refine' Gb dV []
 refine' qj ?_
 refine' go
 refine' dc (q1 60 tB) [1,4,7,8,12]⟩
end Go.Proofs.YtlnefhbbbikmgabGreat
