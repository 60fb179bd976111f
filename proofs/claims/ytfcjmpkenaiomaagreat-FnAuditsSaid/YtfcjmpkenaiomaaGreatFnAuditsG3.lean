/-
  Functions of the program as Lean functions, and that the calls return what these say: part 4. No conditions.
-/
import Derived.Test.YtfcjmpkenaiomaaGreatFnAuditsG2
import Derived.KernelRfl
set_option maxRecDepth 100000
set_option maxHeartbeats 1000000
set_option linter.unusedVariables false
namespace Go.Proofs.YtfcjmpkenaiomaaGreat
open Go Go.Fw

def GN(aj:bg)(fuel:Nat):Nat->Int->Int->(List Int)->(List Int)->(List Method)->(List dh)->(List Fact)->Int->(List cB)->Int->Int->(List Access)->(List Int)->Int->(List (List (List Int)))->Int->Option (aY×bg)
 |0,_,_,_,_,_,_,_,_,_,_,_,_,_,_,_,_=>none
 |JW+1,Nr,Ns,vg,ut,uu,uw,pY,nN,uy,rM,rO,uz,uA,rP,uB,wF=>if (decide ((0:Int)<wF))then (
     ((kE (⟨aj.b,Nr,Ns⟩:bg) 4).bind fun jC=>
       if ((jC.1:Int)==0)then (
         if ((jC.1:Int)==0)then (
           (EF fuel (⟨aj.b,jC.2.i,jC.2.h⟩:bg) vg (⟨pY,nN⟩:Source)).bind fun SI=>
           (A7 (⟨ut,uu,uw,(⟨pY,nN⟩:Source),(⟨uy,rM⟩:Cache),rO,uz,uA,rP,uB⟩:aY) SI.1).bind fun jd=>
           some (SI.2.i,SI.2.h,jd.1.Schema,jd.1.Methods,jd.1.Rules,jd.1.Source.Facts,jd.1.Source.Version,jd.1.Cache.Entries,jd.1.Cache.Age,jd.1.Now,jd.1.Log,jd.1.Times,jd.1.Spent,jd.1.Results))
         else (
           if ((jC.1:Int)==2)then (
             (kE (⟨aj.b,jC.2.i,jC.2.h⟩:bg) 4).bind fun Nt=>
             (Be (⟨ut,uu,uw,(⟨pY,nN⟩:Source),(⟨uy,rM⟩:Cache),rO,uz,uA,rP,uB⟩:aY) (IntKind.i64.wrap (1+Nt.1))).bind fun je=>
             some (Nt.2.i,Nt.2.h,je.1.Schema,je.1.Methods,je.1.Rules,je.1.Source.Facts,je.1.Source.Version,je.1.Cache.Entries,je.1.Cache.Age,je.1.Now,je.1.Log,je.1.Times,je.1.Spent,je.1.Results))
           else (
             (IV fuel (⟨aj.b,jC.2.i,jC.2.h⟩:bg) vg).bind fun F9=>
             (Bg fuel (⟨ut,uu,uw,(⟨pY,nN⟩:Source),(⟨uy,rM⟩:Cache),rO,uz,uA,rP,uB⟩:aY) F9.1).bind fun jf=>
             some (F9.2.i,F9.2.h,jf.1.Schema,jf.1.Methods,jf.1.Rules,jf.1.Source.Facts,jf.1.Source.Version,jf.1.Cache.Entries,jf.1.Cache.Age,jf.1.Now,jf.1.Log,jf.1.Times,jf.1.Spent,jf.1.Results))))
       else (
         if ((jC.1:Int)==1)then (
           (EF fuel (⟨aj.b,jC.2.i,jC.2.h⟩:bg) vg (⟨pY,nN⟩:Source)).bind fun SK=>
           (A7 (⟨ut,uu,uw,(⟨pY,nN⟩:Source),(⟨uy,rM⟩:Cache),rO,uz,uA,rP,uB⟩:aY) SK.1).bind fun jg=>
           some (SK.2.i,SK.2.h,jg.1.Schema,jg.1.Methods,jg.1.Rules,jg.1.Source.Facts,jg.1.Source.Version,jg.1.Cache.Entries,jg.1.Cache.Age,jg.1.Now,jg.1.Log,jg.1.Times,jg.1.Spent,jg.1.Results))
         else (
           if ((jC.1:Int)==2)then (
             (kE (⟨aj.b,jC.2.i,jC.2.h⟩:bg) 4).bind fun Nu=>
             (Be (⟨ut,uu,uw,(⟨pY,nN⟩:Source),(⟨uy,rM⟩:Cache),rO,uz,uA,rP,uB⟩:aY) (IntKind.i64.wrap (1+Nu.1))).bind fun jh=>
             some (Nu.2.i,Nu.2.h,jh.1.Schema,jh.1.Methods,jh.1.Rules,jh.1.Source.Facts,jh.1.Source.Version,jh.1.Cache.Entries,jh.1.Cache.Age,jh.1.Now,jh.1.Log,jh.1.Times,jh.1.Spent,jh.1.Results))
           else (
             (IV fuel (⟨aj.b,jC.2.i,jC.2.h⟩:bg) vg).bind fun F_=>
             (Bg fuel (⟨ut,uu,uw,(⟨pY,nN⟩:Source),(⟨uy,rM⟩:Cache),rO,uz,uA,rP,uB⟩:aY) F_.1).bind fun ji=>
             some (F_.2.i,F_.2.h,ji.1.Schema,ji.1.Methods,ji.1.Rules,ji.1.Source.Facts,ji.1.Source.Version,ji.1.Cache.Entries,ji.1.Cache.Age,ji.1.Now,ji.1.Log,ji.1.Times,ji.1.Spent,ji.1.Results))))).bind fun adv=>
     match adv with
     |(SN,SQ,SS,SV,SX,SY,S9,S_,Ta,Tc,Td,Te,Tf,Tg)=>GN aj fuel JW SN SQ vg SS SV SX SY S9 S_ Ta Tc Td Te Tf Tg (IntKind.i64.wrap (wF-1)))
   else (
     some ((⟨ut,uu,uw,(⟨pY,nN⟩:Source),(⟨uy,rM⟩:Cache),rO,uz,uA,rP,uB⟩:aY),(⟨aj.b,Nr,Ns⟩:bg)))
def GQ(aj:bg)(fuel:Nat):Nat->Int->Int->(List Int)->(List Int)->(List Method)->(List dh)->(List Fact)->Int->(List cB)->Int->Int->(List Access)->(List Int)->Int->(List (List (List Int)))->Int->Option (aY×bg)
 |0,_,_,_,_,_,_,_,_,_,_,_,_,_,_,_,_=>none
 |Jq+1,MP,MQ,uT,tN,tO,tQ,pK,nI,tT,qR,qU,tV,tX,qV,tY,vT=>if (decide ((0:Int)<vT))then (
     ((kE (⟨aj.b,MP,MQ⟩:bg) 4).bind fun jv=>
       if ((jv.1:Int)==0)then (
         if ((jv.1:Int)==0)then (
           (EF fuel (⟨aj.b,jv.2.i,jv.2.h⟩:bg) uT (⟨pK,nI⟩:Source)).bind fun QN=>
           (A7 (⟨tN,tO,tQ,(⟨pK,nI⟩:Source),(⟨tT,qR⟩:Cache),qU,tV,tX,qV,tY⟩:aY) QN.1).bind fun iU=>
           some (QN.2.i,QN.2.h,iU.1.Schema,iU.1.Methods,iU.1.Rules,iU.1.Source.Facts,iU.1.Source.Version,iU.1.Cache.Entries,iU.1.Cache.Age,iU.1.Now,iU.1.Log,iU.1.Times,iU.1.Spent,iU.1.Results))
         else (
           if ((jv.1:Int)==2)then (
             (kE (⟨aj.b,jv.2.i,jv.2.h⟩:bg) 4).bind fun MR=>
             (Be (⟨tN,tO,tQ,(⟨pK,nI⟩:Source),(⟨tT,qR⟩:Cache),qU,tV,tX,qV,tY⟩:aY) (IntKind.i64.wrap (1+MR.1))).bind fun iV=>
             some (MR.2.i,MR.2.h,iV.1.Schema,iV.1.Methods,iV.1.Rules,iV.1.Source.Facts,iV.1.Source.Version,iV.1.Cache.Entries,iV.1.Cache.Age,iV.1.Now,iV.1.Log,iV.1.Times,iV.1.Spent,iV.1.Results))
           else (
             (IV fuel (⟨aj.b,jv.2.i,jv.2.h⟩:bg) uT).bind fun Fz=>
             (Bg fuel (⟨tN,tO,tQ,(⟨pK,nI⟩:Source),(⟨tT,qR⟩:Cache),qU,tV,tX,qV,tY⟩:aY) Fz.1).bind fun iW=>
             some (Fz.2.i,Fz.2.h,iW.1.Schema,iW.1.Methods,iW.1.Rules,iW.1.Source.Facts,iW.1.Source.Version,iW.1.Cache.Entries,iW.1.Cache.Age,iW.1.Now,iW.1.Log,iW.1.Times,iW.1.Spent,iW.1.Results))))
       else (
         if ((jv.1:Int)==1)then (
           (EF fuel (⟨aj.b,jv.2.i,jv.2.h⟩:bg) uT (⟨pK,nI⟩:Source)).bind fun QO=>
           (A7 (⟨tN,tO,tQ,(⟨pK,nI⟩:Source),(⟨tT,qR⟩:Cache),qU,tV,tX,qV,tY⟩:aY) QO.1).bind fun iX=>
           some (QO.2.i,QO.2.h,iX.1.Schema,iX.1.Methods,iX.1.Rules,iX.1.Source.Facts,iX.1.Source.Version,iX.1.Cache.Entries,iX.1.Cache.Age,iX.1.Now,iX.1.Log,iX.1.Times,iX.1.Spent,iX.1.Results))
         else (
           if ((jv.1:Int)==2)then (
             (kE (⟨aj.b,jv.2.i,jv.2.h⟩:bg) 4).bind fun MS=>
             (Be (⟨tN,tO,tQ,(⟨pK,nI⟩:Source),(⟨tT,qR⟩:Cache),qU,tV,tX,qV,tY⟩:aY) (IntKind.i64.wrap (1+MS.1))).bind fun iY=>
             some (MS.2.i,MS.2.h,iY.1.Schema,iY.1.Methods,iY.1.Rules,iY.1.Source.Facts,iY.1.Source.Version,iY.1.Cache.Entries,iY.1.Cache.Age,iY.1.Now,iY.1.Log,iY.1.Times,iY.1.Spent,iY.1.Results))
           else (
             (IV fuel (⟨aj.b,jv.2.i,jv.2.h⟩:bg) uT).bind fun FB=>
             (Bg fuel (⟨tN,tO,tQ,(⟨pK,nI⟩:Source),(⟨tT,qR⟩:Cache),qU,tV,tX,qV,tY⟩:aY) FB.1).bind fun iZ=>
             some (FB.2.i,FB.2.h,iZ.1.Schema,iZ.1.Methods,iZ.1.Rules,iZ.1.Source.Facts,iZ.1.Source.Version,iZ.1.Cache.Entries,iZ.1.Cache.Age,iZ.1.Now,iZ.1.Log,iZ.1.Times,iZ.1.Spent,iZ.1.Results))))).bind fun abq=>
     match abq with
     |(QP,QQ,QR,QS,QT,QU,QV,QW,QX,QY,QZ,Q0,Q3,Q4)=>GQ aj fuel Jq QP QQ uT QR QS QT QU QV QW QX QY QZ Q0 Q3 Q4 (IntKind.i64.wrap (vT-1)))
   else (
     some ((⟨tN,tO,tQ,(⟨pK,nI⟩:Source),(⟨tT,qR⟩:Cache),qU,tV,tX,qV,tY⟩:aY),(⟨aj.b,MP,MQ⟩:bg)))
def GR(aj:bg)(r2:(List Int)×bg)(fuel:Nat):Nat->Int->Int->(List Int)->(List Method)->(List dh)->(List Fact)->Int->(List cB)->Int->Int->(List Access)->(List Int)->Int->(List (List (List Int)))->Int->Option (aY×bg)
 |0,_,_,_,_,_,_,_,_,_,_,_,_,_,_,_=>none
 |Kz+1,c31,c32,jZ,DL,kC,uJ,DN,c46,c49,DR,c51,rV,uH,uK,xJ=>if (decide ((0:Int)<xJ))then (
     (Vh fuel (⟨aj.b,c31,c32⟩:bg) r2.1).bind fun Ue=>
     (OU (⟨jZ,DL,kC,(⟨uJ,DN⟩:Source),(⟨c46,c49⟩:Cache),DR,c51,rV,uH,uK⟩:aY) Ue.1).bind fun iR=>
     GR aj r2 fuel Kz Ue.2.i Ue.2.h iR.1.Schema iR.1.Methods iR.1.Rules iR.1.Source.Facts iR.1.Source.Version iR.1.Cache.Entries iR.1.Cache.Age iR.1.Now iR.1.Log iR.1.Times iR.1.Spent iR.1.Results (IntKind.i64.wrap (xJ-1)))
   else (
     (Vi fuel (⟨aj.b,c31,c32⟩:bg) r2.1).bind fun AO=>
     if (decide ((0:Int)<(AO.1.length:Int)))then (
       (ix AO.1 0).bind fun x80=>
       (Py (⟨jZ,DL,kC,(⟨uJ,DN⟩:Source),(⟨c46,c49⟩:Cache),DR,c51,rV,uH,uK⟩:aY) x80).bind fun iq=>
       (kE (⟨aj.b,AO.2.i,AO.2.h⟩:bg) 8).bind fun KA=>
       GN aj fuel ((KA.1-0).toNat+2) KA.2.i KA.2.h r2.1 iq.1.Schema iq.1.Methods iq.1.Rules iq.1.Source.Facts iq.1.Source.Version iq.1.Cache.Entries iq.1.Cache.Age iq.1.Now iq.1.Log iq.1.Times iq.1.Spent iq.1.Results KA.1)
     else (
       (kE (⟨aj.b,AO.2.i,AO.2.h⟩:bg) 8).bind fun JX=>
       GQ aj fuel ((JX.1-0).toNat+2) JX.2.i JX.2.h r2.1 jZ DL kC uJ DN c46 c49 DR c51 rV uH uK JX.1))
def UZ(fuel:Nat)(aj:bg):Option (aY×bg):=
 (Vg aj).bind fun r2=>
 (kE (⟨aj.b,r2.2.i,r2.2.h⟩:bg) 6).bind fun r5=>
 (Oj r2.1 r5.1).bind fun r8=>
 (kE (⟨aj.b,r5.2.i,r5.2.h⟩:bg) 3).bind fun dz=>
 GR aj r2 fuel (((IntKind.i64.wrap (1+dz.1))-0).toNat+2) dz.2.i dz.2.h r8.1.Schema r8.1.Methods r8.1.Rules r8.1.Source.Facts r8.1.Source.Version r8.1.Cache.Entries r8.1.Cache.Age r8.1.Now r8.1.Log r8.1.Times r8.1.Spent r8.1.Results (IntKind.i64.wrap (1+dz.1))
theorem al1{fuel bG:Nat}{aj:bg}{ae:Sv}{R:aY×bg}(hF:UZ fuel aj=some R):
   Fw.Spec Tryz.prog 50 [(pz bG)] [aW bG 77 (zg [ae.v,(zi aj.i),(zi aj.h)]),kz ae aj.b] (fun p:Sv×List Nat×Sv×List Nat×Sv×List Nat×Sv×List Nat×Sv×Sv×List Nat×Sv×List Nat×Sv×List Nat=>(zg [p.1.v,p.2.2.1.v,p.2.2.2.2.1.v,p.2.2.2.2.2.2.1.v,(zi R.1.Source.Version),p.2.2.2.2.2.2.2.2.1.v,(zi R.1.Cache.Age),(zi R.1.Now),p.2.2.2.2.2.2.2.2.2.1.v,p.2.2.2.2.2.2.2.2.2.2.2.1.v,(zi R.1.Spent),p.2.2.2.2.2.2.2.2.2.2.2.2.2.1.v])) (fun p=>[bI p.2.1 p.1 R.1.Schema,nJ p.2.2.2.1 p.2.2.1 R.1.Methods,mE p.2.2.2.2.2.1 p.2.2.2.2.1 R.1.Rules,eP p.2.2.2.2.2.2.2.1 p.2.2.2.2.2.2.1 R.1.Source.Facts,dM p.2.2.2.2.2.2.2.2.1 R.1.Cache.Entries,kK p.2.2.2.2.2.2.2.2.2.2.1 p.2.2.2.2.2.2.2.2.2.1 R.1.Log,bI p.2.2.2.2.2.2.2.2.2.2.2.2.1 p.2.2.2.2.2.2.2.2.2.2.2.1 R.1.Times,aT (aF 152 (aF 24 (aF 3 (aC az)))) p.2.2.2.2.2.2.2.2.2.2.2.2.2.2 p.2.2.2.2.2.2.2.2.2.2.2.2.2.1.v R.1.Results,aW bG 77 (zg [ae.v,(zi R.2.i),(zi R.2.h)])]):=by
 refine Se 96 Tryz.func50 [.cell 2 36] ?_
 intro H0 F0
 unfold UZ at hF
 refine dC (dH rfl (rY (g:=true) eG.h rfl rfl) (fun k1=>?_))
 refine df (dC (Cm (pz bG) rfl rfl ?_))
 refine bnd hF fun r2 hx3 hF=>Av (am0 hx3) (fun p4=>?_)
 refine Ca p4.1.v rfl rfl ?_
 refine df (dC (Cm p4.1.v rfl rfl ?_))
 refine Cm (pz bG) rfl rfl ?_
 refine bnd hF fun r5 hx6 hF=>gB (lm hx6) (fun p7=>?_)
 refine bnd hF fun r8 bZ hF=>abW (.cons (.t .h) .nil) (jV aG (fun _=>(.cons (.cons (.cons (.cons (.cons (.cons (.cons (.cons .nil))))))))) (bV av'.h cu (@alV r2.1 p4.1 r5.1 _ bZ))) (fun fT=>?_)
 refine Cm (.tuple [(zg [fT.1.v,fT.2.2.1.v,fT.2.2.2.2.1.v,fT.2.2.2.2.2.2.1.v,(zi r8.1.Source.Version),fT.2.2.2.2.2.2.2.2.1.v,(zi r8.1.Cache.Age),(zi r8.1.Now),fT.2.2.2.2.2.2.2.2.2.2.1.v,fT.2.2.2.2.2.2.2.2.2.2.2.2.1.v,(zi r8.1.Spent),fT.2.2.2.2.2.2.2.2.2.2.2.2.2.2.1.v]),(.bool r8.2)].toArray) rfl rfl ?_
 refine zx ?_
 refine zx ?_
 refine d_ (fun k11=>?_)
 refine As (zg [fT.1.v,fT.2.2.1.v,fT.2.2.2.2.1.v,fT.2.2.2.2.2.2.1.v,(zi r8.1.Source.Version),fT.2.2.2.2.2.2.2.2.1.v,(zi r8.1.Cache.Age),(zi r8.1.Now),fT.2.2.2.2.2.2.2.2.2.2.1.v,fT.2.2.2.2.2.2.2.2.2.2.2.2.1.v,(zi r8.1.Spent),fT.2.2.2.2.2.2.2.2.2.2.2.2.2.2.1.v]) ?_
 refine Ca (.bool r8.2) rfl rfl ?_
 refine df (j4 (dC (Cm (pz bG) rfl rfl ?_)))
 refine bnd hF fun dz iJ hF=>gB (lm iJ) (fun mh=>?_)
 refine aN (nW (i:=1) (j:=dz.1) (.int _ _) (.tmp rfl rfl)) ?_
 refine Ca (zi (IntKind.i64.wrap (1+dz.1))) rfl rfl ?_
 refine df (bn (bU (m:=(((IntKind.i64.wrap (1+dz.1))-0).toNat+2)) (fun Kz f' cs'=>∃(g:Fr)(c31 c32:Int)(jZ:List Int)(DL:List Method)(kC:List dh)(uJ:List Fact)(DN:Int)(c46:List cB)(c49 DR:Int)(c51:List Access)(rV:List Int)(uH:Int)(uK:List (List (List Int)))(xJ:Int)(v34:Sv)(F35:List Nat)(v37:Sv)(F38:List Nat)(v40:Sv)(Kw:List Nat)(v43:Sv)(F44:List Nat)(v47:Sv)(F48:List Nat)(v52:Sv)(F53:List Nat)(v55:Sv)(F56:List Nat)(v59:Sv)(KC:List Nat),f'=aQ g [(0,(pz bG)),(2,(pz k1)),(3,p4.1.v),(4,(pz k11)),(6,(zi xJ))]/\aO cs' [aW bG 77 (zg [ae.v,(zi c31),(zi c32)]),kz ae aj.b,aW k1 36 (.agg ([(.slice none 0 0),(.slice none 0 0),(.slice none 0 0),(.slice none 0 0),(zi 0),(.slice none 0 0),(zi 0),(zi 0),(.slice none 0 0),(.slice none 0 0),(zi 0),(.slice none 0 0)]:List Value).toArray),bI p4.2 p4.1 r2.1,aW k11 36 (zg [v34.v,v37.v,v40.v,v43.v,(zi DN),v47.v,(zi c49),(zi DR),v52.v,v55.v,(zi uH),v59.v]),bI F35 v34 jZ,nJ F38 v37 DL,mE Kw v40 kC,eP F44 v43 uJ,oF F48 v47 c46,kK F53 v52 c51,bI F56 v55 rV,aT (aF 152 (aF 24 (aF 3 (aC az)))) KC v59.v uK]/\GR aj r2 fuel Kz c31 c32 jZ DL kC uJ DN c46 c49 DR c51 rV uH uK xJ=some R) ⟨_,_,_,_,_,_,_,_,_,_,_,_,_,_,_,_,fT.1,fT.2.1,fT.2.2.1,fT.2.2.2.1,fT.2.2.2.2.1,fT.2.2.2.2.2.1,fT.2.2.2.2.2.2.1,fT.2.2.2.2.2.2.2.1,fT.2.2.2.2.2.2.2.2.1,fT.2.2.2.2.2.2.2.2.2.1,fT.2.2.2.2.2.2.2.2.2.2.1,fT.2.2.2.2.2.2.2.2.2.2.2.1,fT.2.2.2.2.2.2.2.2.2.2.2.2.1,fT.2.2.2.2.2.2.2.2.2.2.2.2.2.1,fT.2.2.2.2.2.2.2.2.2.2.2.2.2.2.1,fT.2.2.2.2.2.2.2.2.2.2.2.2.2.2.2,aA,ay,hF⟩ ?_))
 rintro Kz _ _ ⟨g63,c31,c32,jZ,DL,kC,uJ,DN,c46,c49,DR,c51,rV,uH,uK,xJ,v34,F35,v37,F38,v40,Kw,v43,F44,v47,F48,v52,F53,v55,F56,v59,KC,rfl,hE,hF⟩
 refine bu hE ?_
 rcases Kz with _|Kz
 · rw[GR]at hF
   exact absurd hF (by simp)
 rw[GR]at hF
 refine j4 (dC (Cm (zi xJ) rfl rfl ?_))
 refine aN (Je (i:=xJ) (j:=0) (.tmp rfl rfl) (.int _ _)) ?_
 refine df (kg (b:=(decide ((0:Int)<xJ))) (.tmp rfl rfl) (fun aas=>?_) (fun aas=>?_))
 · rw[if_pos aas]at hF
   refine nU (PQ (dV [0,1,2,8,3,4,5,6,7,9,10] [0,0,0,6,15,31,63,63,0,383,1023] [3,4,9] mixed (by decide+kernel) ?_))
   refine dO rfl .no .q4 (fun ha hp=>fP gP.h eG.h.sz rfl (EN ha (.tmp rfl rfl) rfl) hp.2 rfl) ?_
   refine Dm (pz bG) rfl rfl rfl rfl ?_
   refine Dm p4.1.v rfl rfl rfl rfl ?_
   refine iy rfl .no rfl (fun ha=>rY (g:=true) eG.h rfl rfl) (fun k70=>?_)
   refine bnd hF fun Ue RD hF=>Mw rfl rfl .no (.cons .q4 (.cons (.t .h) (.rd (.t .h) rfl .nil))) (.own .h (fun _ h=>h) (.own .q3 (fun _ h=>h) .nil)) (fun ha=>jV aG (fun _=>(.cons (.cons .nil))) (jm (.cons (.t .h) (.rd (.t .h) rfl (.rd .h rfl .nil))) (bV awc.h (.cons (EN ha (.tmp rfl rfl) rfl) (.cons (EN ha (.tmp rfl rfl) rfl) .nil)) (@am1 fuel bG (⟨aj.b,c31,c32⟩:bg) ae r2.1 p4.1 _ RD)))) (fun p73=>?_)
   refine bnd hF fun iR adj hF=>aps rfl rfl .no (.cons (.t .h) (.cons .q13 (.cons .q12 (.cons .q11 (.cons .q10 (.cons .q9 (.cons .q8 (.cons .q7 (.cons .q6 .nil))))))))) (.own .q2 (fun _ h=>h) (.dep rfl .nil)) (fun ha=>jH (pre:=[]) (.cons aG (.cons aG (.cons aG (.cons aG (.cons aG (.cons aG (.cons aG (.cons aG (.cons aG .nil))))))))) (fun _=>(.cons (.cons (.cons (.cons (.cons (.cons (.cons (.cons .nil))))))))) (bV awd.h (.cons (EN ha (.tmp rfl rfl) rfl) (.cons (EN ha (.tmp rfl rfl) rfl) .nil)) (@amB (⟨jZ,DL,kC,(⟨uJ,DN⟩:Source),(⟨c46,c49⟩:Cache),DR,c51,rV,uH,uK⟩:aY) v34 v37 v40 v43 v47 v52 v55 v59 Ue.1 p73.1 _ adj))) (fun eZ=>?_)
   refine Dm (.tuple [(zg [eZ.1.v,eZ.2.2.1.v,eZ.2.2.2.2.1.v,eZ.2.2.2.2.2.2.1.v,(zi iR.1.Source.Version),eZ.2.2.2.2.2.2.2.2.1.v,(zi iR.1.Cache.Age),(zi iR.1.Now),eZ.2.2.2.2.2.2.2.2.2.2.1.v,eZ.2.2.2.2.2.2.2.2.2.2.2.2.1.v,(zi iR.1.Spent),eZ.2.2.2.2.2.2.2.2.2.2.2.2.2.2.1.v]),(.bool iR.2)].toArray) rfl rfl rfl rfl ?_
   refine bN rfl .no (fun ha=>kD (l:=[(zg [eZ.1.v,eZ.2.2.1.v,eZ.2.2.2.2.1.v,eZ.2.2.2.2.2.2.1.v,(zi iR.1.Source.Version),eZ.2.2.2.2.2.2.2.2.1.v,(zi iR.1.Cache.Age),(zi iR.1.Now),eZ.2.2.2.2.2.2.2.2.2.2.1.v,eZ.2.2.2.2.2.2.2.2.2.2.2.2.1.v,(zi iR.1.Spent),eZ.2.2.2.2.2.2.2.2.2.2.2.2.2.2.1.v]),(.bool iR.2)]) (v:=(zg [eZ.1.v,eZ.2.2.1.v,eZ.2.2.2.2.1.v,eZ.2.2.2.2.2.2.1.v,(zi iR.1.Source.Version),eZ.2.2.2.2.2.2.2.2.1.v,(zi iR.1.Cache.Age),(zi iR.1.Now),eZ.2.2.2.2.2.2.2.2.2.2.1.v,eZ.2.2.2.2.2.2.2.2.2.2.2.2.1.v,(zi iR.1.Spent),eZ.2.2.2.2.2.2.2.2.2.2.2.2.2.2.1.v])) (EN ha (.tmp rfl rfl) rfl) rfl) ?_
   refine bN rfl .no (fun ha=>kD (l:=[(zg [eZ.1.v,eZ.2.2.1.v,eZ.2.2.2.2.1.v,eZ.2.2.2.2.2.2.1.v,(zi iR.1.Source.Version),eZ.2.2.2.2.2.2.2.2.1.v,(zi iR.1.Cache.Age),(zi iR.1.Now),eZ.2.2.2.2.2.2.2.2.2.2.1.v,eZ.2.2.2.2.2.2.2.2.2.2.2.2.1.v,(zi iR.1.Spent),eZ.2.2.2.2.2.2.2.2.2.2.2.2.2.2.1.v]),(.bool iR.2)]) (v:=(.bool iR.2)) (EN ha (.tmp rfl rfl) rfl) rfl) ?_
   refine cO rfl rfl .no (.cons (.t (.t (.t (.t (.t (.t (.t (.t (.t (.t (.t (.t (.t (.t (.t (.t (.t (.t (.t .h))))))))))))))))))) .nil) (.dep rfl (.dep rfl .nil)) (fun ha=>gD (e':=(zg [eZ.1.v,eZ.2.2.1.v,eZ.2.2.2.2.1.v,eZ.2.2.2.2.2.2.1.v,(zi iR.1.Source.Version),eZ.2.2.2.2.2.2.2.2.1.v,(zi iR.1.Cache.Age),(zi iR.1.Now),eZ.2.2.2.2.2.2.2.2.2.2.1.v,eZ.2.2.2.2.2.2.2.2.2.2.2.2.1.v,(zi iR.1.Spent),eZ.2.2.2.2.2.2.2.2.2.2.2.2.2.2.1.v])) (v:=(zg [eZ.1.v,eZ.2.2.1.v,eZ.2.2.2.2.1.v,eZ.2.2.2.2.2.2.1.v,(zi iR.1.Source.Version),eZ.2.2.2.2.2.2.2.2.1.v,(zi iR.1.Cache.Age),(zi iR.1.Now),eZ.2.2.2.2.2.2.2.2.2.2.1.v,eZ.2.2.2.2.2.2.2.2.2.2.2.2.1.v,(zi iR.1.Spent),eZ.2.2.2.2.2.2.2.2.2.2.2.2.2.2.1.v])) eG.h.sz (EN ha (.tmp rfl rfl) rfl) (EN ha (.tmp rfl rfl) rfl) rfl rfl rfl rfl rfl) (fun _=>?_)
   refine Da (.bool iR.2) rfl rfl rfl rfl ?_
   refine l6 (kT (eu .h (fun hp=>fP gP.h eG.h.sz rfl (.tmp rfl rfl) hp.2 rfl) ?_))
   refine As (zg [eZ.1.v,eZ.2.2.1.v,eZ.2.2.2.2.1.v,eZ.2.2.2.2.2.2.1.v,(zi iR.1.Source.Version),eZ.2.2.2.2.2.2.2.2.1.v,(zi iR.1.Cache.Age),(zi iR.1.Now),eZ.2.2.2.2.2.2.2.2.2.2.1.v,eZ.2.2.2.2.2.2.2.2.2.2.2.2.1.v,(zi iR.1.Spent),eZ.2.2.2.2.2.2.2.2.2.2.2.2.2.2.1.v]) ?_
   refine df (kT (Cm (zi xJ) rfl rfl ?_))
   refine aN (ME (i:=xJ) (j:=1) (.tmp rfl rfl) (.int _ _)) ?_
   refine Ca (zi (IntKind.i64.wrap (xJ-1))) rfl rfl ?_
   refine df ?_
   exact⟨Kz,bY _,_,_,_,_,_,_,_,_,_,_,_,_,_,_,_,_,eZ.1,eZ.2.1,eZ.2.2.1,eZ.2.2.2.1,eZ.2.2.2.2.1,eZ.2.2.2.2.2.1,eZ.2.2.2.2.2.2.1,eZ.2.2.2.2.2.2.2.1,eZ.2.2.2.2.2.2.2.2.1,eZ.2.2.2.2.2.2.2.2.2.1,eZ.2.2.2.2.2.2.2.2.2.2.1,eZ.2.2.2.2.2.2.2.2.2.2.2.1,eZ.2.2.2.2.2.2.2.2.2.2.2.2.1,eZ.2.2.2.2.2.2.2.2.2.2.2.2.2.1,eZ.2.2.2.2.2.2.2.2.2.2.2.2.2.2.1,eZ.2.2.2.2.2.2.2.2.2.2.2.2.2.2.2,aA,ay,hF⟩
 rw[if_neg (nt aas)]at hF
 refine EZ ?_
 iterate 2 refine Bb ?_
 refine ER (dC (Cm (pz bG) rfl rfl ?_))
 refine Cm p4.1.v rfl rfl ?_
 refine bnd hF fun AO adl hF=>Ra (.cons .q3 (.cons .h (.rd .h rfl .nil))) (jV aG (fun _=>(.cons (.cons .nil))) (jm (.cons (.t .h) (.rd (.t .h) rfl (.rd .h rfl .nil))) (bV awj.h cu (@am4 fuel bG (⟨aj.b,c31,c32⟩:bg) ae r2.1 p4.1 _ adl)))) (fun p79=>?_)
 refine Ca p79.1.v rfl rfl ?_
 refine df (j4 (dC (Cm p79.1.v rfl rfl ?_)))
 refine eu (.t .h) (fun hp=>rZ (l:=AO.1.length) CV.h (.tmp rfl rfl) (L6 hp)) ?_
 refine aN (Je (i:=(AO.1.length:Int)) (j:=0) (.tmp rfl rfl) (.int _ _)) ?_
 refine df (kg (b:=(decide ((0:Int)<(AO.1.length:Int)))) (.tmp rfl rfl) (fun aat=>?_) (fun aat=>?_))
 · rw[if_pos aat]at hF
   refine iG (.t .h) aG ?_
   refine dV [0,1,2,3,8,4,5,6,7,9,10] [0,0,2,6,15,31,63,63,0,383,1023] [4,9] mixed (by decide+kernel) ?_
   refine dO rfl .no .q5 (fun ha hp=>fP gP.h eG.h.sz rfl (EN ha (.tmp rfl rfl) rfl) hp.2 rfl) ?_
   refine Dm p79.1.v rfl rfl rfl rfl ?_
   refine zI hF fun x80 aEg ayq hF=>?_
   refine Di ayq (fun k84 j85=>?_)
   refine jR (LM x80) Pv (fun p86=>?_)
   refine iy rfl .no rfl (fun ha=>rY (g:=true) eG.h rfl rfl) (fun k87=>?_)
   refine bnd hF fun iq adm hF=>apr rfl rfl .no (.cons (.t (.t (.t (.t (.t (.t (.t (.t (.t (.t (.t (.t (.t (.t (.t (.t .h)))))))))))))))) (.cons (.t (.t (.t (.t (.t (.t (.t (.t (.t (.t (.t (.t (.t (.t (.t .h))))))))))))))) (.cons .q14 (.cons .q13 (.cons .q12 (.cons .q11 (.cons .q10 (.cons .q9 (.rd (.t .h) rfl .nil))))))))) (.own .h (fun _ h=>h) (.dep rfl .nil)) (fun ha=>jH (pre:=_) (.cons aG (.cons aG (.cons aG (.cons aG (.cons aG (.cons aG (.cons aG (.cons aG .nil)))))))) (fun _=>(.cons (.cons (.cons (.cons (.cons (.cons (.cons (.cons .nil))))))))) (bV awk.h (.cons (EN ha (.tmp rfl rfl) rfl) (.cons (EN ha (.tmp rfl rfl) rfl) .nil)) (@anI (⟨jZ,DL,kC,(⟨uJ,DN⟩:Source),(⟨c46,c49⟩:Cache),DR,c51,rV,uH,uK⟩:aY) v34 v37 v40 v43 v47 v52 v55 v59 x80 p86 _ adm))) (fun fo=>?_)
   refine Dm (.tuple [(zg [fo.1.v,fo.2.2.1.v,fo.2.2.2.2.1.v,fo.2.2.2.2.2.2.1.v,(zi iq.1.Source.Version),fo.2.2.2.2.2.2.2.2.1.v,(zi iq.1.Cache.Age),(zi iq.1.Now),fo.2.2.2.2.2.2.2.2.2.2.1.v,fo.2.2.2.2.2.2.2.2.2.2.2.2.1.v,(zi iq.1.Spent),fo.2.2.2.2.2.2.2.2.2.2.2.2.2.2.1.v]),(.bool iq.2)].toArray) rfl rfl rfl rfl ?_
   refine bN rfl .no (fun ha=>kD (l:=[(zg [fo.1.v,fo.2.2.1.v,fo.2.2.2.2.1.v,fo.2.2.2.2.2.2.1.v,(zi iq.1.Source.Version),fo.2.2.2.2.2.2.2.2.1.v,(zi iq.1.Cache.Age),(zi iq.1.Now),fo.2.2.2.2.2.2.2.2.2.2.1.v,fo.2.2.2.2.2.2.2.2.2.2.2.2.1.v,(zi iq.1.Spent),fo.2.2.2.2.2.2.2.2.2.2.2.2.2.2.1.v]),(.bool iq.2)]) (v:=(zg [fo.1.v,fo.2.2.1.v,fo.2.2.2.2.1.v,fo.2.2.2.2.2.2.1.v,(zi iq.1.Source.Version),fo.2.2.2.2.2.2.2.2.1.v,(zi iq.1.Cache.Age),(zi iq.1.Now),fo.2.2.2.2.2.2.2.2.2.2.1.v,fo.2.2.2.2.2.2.2.2.2.2.2.2.1.v,(zi iq.1.Spent),fo.2.2.2.2.2.2.2.2.2.2.2.2.2.2.1.v])) (EN ha (.tmp rfl rfl) rfl) rfl) ?_
   refine bN rfl .no (fun ha=>kD (l:=[(zg [fo.1.v,fo.2.2.1.v,fo.2.2.2.2.1.v,fo.2.2.2.2.2.2.1.v,(zi iq.1.Source.Version),fo.2.2.2.2.2.2.2.2.1.v,(zi iq.1.Cache.Age),(zi iq.1.Now),fo.2.2.2.2.2.2.2.2.2.2.1.v,fo.2.2.2.2.2.2.2.2.2.2.2.2.1.v,(zi iq.1.Spent),fo.2.2.2.2.2.2.2.2.2.2.2.2.2.2.1.v]),(.bool iq.2)]) (v:=(.bool iq.2)) (EN ha (.tmp rfl rfl) rfl) rfl) ?_
   refine cO rfl rfl .no (.cons (.t (.t (.t (.t (.t (.t (.t (.t (.t (.t (.t (.t (.t (.t (.t (.t .h)))))))))))))))) .nil) (.dep rfl (.dep rfl .nil)) (fun ha=>gD (e':=(zg [fo.1.v,fo.2.2.1.v,fo.2.2.2.2.1.v,fo.2.2.2.2.2.2.1.v,(zi iq.1.Source.Version),fo.2.2.2.2.2.2.2.2.1.v,(zi iq.1.Cache.Age),(zi iq.1.Now),fo.2.2.2.2.2.2.2.2.2.2.1.v,fo.2.2.2.2.2.2.2.2.2.2.2.2.1.v,(zi iq.1.Spent),fo.2.2.2.2.2.2.2.2.2.2.2.2.2.2.1.v])) (v:=(zg [fo.1.v,fo.2.2.1.v,fo.2.2.2.2.1.v,fo.2.2.2.2.2.2.1.v,(zi iq.1.Source.Version),fo.2.2.2.2.2.2.2.2.1.v,(zi iq.1.Cache.Age),(zi iq.1.Now),fo.2.2.2.2.2.2.2.2.2.2.1.v,fo.2.2.2.2.2.2.2.2.2.2.2.2.1.v,(zi iq.1.Spent),fo.2.2.2.2.2.2.2.2.2.2.2.2.2.2.1.v])) eG.h.sz (EN ha (.tmp rfl rfl) rfl) (EN ha (.tmp rfl rfl) rfl) rfl rfl rfl rfl rfl) (fun _=>?_)
   refine Da (.bool iq.2) rfl rfl rfl rfl ?_
   refine l6 (kT (eu .h (fun hp=>fP gP.h eG.h.sz rfl (.tmp rfl rfl) hp.2 rfl) ?_))
   refine As (zg [fo.1.v,fo.2.2.1.v,fo.2.2.2.2.1.v,fo.2.2.2.2.2.2.1.v,(zi iq.1.Source.Version),fo.2.2.2.2.2.2.2.2.1.v,(zi iq.1.Cache.Age),(zi iq.1.Now),fo.2.2.2.2.2.2.2.2.2.2.1.v,fo.2.2.2.2.2.2.2.2.2.2.2.2.1.v,(zi iq.1.Spent),fo.2.2.2.2.2.2.2.2.2.2.2.2.2.2.1.v]) ?_
   refine df (j4 (dC (Cm (pz bG) rfl rfl ?_)))
   refine bnd hF fun KA ayr hF=>gB (lm ayr) (fun p93=>?_)
   refine Ca (zi KA.1) rfl rfl ?_
   refine df (bn (bU (m:=((KA.1-0).toNat+2)) (fun JW f' cs'=>∃(g:Fr)(Nr Ns:Int)(vg ut:List Int)(uu:List Method)(uw:List dh)(pY:List Fact)(nN:Int)(uy:List cB)(rM rO:Int)(uz:List Access)(uA:List Int)(rP:Int)(uB:List (List (List Int)))(wF:Int)(vo Ag:Sv)(adw:List Nat)(Ah:Sv)(adx:List Nat)(Aj:Sv)(ady:List Nat)(vv:Sv)(adz:List Nat)(Ak Am:Sv)(adA:List Nat)(Ao:Sv)(adB:List Nat)(Ap:Sv)(adC:List Nat),f'=aQ g [(0,(pz bG)),(2,(pz k1)),(3,vo.v),(4,(pz k11)),(12,(zi wF))]/\aO cs' [aW bG 77 (zg [ae.v,(zi Nr),(zi Ns)]),kz ae aj.b,aW k1 36 (.agg ([(.slice none 0 0),(.slice none 0 0),(.slice none 0 0),(.slice none 0 0),(zi 0),(.slice none 0 0),(zi 0),(zi 0),(.slice none 0 0),(.slice none 0 0),(zi 0),(.slice none 0 0)]:List Value).toArray),ah vo vg,aW k11 36 (zg [Ag.v,Ah.v,Aj.v,vv.v,(zi nN),Ak.v,(zi rM),(zi rO),Am.v,Ao.v,(zi rP),Ap.v]),bI adw Ag ut,nJ adx Ah uu,mE ady Aj uw,eP adz vv pY,dM Ak uy,kK adA Am uz,bI adB Ao uA,aT (aF 152 (aF 24 (aF 3 (aC az)))) adC Ap.v uB]/\GN aj fuel JW Nr Ns vg ut uu uw pY nN uy rM rO uz uA rP uB wF=some R) ⟨_,_,_,_,_,_,_,_,_,_,_,_,_,_,_,_,_,p4.1,fo.1,fo.2.1,fo.2.2.1,fo.2.2.2.1,fo.2.2.2.2.1,fo.2.2.2.2.2.1,fo.2.2.2.2.2.2.1,fo.2.2.2.2.2.2.2.1,fo.2.2.2.2.2.2.2.2.1,fo.2.2.2.2.2.2.2.2.2.2.1,fo.2.2.2.2.2.2.2.2.2.2.2.1,fo.2.2.2.2.2.2.2.2.2.2.2.2.1,fo.2.2.2.2.2.2.2.2.2.2.2.2.2.1,fo.2.2.2.2.2.2.2.2.2.2.2.2.2.2.1,fo.2.2.2.2.2.2.2.2.2.2.2.2.2.2.2,aA,(.frz (.t (.t (.t (.t (.t (.t (.t (.t (.t (.t (.t (.t (.t (.t (.t (.t (.t (.t (.t (.t (.t (.t .h)))))))))))))))))))))) aG (.frz (.t (.t (.t (.t (.t (.t (.t (.t (.t (.t (.t (.t (.t (.t (.t (.t .h)))))))))))))))) aG ay)),hF⟩ ?_))
   rintro JW _ _ ⟨aEh,Nr,Ns,vg,ut,uu,uw,pY,nN,uy,rM,rO,uz,uA,rP,uB,wF,vo,Ag,adw,Ah,adx,Aj,ady,vv,adz,Ak,Am,adA,Ao,adB,Ap,adC,rfl,hE,hF⟩
   refine bu hE ?_
   rcases JW with _|JW
   · rw[GN]at hF
     exact absurd hF (by simp)
   rw[GN]at hF
   refine j4 (dC (Cm (zi wF) rfl rfl ?_))
   refine aN (Je (i:=wF) (j:=0) (.tmp rfl rfl) (.int _ _)) ?_
   refine df (kg (b:=(decide ((0:Int)<wF))) (.tmp rfl rfl) (fun abr=>?_) (fun abr=>?_))
   · rw[if_pos abr]at hF
     refine nU ?_
     obtain⟨adv,arf,avb⟩:=bind_some hF
     refine iF (fun f' cs'=>∃(SN SQ:Int)(SS:List Int)(SV:List Method)(SX:List dh)(SY:List Fact)(S9:Int)(S_:List cB)(Ta Tc:Int)(Td:List Access)(Te:List Int)(Tf:Int)(Tg:List (List (List Int)))(XY:Sv)(adD:List Nat)(XZ:Sv)(adE:List Nat)(X0:Sv)(adF:List Nat)(X3:Sv)(adG:List Nat)(X4 X5:Sv)(adH:List Nat)(X6:Sv)(adI:List Nat)(X7:Sv)(adJ:List Nat)(g:Fr),adv=(SN,SQ,SS,SV,SX,SY,S9,S_,Ta,Tc,Td,Te,Tf,Tg)/\f'=aQ g [(0,(pz bG)),(2,(pz k1)),(3,vo.v),(4,(pz k11)),(12,(zi wF))]/\aO cs' [aW bG 77 (zg [ae.v,(zi SN),(zi SQ)]),kz ae aj.b,aW k1 36 (.agg ([(.slice none 0 0),(.slice none 0 0),(.slice none 0 0),(.slice none 0 0),(zi 0),(.slice none 0 0),(zi 0),(zi 0),(.slice none 0 0),(.slice none 0 0),(zi 0),(.slice none 0 0)]:List Value).toArray),ah vo vg,aW k11 36 (zg [XY.v,XZ.v,X0.v,X3.v,(zi S9),X4.v,(zi Ta),(zi Tc),X5.v,X6.v,(zi Tf),X7.v]),bI adD XY SS,nJ adE XZ SV,mE adF X0 SX,eP adG X3 SY,dM X4 S_,kK adH X5 Td,bI adI X6 Te,aT (aF 152 (aF 24 (aF 3 (aC az)))) adJ X7.v Tg]) ?_ ?_
     · replace hF:=arf
       refine bn (dC (eu .q4 (fun hp=>fP gP.h eG.h.sz rfl (.tmp rfl rfl) hp.2 rfl) ?_))
       refine d_ (fun aEi=>?_)
       refine As (zg [Ag.v,Ah.v,Aj.v,vv.v,(zi nN),Ak.v,(zi rM),(zi rO),Am.v,Ao.v,(zi rP),Ap.v]) ?_
       refine df (j4 (dC (Cm (pz bG) rfl rfl ?_)))
       refine bnd hF fun jC avc hF=>gB (lm avc) (fun aEj=>?_)
       refine df (bn (j4 (dC (aN (tH (i:=jC.1) (j:=0) (.tmp rfl rfl) (.int _ _)) ?_))))
       refine Ca (.bool ((jC.1:Int)==0)) rfl rfl ?_
       refine df (kg (b:=((jC.1:Int)==0)) (.tmp rfl rfl) (fun abt=>?_) (fun abt=>?_))
       · rw[if_pos abt]at hF
         refine nU (kg (b:=((jC.1:Int)==0)) (.tmp rfl rfl) (fun abu=>?_) (fun abu=>?_))
         · rw[if_pos abu]at hF
           refine iG .q9 aG ?_
           refine jD [0,1,2,3,4,5,6,7,8,9,10] [0,0,0,0,8,30,63,127,255,255,511] [5,6,10] mixed (by decide+kernel) ?_
           refine dO rfl .no .q6 (fun ha hp=>fP gP.h eG.h.sz rfl (EN ha (.tmp rfl rfl) rfl) hp.2 rfl) ?_
           refine Dm (pz bG) rfl rfl rfl rfl ?_
           refine Dm vo.v rfl rfl rfl rfl ?_
           refine bN rfl .no (fun ha=>iK (off:=3) Mx.h (EN ha (.tmp rfl rfl) rfl)) ?_
           refine dO rfl .no .q6 (fun ha hp=>j_ (s:=2) (l:=[vv.v,(zi nN)]) yl.h vW.h.sz (EN ha (.tmp rfl rfl) rfl) hp.2 rfl (by decide) (Nat.le_of_ble_eq_true rfl) rfl) ?_
           refine bnd hF fun SI avd hF=>pq rfl rfl .no (.cons (.t .h) (.rd .q2 rfl (.rd .q4 rfl (.rd .h rfl .nil)))) (.dep rfl (.own .q5 (fun _ h=>h) .nil)) (fun ha=>bV Xc.h (.cons (EN ha (.tmp rfl rfl) rfl) (.cons (EN ha (.tmp rfl rfl) rfl) (.cons (EN ha (.tmp rfl rfl) rfl) .nil))) (@UQ fuel bG (⟨aj.b,jC.2.i,jC.2.h⟩:bg) ae vg vo (⟨pY,nN⟩:Source) vv _ avd)) (fun ays=>?_)
           refine bnd hF fun jd ave hF=>VE rfl rfl .no (.cons .q14 (.cons .q13 (.cons .q12 (.cons .q10 (.cons .q9 (.cons .q8 (.rd .q2 rfl (.rd .q8 rfl (.rd .h rfl .nil))))))))) (.dep rfl (.dep rfl .nil)) (fun ha=>jH (pre:=_) (.cons aG (.cons aG (.cons aG (.cons aG (.cons aG (.cons aG .nil)))))) (fun _=>(.cons (.cons (.cons (.cons (.cons (.cons (.cons (.cons .nil))))))))) (jm (.rd .h rfl (.rd (.t .h) rfl (.rd .q2 rfl (.rd .q6 rfl (.rd .q7 rfl (.rd .q3 rfl (.rd .q4 rfl (.rd .q5 rfl (.rd .q8 rfl .nil))))))))) (bV Xd.h (.cons (EN ha (.tmp rfl rfl) rfl) (.cons (EN ha (.tmp rfl rfl) rfl) .nil)) (@UL (⟨ut,uu,uw,(⟨pY,nN⟩:Source),(⟨uy,rM⟩:Cache),rO,uz,uA,rP,uB⟩:aY) Ag Ah Aj vv Ak Am Ao Ap SI.1 ays _ ave)))) (fun fG=>?_)
           refine Dm (.tuple [(zg [fG.1.v,fG.2.2.1.v,fG.2.2.2.2.1.v,fG.2.2.2.2.2.2.1.v,(zi jd.1.Source.Version),fG.2.2.2.2.2.2.2.2.1.v,(zi jd.1.Cache.Age),(zi jd.1.Now),fG.2.2.2.2.2.2.2.2.2.2.1.v,fG.2.2.2.2.2.2.2.2.2.2.2.2.1.v,(zi jd.1.Spent),fG.2.2.2.2.2.2.2.2.2.2.2.2.2.2.1.v]),(.bool jd.2)].toArray) rfl rfl rfl rfl ?_
           refine bN rfl .no (fun ha=>kD (l:=[(zg [fG.1.v,fG.2.2.1.v,fG.2.2.2.2.1.v,fG.2.2.2.2.2.2.1.v,(zi jd.1.Source.Version),fG.2.2.2.2.2.2.2.2.1.v,(zi jd.1.Cache.Age),(zi jd.1.Now),fG.2.2.2.2.2.2.2.2.2.2.1.v,fG.2.2.2.2.2.2.2.2.2.2.2.2.1.v,(zi jd.1.Spent),fG.2.2.2.2.2.2.2.2.2.2.2.2.2.2.1.v]),(.bool jd.2)]) (v:=(zg [fG.1.v,fG.2.2.1.v,fG.2.2.2.2.1.v,fG.2.2.2.2.2.2.1.v,(zi jd.1.Source.Version),fG.2.2.2.2.2.2.2.2.1.v,(zi jd.1.Cache.Age),(zi jd.1.Now),fG.2.2.2.2.2.2.2.2.2.2.1.v,fG.2.2.2.2.2.2.2.2.2.2.2.2.1.v,(zi jd.1.Spent),fG.2.2.2.2.2.2.2.2.2.2.2.2.2.2.1.v])) (EN ha (.tmp rfl rfl) rfl) rfl) ?_
           refine bN rfl .no (fun ha=>kD (l:=[(zg [fG.1.v,fG.2.2.1.v,fG.2.2.2.2.1.v,fG.2.2.2.2.2.2.1.v,(zi jd.1.Source.Version),fG.2.2.2.2.2.2.2.2.1.v,(zi jd.1.Cache.Age),(zi jd.1.Now),fG.2.2.2.2.2.2.2.2.2.2.1.v,fG.2.2.2.2.2.2.2.2.2.2.2.2.1.v,(zi jd.1.Spent),fG.2.2.2.2.2.2.2.2.2.2.2.2.2.2.1.v]),(.bool jd.2)]) (v:=(.bool jd.2)) (EN ha (.tmp rfl rfl) rfl) rfl) ?_
           refine cO rfl rfl .no (.cons (.t (.t (.t (.t (.t (.t (.t (.t (.t (.t (.t (.t (.t (.t (.t (.t (.t .h))))))))))))))))) .nil) (.dep rfl (.dep rfl .nil)) (fun ha=>gD (e':=(zg [fG.1.v,fG.2.2.1.v,fG.2.2.2.2.1.v,fG.2.2.2.2.2.2.1.v,(zi jd.1.Source.Version),fG.2.2.2.2.2.2.2.2.1.v,(zi jd.1.Cache.Age),(zi jd.1.Now),fG.2.2.2.2.2.2.2.2.2.2.1.v,fG.2.2.2.2.2.2.2.2.2.2.2.2.1.v,(zi jd.1.Spent),fG.2.2.2.2.2.2.2.2.2.2.2.2.2.2.1.v])) (v:=(zg [fG.1.v,fG.2.2.1.v,fG.2.2.2.2.1.v,fG.2.2.2.2.2.2.1.v,(zi jd.1.Source.Version),fG.2.2.2.2.2.2.2.2.1.v,(zi jd.1.Cache.Age),(zi jd.1.Now),fG.2.2.2.2.2.2.2.2.2.2.1.v,fG.2.2.2.2.2.2.2.2.2.2.2.2.1.v,(zi jd.1.Spent),fG.2.2.2.2.2.2.2.2.2.2.2.2.2.2.1.v])) eG.h.sz (EN ha (.tmp rfl rfl) rfl) (EN ha (.tmp rfl rfl) rfl) rfl rfl rfl rfl rfl) (fun _=>?_)
           refine l6 (kT (eu .h (fun hp=>fP gP.h eG.h.sz rfl (.tmp rfl rfl) hp.2 rfl) ?_))
           refine As (zg [fG.1.v,fG.2.2.1.v,fG.2.2.2.2.1.v,fG.2.2.2.2.2.2.1.v,(zi jd.1.Source.Version),fG.2.2.2.2.2.2.2.2.1.v,(zi jd.1.Cache.Age),(zi jd.1.Now),fG.2.2.2.2.2.2.2.2.2.2.1.v,fG.2.2.2.2.2.2.2.2.2.2.2.2.1.v,(zi jd.1.Spent),fG.2.2.2.2.2.2.2.2.2.2.2.2.2.2.1.v]) ?_
           refine df ?_
           cases hF
           exact⟨_,_,_,_,_,_,_,_,_,_,_,_,_,_,fG.1,fG.2.1,fG.2.2.1,fG.2.2.2.1,fG.2.2.2.2.1,fG.2.2.2.2.2.1,fG.2.2.2.2.2.2.1,fG.2.2.2.2.2.2.2.1,fG.2.2.2.2.2.2.2.2.1,fG.2.2.2.2.2.2.2.2.2.2.1,fG.2.2.2.2.2.2.2.2.2.2.2.1,fG.2.2.2.2.2.2.2.2.2.2.2.2.1,fG.2.2.2.2.2.2.2.2.2.2.2.2.2.1,fG.2.2.2.2.2.2.2.2.2.2.2.2.2.2.1,fG.2.2.2.2.2.2.2.2.2.2.2.2.2.2.2,_,rfl,aA,(.frz .q12 aG ay)⟩
         rw[if_neg (nt abu)]at hF
         refine dC (aN (tH (i:=jC.1) (j:=2) (.tmp rfl rfl) (.int _ _)) ?_)
         refine Ca (.bool ((jC.1:Int)==2)) rfl rfl ?_
         refine df (kg (b:=((jC.1:Int)==2)) (.tmp rfl rfl) (fun abv=>?_) (fun abv=>?_))
         · rw[if_pos abv]at hF
           refine jD [0,1,2,3,4,5,6,7,8] [0,0,2,6,15,31,63,63,127] [2,4,8] mixed (by decide+kernel) ?_
           refine dO rfl .no .q5 (fun ha hp=>fP gP.h eG.h.sz rfl (EN ha (.tmp rfl rfl) rfl) hp.2 rfl) ?_
           refine Dm (pz bG) rfl rfl rfl rfl ?_
           refine bnd hF fun Nt avf hF=>cO rfl rfl .no (.cons .h (.rd (.t .h) rfl .nil)) (.own .q4 (fun _ h=>h) .nil) (fun ha=>bV CR.h (.cons (EN ha (.tmp rfl rfl) rfl) (.cons (EN ha (.int _ _) rfl) .nil)) (@lm bG (⟨aj.b,jC.2.i,jC.2.h⟩:bg) ae 4 _ avf)) (fun aEk=>?_)
           refine bN rfl .no (fun ha=>nW (i:=1) (j:=Nt.1) (EN ha (.int _ _) rfl) (EN ha (.tmp rfl rfl) rfl)) ?_
           refine bnd hF fun je avg hF=>VF rfl rfl .no (.cons .q13 (.cons .q12 (.cons .q11 (.cons .q9 (.cons .q8 (.cons .q7 (.cons .q6 (.rd .q6 rfl .nil)))))))) (.dep rfl .nil) (fun ha=>jH (pre:=_) (.cons aG (.cons aG (.cons aG (.cons aG (.cons aG (.cons aG (.cons aG .nil))))))) (fun _=>(.cons (.cons (.cons (.cons (.cons (.cons (.cons (.cons .nil))))))))) (jm (.rd .h rfl (.rd (.t .h) rfl (.rd .q2 rfl (.rd .q3 rfl (.rd .q7 rfl (.rd .q4 rfl (.rd .q5 rfl (.rd .q6 rfl .nil)))))))) (bV V_.h (.cons (EN ha (.tmp rfl rfl) rfl) (.cons (EN ha (.tmp rfl rfl) rfl) .nil)) (@UW (⟨ut,uu,uw,(⟨pY,nN⟩:Source),(⟨uy,rM⟩:Cache),rO,uz,uA,rP,uB⟩:aY) Ag Ah Aj vv Ak Am Ao Ap (IntKind.i64.wrap (1+Nt.1)) _ avg)))) (fun fH=>?_)
           refine Dm (.tuple [(zg [fH.1.v,fH.2.2.1.v,fH.2.2.2.2.1.v,fH.2.2.2.2.2.2.1.v,(zi je.1.Source.Version),fH.2.2.2.2.2.2.2.2.1.v,(zi je.1.Cache.Age),(zi je.1.Now),fH.2.2.2.2.2.2.2.2.2.2.1.v,fH.2.2.2.2.2.2.2.2.2.2.2.2.1.v,(zi je.1.Spent),fH.2.2.2.2.2.2.2.2.2.2.2.2.2.2.1.v]),(.bool je.2)].toArray) rfl rfl rfl rfl ?_
           refine bN rfl .no (fun ha=>kD (l:=[(zg [fH.1.v,fH.2.2.1.v,fH.2.2.2.2.1.v,fH.2.2.2.2.2.2.1.v,(zi je.1.Source.Version),fH.2.2.2.2.2.2.2.2.1.v,(zi je.1.Cache.Age),(zi je.1.Now),fH.2.2.2.2.2.2.2.2.2.2.1.v,fH.2.2.2.2.2.2.2.2.2.2.2.2.1.v,(zi je.1.Spent),fH.2.2.2.2.2.2.2.2.2.2.2.2.2.2.1.v]),(.bool je.2)]) (v:=(zg [fH.1.v,fH.2.2.1.v,fH.2.2.2.2.1.v,fH.2.2.2.2.2.2.1.v,(zi je.1.Source.Version),fH.2.2.2.2.2.2.2.2.1.v,(zi je.1.Cache.Age),(zi je.1.Now),fH.2.2.2.2.2.2.2.2.2.2.1.v,fH.2.2.2.2.2.2.2.2.2.2.2.2.1.v,(zi je.1.Spent),fH.2.2.2.2.2.2.2.2.2.2.2.2.2.2.1.v])) (EN ha (.tmp rfl rfl) rfl) rfl) ?_
           refine bN rfl .no (fun ha=>kD (l:=[(zg [fH.1.v,fH.2.2.1.v,fH.2.2.2.2.1.v,fH.2.2.2.2.2.2.1.v,(zi je.1.Source.Version),fH.2.2.2.2.2.2.2.2.1.v,(zi je.1.Cache.Age),(zi je.1.Now),fH.2.2.2.2.2.2.2.2.2.2.1.v,fH.2.2.2.2.2.2.2.2.2.2.2.2.1.v,(zi je.1.Spent),fH.2.2.2.2.2.2.2.2.2.2.2.2.2.2.1.v]),(.bool je.2)]) (v:=(.bool je.2)) (EN ha (.tmp rfl rfl) rfl) rfl) ?_
           refine cO rfl rfl .no (.cons (.t (.t (.t (.t (.t (.t (.t (.t (.t (.t (.t (.t (.t (.t (.t (.t .h)))))))))))))))) .nil) (.dep rfl .nil) (fun ha=>gD (e':=(zg [fH.1.v,fH.2.2.1.v,fH.2.2.2.2.1.v,fH.2.2.2.2.2.2.1.v,(zi je.1.Source.Version),fH.2.2.2.2.2.2.2.2.1.v,(zi je.1.Cache.Age),(zi je.1.Now),fH.2.2.2.2.2.2.2.2.2.2.1.v,fH.2.2.2.2.2.2.2.2.2.2.2.2.1.v,(zi je.1.Spent),fH.2.2.2.2.2.2.2.2.2.2.2.2.2.2.1.v])) (v:=(zg [fH.1.v,fH.2.2.1.v,fH.2.2.2.2.1.v,fH.2.2.2.2.2.2.1.v,(zi je.1.Source.Version),fH.2.2.2.2.2.2.2.2.1.v,(zi je.1.Cache.Age),(zi je.1.Now),fH.2.2.2.2.2.2.2.2.2.2.1.v,fH.2.2.2.2.2.2.2.2.2.2.2.2.1.v,(zi je.1.Spent),fH.2.2.2.2.2.2.2.2.2.2.2.2.2.2.1.v])) eG.h.sz (EN ha (.tmp rfl rfl) rfl) (EN ha (.tmp rfl rfl) rfl) rfl rfl rfl rfl rfl) (fun _=>?_)
           refine l6 (kT (eu .h (fun hp=>fP gP.h eG.h.sz rfl (.tmp rfl rfl) hp.2 rfl) ?_))
           refine As (zg [fH.1.v,fH.2.2.1.v,fH.2.2.2.2.1.v,fH.2.2.2.2.2.2.1.v,(zi je.1.Source.Version),fH.2.2.2.2.2.2.2.2.1.v,(zi je.1.Cache.Age),(zi je.1.Now),fH.2.2.2.2.2.2.2.2.2.2.1.v,fH.2.2.2.2.2.2.2.2.2.2.2.2.1.v,(zi je.1.Spent),fH.2.2.2.2.2.2.2.2.2.2.2.2.2.2.1.v]) ?_
           refine df ?_
           cases hF
           exact⟨_,_,_,_,_,_,_,_,_,_,_,_,_,_,fH.1,fH.2.1,fH.2.2.1,fH.2.2.2.1,fH.2.2.2.2.1,fH.2.2.2.2.2.1,fH.2.2.2.2.2.2.1,fH.2.2.2.2.2.2.2.1,fH.2.2.2.2.2.2.2.2.1,fH.2.2.2.2.2.2.2.2.2.2.1,fH.2.2.2.2.2.2.2.2.2.2.2.1,fH.2.2.2.2.2.2.2.2.2.2.2.2.1,fH.2.2.2.2.2.2.2.2.2.2.2.2.2.1,fH.2.2.2.2.2.2.2.2.2.2.2.2.2.2.1,fH.2.2.2.2.2.2.2.2.2.2.2.2.2.2.2,_,rfl,aA,(.frz .q13 aG ay)⟩
         rw[if_neg (nt abv)]at hF
         refine iG .q6 aG ?_
         refine iG .q7 aG ?_
         refine iG .q8 aG ?_
         refine iG .q9 aG ?_
         refine iG .q11 aG ?_
         refine iG .q12 aG ?_
         refine iG .q13 aG ?_
         refine jD [0,1,2,3,4,5,6,7,8] [0,0,0,6,15,31,63,63,127] [3,4,8] mixed (by decide+kernel) ?_
         refine dO rfl .no .q12 (fun ha hp=>fP gP.h eG.h.sz rfl (EN ha (.tmp rfl rfl) rfl) hp.2 rfl) ?_
         refine Dm (pz bG) rfl rfl rfl rfl ?_
         refine Dm vo.v rfl rfl rfl rfl ?_
         refine bnd hF fun F9 avh hF=>Mw rfl rfl .no (.cons .q7 (.rd .q8 rfl (.rd .q10 rfl .nil))) (.own .q11 (fun _ h=>h) .nil) (fun ha=>E9 (post':=fun X8:Sv×List Nat×Sv×List Nat=>[ah X8.1 F9.1.Head,eX X8.2.2.1 F9.1.Atoms,aW bG 77 (zg [ae.v,(zi F9.2.i),(zi F9.2.h)])]) (fun X8=>(.frz .h aG (.frz (.t .h) aG ay))) (bV Wd.h (.cons (EN ha (.tmp rfl rfl) rfl) (.cons (EN ha (.tmp rfl rfl) rfl) .nil)) (@U6 fuel bG (⟨aj.b,jC.2.i,jC.2.h⟩:bg) ae vg vo _ avh))) (fun X8=>?_)
         refine bnd hF fun jf avi hF=>Yg (UY avi) (fun fI=>?_)
         refine Dm (.tuple [(zg [fI.1.v,fI.2.2.1.v,fI.2.2.2.2.1.v,fI.2.2.2.2.2.2.1.v,(zi jf.1.Source.Version),fI.2.2.2.2.2.2.2.2.1.v,(zi jf.1.Cache.Age),(zi jf.1.Now),fI.2.2.2.2.2.2.2.2.2.1.v,fI.2.2.2.2.2.2.2.2.2.2.2.1.v,(zi jf.1.Spent),fI.2.2.2.2.2.2.2.2.2.2.2.2.2.1.v]),(.bool jf.2)].toArray) rfl rfl rfl rfl ?_
         refine bN rfl .no (fun ha=>kD (l:=[(zg [fI.1.v,fI.2.2.1.v,fI.2.2.2.2.1.v,fI.2.2.2.2.2.2.1.v,(zi jf.1.Source.Version),fI.2.2.2.2.2.2.2.2.1.v,(zi jf.1.Cache.Age),(zi jf.1.Now),fI.2.2.2.2.2.2.2.2.2.1.v,fI.2.2.2.2.2.2.2.2.2.2.2.1.v,(zi jf.1.Spent),fI.2.2.2.2.2.2.2.2.2.2.2.2.2.1.v]),(.bool jf.2)]) (v:=(zg [fI.1.v,fI.2.2.1.v,fI.2.2.2.2.1.v,fI.2.2.2.2.2.2.1.v,(zi jf.1.Source.Version),fI.2.2.2.2.2.2.2.2.1.v,(zi jf.1.Cache.Age),(zi jf.1.Now),fI.2.2.2.2.2.2.2.2.2.1.v,fI.2.2.2.2.2.2.2.2.2.2.2.1.v,(zi jf.1.Spent),fI.2.2.2.2.2.2.2.2.2.2.2.2.2.1.v])) (EN ha (.tmp rfl rfl) rfl) rfl) ?_
         refine bN rfl .no (fun ha=>kD (l:=[(zg [fI.1.v,fI.2.2.1.v,fI.2.2.2.2.1.v,fI.2.2.2.2.2.2.1.v,(zi jf.1.Source.Version),fI.2.2.2.2.2.2.2.2.1.v,(zi jf.1.Cache.Age),(zi jf.1.Now),fI.2.2.2.2.2.2.2.2.2.1.v,fI.2.2.2.2.2.2.2.2.2.2.2.1.v,(zi jf.1.Spent),fI.2.2.2.2.2.2.2.2.2.2.2.2.2.1.v]),(.bool jf.2)]) (v:=(.bool jf.2)) (EN ha (.tmp rfl rfl) rfl) rfl) ?_
         refine cO rfl rfl .no (.cons (.t (.t (.t (.t (.t (.t (.t (.t (.t (.t (.t (.t (.t (.t (.t (.t (.t (.t .h)))))))))))))))))) .nil) (.dep rfl .nil) (fun ha=>gD (e':=(zg [fI.1.v,fI.2.2.1.v,fI.2.2.2.2.1.v,fI.2.2.2.2.2.2.1.v,(zi jf.1.Source.Version),fI.2.2.2.2.2.2.2.2.1.v,(zi jf.1.Cache.Age),(zi jf.1.Now),fI.2.2.2.2.2.2.2.2.2.1.v,fI.2.2.2.2.2.2.2.2.2.2.2.1.v,(zi jf.1.Spent),fI.2.2.2.2.2.2.2.2.2.2.2.2.2.1.v])) (v:=(zg [fI.1.v,fI.2.2.1.v,fI.2.2.2.2.1.v,fI.2.2.2.2.2.2.1.v,(zi jf.1.Source.Version),fI.2.2.2.2.2.2.2.2.1.v,(zi jf.1.Cache.Age),(zi jf.1.Now),fI.2.2.2.2.2.2.2.2.2.1.v,fI.2.2.2.2.2.2.2.2.2.2.2.1.v,(zi jf.1.Spent),fI.2.2.2.2.2.2.2.2.2.2.2.2.2.1.v])) eG.h.sz (EN ha (.tmp rfl rfl) rfl) (EN ha (.tmp rfl rfl) rfl) rfl rfl rfl rfl rfl) (fun _=>?_)
         refine l6 (kT (eu .h (fun hp=>fP gP.h eG.h.sz rfl (.tmp rfl rfl) hp.2 rfl) ?_))
         refine As (zg [fI.1.v,fI.2.2.1.v,fI.2.2.2.2.1.v,fI.2.2.2.2.2.2.1.v,(zi jf.1.Source.Version),fI.2.2.2.2.2.2.2.2.1.v,(zi jf.1.Cache.Age),(zi jf.1.Now),fI.2.2.2.2.2.2.2.2.2.1.v,fI.2.2.2.2.2.2.2.2.2.2.2.1.v,(zi jf.1.Spent),fI.2.2.2.2.2.2.2.2.2.2.2.2.2.1.v]) ?_
         refine df ?_
         cases hF
         exact⟨_,_,_,_,_,_,_,_,_,_,_,_,_,_,fI.1,fI.2.1,fI.2.2.1,fI.2.2.2.1,fI.2.2.2.2.1,fI.2.2.2.2.2.1,fI.2.2.2.2.2.2.1,fI.2.2.2.2.2.2.2.1,fI.2.2.2.2.2.2.2.2.1,fI.2.2.2.2.2.2.2.2.2.1,fI.2.2.2.2.2.2.2.2.2.2.1,fI.2.2.2.2.2.2.2.2.2.2.2.1,fI.2.2.2.2.2.2.2.2.2.2.2.2.1,fI.2.2.2.2.2.2.2.2.2.2.2.2.2.1,fI.2.2.2.2.2.2.2.2.2.2.2.2.2.2,_,rfl,aA,ay⟩
       rw[if_neg (nt abt)]at hF
       refine kT (aN (tH (i:=jC.1) (j:=1) (.tmp rfl rfl) (.int _ _)) ?_)
       refine Ca (.bool ((jC.1:Int)==1)) rfl rfl ?_
       refine df (kg (b:=((jC.1:Int)==1)) (.tmp rfl rfl) (fun abw=>?_) (fun abw=>?_))
       · rw[if_pos abw]at hF
         refine iG .q9 aG ?_
         refine jD [0,1,2,3,4,5,6,7,8,9,10] [0,0,0,0,8,30,63,127,255,255,511] [5,6,10] mixed (by decide+kernel) ?_
         refine dO rfl .no .q6 (fun ha hp=>fP gP.h eG.h.sz rfl (EN ha (.tmp rfl rfl) rfl) hp.2 rfl) ?_
         refine Dm (pz bG) rfl rfl rfl rfl ?_
         refine Dm vo.v rfl rfl rfl rfl ?_
         refine bN rfl .no (fun ha=>iK (off:=3) Mx.h (EN ha (.tmp rfl rfl) rfl)) ?_
         refine dO rfl .no .q6 (fun ha hp=>j_ (s:=2) (l:=[vv.v,(zi nN)]) yl.h vW.h.sz (EN ha (.tmp rfl rfl) rfl) hp.2 rfl (by decide) (Nat.le_of_ble_eq_true rfl) rfl) ?_
         refine bnd hF fun SK avj hF=>pq rfl rfl .no (.cons (.t .h) (.rd .q2 rfl (.rd .q4 rfl (.rd .h rfl .nil)))) (.dep rfl (.own .q5 (fun _ h=>h) .nil)) (fun ha=>bV Xc.h (.cons (EN ha (.tmp rfl rfl) rfl) (.cons (EN ha (.tmp rfl rfl) rfl) (.cons (EN ha (.tmp rfl rfl) rfl) .nil))) (@UQ fuel bG (⟨aj.b,jC.2.i,jC.2.h⟩:bg) ae vg vo (⟨pY,nN⟩:Source) vv _ avj)) (fun ayt=>?_)
         refine bnd hF fun jg avk hF=>VE rfl rfl .no (.cons .q14 (.cons .q13 (.cons .q12 (.cons .q10 (.cons .q9 (.cons .q8 (.rd .q2 rfl (.rd .q8 rfl (.rd .h rfl .nil))))))))) (.dep rfl (.dep rfl .nil)) (fun ha=>jH (pre:=_) (.cons aG (.cons aG (.cons aG (.cons aG (.cons aG (.cons aG .nil)))))) (fun _=>(.cons (.cons (.cons (.cons (.cons (.cons (.cons (.cons .nil))))))))) (jm (.rd .h rfl (.rd (.t .h) rfl (.rd .q2 rfl (.rd .q6 rfl (.rd .q7 rfl (.rd .q3 rfl (.rd .q4 rfl (.rd .q5 rfl (.rd .q8 rfl .nil))))))))) (bV Xd.h (.cons (EN ha (.tmp rfl rfl) rfl) (.cons (EN ha (.tmp rfl rfl) rfl) .nil)) (@UL (⟨ut,uu,uw,(⟨pY,nN⟩:Source),(⟨uy,rM⟩:Cache),rO,uz,uA,rP,uB⟩:aY) Ag Ah Aj vv Ak Am Ao Ap SK.1 ayt _ avk)))) (fun fJ=>?_)
         refine Dm (.tuple [(zg [fJ.1.v,fJ.2.2.1.v,fJ.2.2.2.2.1.v,fJ.2.2.2.2.2.2.1.v,(zi jg.1.Source.Version),fJ.2.2.2.2.2.2.2.2.1.v,(zi jg.1.Cache.Age),(zi jg.1.Now),fJ.2.2.2.2.2.2.2.2.2.2.1.v,fJ.2.2.2.2.2.2.2.2.2.2.2.2.1.v,(zi jg.1.Spent),fJ.2.2.2.2.2.2.2.2.2.2.2.2.2.2.1.v]),(.bool jg.2)].toArray) rfl rfl rfl rfl ?_
         refine bN rfl .no (fun ha=>kD (l:=[(zg [fJ.1.v,fJ.2.2.1.v,fJ.2.2.2.2.1.v,fJ.2.2.2.2.2.2.1.v,(zi jg.1.Source.Version),fJ.2.2.2.2.2.2.2.2.1.v,(zi jg.1.Cache.Age),(zi jg.1.Now),fJ.2.2.2.2.2.2.2.2.2.2.1.v,fJ.2.2.2.2.2.2.2.2.2.2.2.2.1.v,(zi jg.1.Spent),fJ.2.2.2.2.2.2.2.2.2.2.2.2.2.2.1.v]),(.bool jg.2)]) (v:=(zg [fJ.1.v,fJ.2.2.1.v,fJ.2.2.2.2.1.v,fJ.2.2.2.2.2.2.1.v,(zi jg.1.Source.Version),fJ.2.2.2.2.2.2.2.2.1.v,(zi jg.1.Cache.Age),(zi jg.1.Now),fJ.2.2.2.2.2.2.2.2.2.2.1.v,fJ.2.2.2.2.2.2.2.2.2.2.2.2.1.v,(zi jg.1.Spent),fJ.2.2.2.2.2.2.2.2.2.2.2.2.2.2.1.v])) (EN ha (.tmp rfl rfl) rfl) rfl) ?_
         refine bN rfl .no (fun ha=>kD (l:=[(zg [fJ.1.v,fJ.2.2.1.v,fJ.2.2.2.2.1.v,fJ.2.2.2.2.2.2.1.v,(zi jg.1.Source.Version),fJ.2.2.2.2.2.2.2.2.1.v,(zi jg.1.Cache.Age),(zi jg.1.Now),fJ.2.2.2.2.2.2.2.2.2.2.1.v,fJ.2.2.2.2.2.2.2.2.2.2.2.2.1.v,(zi jg.1.Spent),fJ.2.2.2.2.2.2.2.2.2.2.2.2.2.2.1.v]),(.bool jg.2)]) (v:=(.bool jg.2)) (EN ha (.tmp rfl rfl) rfl) rfl) ?_
         refine cO rfl rfl .no (.cons (.t (.t (.t (.t (.t (.t (.t (.t (.t (.t (.t (.t (.t (.t (.t (.t (.t .h))))))))))))))))) .nil) (.dep rfl (.dep rfl .nil)) (fun ha=>gD (e':=(zg [fJ.1.v,fJ.2.2.1.v,fJ.2.2.2.2.1.v,fJ.2.2.2.2.2.2.1.v,(zi jg.1.Source.Version),fJ.2.2.2.2.2.2.2.2.1.v,(zi jg.1.Cache.Age),(zi jg.1.Now),fJ.2.2.2.2.2.2.2.2.2.2.1.v,fJ.2.2.2.2.2.2.2.2.2.2.2.2.1.v,(zi jg.1.Spent),fJ.2.2.2.2.2.2.2.2.2.2.2.2.2.2.1.v])) (v:=(zg [fJ.1.v,fJ.2.2.1.v,fJ.2.2.2.2.1.v,fJ.2.2.2.2.2.2.1.v,(zi jg.1.Source.Version),fJ.2.2.2.2.2.2.2.2.1.v,(zi jg.1.Cache.Age),(zi jg.1.Now),fJ.2.2.2.2.2.2.2.2.2.2.1.v,fJ.2.2.2.2.2.2.2.2.2.2.2.2.1.v,(zi jg.1.Spent),fJ.2.2.2.2.2.2.2.2.2.2.2.2.2.2.1.v])) eG.h.sz (EN ha (.tmp rfl rfl) rfl) (EN ha (.tmp rfl rfl) rfl) rfl rfl rfl rfl rfl) (fun _=>?_)
         refine l6 (kT (eu .h (fun hp=>fP gP.h eG.h.sz rfl (.tmp rfl rfl) hp.2 rfl) ?_))
         refine As (zg [fJ.1.v,fJ.2.2.1.v,fJ.2.2.2.2.1.v,fJ.2.2.2.2.2.2.1.v,(zi jg.1.Source.Version),fJ.2.2.2.2.2.2.2.2.1.v,(zi jg.1.Cache.Age),(zi jg.1.Now),fJ.2.2.2.2.2.2.2.2.2.2.1.v,fJ.2.2.2.2.2.2.2.2.2.2.2.2.1.v,(zi jg.1.Spent),fJ.2.2.2.2.2.2.2.2.2.2.2.2.2.2.1.v]) ?_
         refine df ?_
         cases hF
         exact⟨_,_,_,_,_,_,_,_,_,_,_,_,_,_,fJ.1,fJ.2.1,fJ.2.2.1,fJ.2.2.2.1,fJ.2.2.2.2.1,fJ.2.2.2.2.2.1,fJ.2.2.2.2.2.2.1,fJ.2.2.2.2.2.2.2.1,fJ.2.2.2.2.2.2.2.2.1,fJ.2.2.2.2.2.2.2.2.2.2.1,fJ.2.2.2.2.2.2.2.2.2.2.2.1,fJ.2.2.2.2.2.2.2.2.2.2.2.2.1,fJ.2.2.2.2.2.2.2.2.2.2.2.2.2.1,fJ.2.2.2.2.2.2.2.2.2.2.2.2.2.2.1,fJ.2.2.2.2.2.2.2.2.2.2.2.2.2.2.2,_,rfl,aA,(.frz .q12 aG ay)⟩
       rw[if_neg (nt abw)]at hF
       refine dC (aN (tH (i:=jC.1) (j:=2) (.tmp rfl rfl) (.int _ _)) ?_)
       refine Ca (.bool ((jC.1:Int)==2)) rfl rfl ?_
       refine df (kg (b:=((jC.1:Int)==2)) (.tmp rfl rfl) (fun abx=>?_) (fun abx=>?_))
       · rw[if_pos abx]at hF
         refine jD [0,1,2,3,4,5,6,7,8] [0,0,2,6,15,31,63,63,127] [2,4,8] mixed (by decide+kernel) ?_
         refine dO rfl .no .q5 (fun ha hp=>fP gP.h eG.h.sz rfl (EN ha (.tmp rfl rfl) rfl) hp.2 rfl) ?_
         refine Dm (pz bG) rfl rfl rfl rfl ?_
         refine bnd hF fun Nu avl hF=>cO rfl rfl .no (.cons .h (.rd (.t .h) rfl .nil)) (.own .q4 (fun _ h=>h) .nil) (fun ha=>bV CR.h (.cons (EN ha (.tmp rfl rfl) rfl) (.cons (EN ha (.int _ _) rfl) .nil)) (@lm bG (⟨aj.b,jC.2.i,jC.2.h⟩:bg) ae 4 _ avl)) (fun aEl=>?_)
         refine bN rfl .no (fun ha=>nW (i:=1) (j:=Nu.1) (EN ha (.int _ _) rfl) (EN ha (.tmp rfl rfl) rfl)) ?_
         refine bnd hF fun jh avm hF=>VF rfl rfl .no (.cons .q13 (.cons .q12 (.cons .q11 (.cons .q9 (.cons .q8 (.cons .q7 (.cons .q6 (.rd .q6 rfl .nil)))))))) (.dep rfl .nil) (fun ha=>jH (pre:=_) (.cons aG (.cons aG (.cons aG (.cons aG (.cons aG (.cons aG (.cons aG .nil))))))) (fun _=>(.cons (.cons (.cons (.cons (.cons (.cons (.cons (.cons .nil))))))))) (jm (.rd .h rfl (.rd (.t .h) rfl (.rd .q2 rfl (.rd .q3 rfl (.rd .q7 rfl (.rd .q4 rfl (.rd .q5 rfl (.rd .q6 rfl .nil)))))))) (bV V_.h (.cons (EN ha (.tmp rfl rfl) rfl) (.cons (EN ha (.tmp rfl rfl) rfl) .nil)) (@UW (⟨ut,uu,uw,(⟨pY,nN⟩:Source),(⟨uy,rM⟩:Cache),rO,uz,uA,rP,uB⟩:aY) Ag Ah Aj vv Ak Am Ao Ap (IntKind.i64.wrap (1+Nu.1)) _ avm)))) (fun fK=>?_)
         refine Dm (.tuple [(zg [fK.1.v,fK.2.2.1.v,fK.2.2.2.2.1.v,fK.2.2.2.2.2.2.1.v,(zi jh.1.Source.Version),fK.2.2.2.2.2.2.2.2.1.v,(zi jh.1.Cache.Age),(zi jh.1.Now),fK.2.2.2.2.2.2.2.2.2.2.1.v,fK.2.2.2.2.2.2.2.2.2.2.2.2.1.v,(zi jh.1.Spent),fK.2.2.2.2.2.2.2.2.2.2.2.2.2.2.1.v]),(.bool jh.2)].toArray) rfl rfl rfl rfl ?_
         refine bN rfl .no (fun ha=>kD (l:=[(zg [fK.1.v,fK.2.2.1.v,fK.2.2.2.2.1.v,fK.2.2.2.2.2.2.1.v,(zi jh.1.Source.Version),fK.2.2.2.2.2.2.2.2.1.v,(zi jh.1.Cache.Age),(zi jh.1.Now),fK.2.2.2.2.2.2.2.2.2.2.1.v,fK.2.2.2.2.2.2.2.2.2.2.2.2.1.v,(zi jh.1.Spent),fK.2.2.2.2.2.2.2.2.2.2.2.2.2.2.1.v]),(.bool jh.2)]) (v:=(zg [fK.1.v,fK.2.2.1.v,fK.2.2.2.2.1.v,fK.2.2.2.2.2.2.1.v,(zi jh.1.Source.Version),fK.2.2.2.2.2.2.2.2.1.v,(zi jh.1.Cache.Age),(zi jh.1.Now),fK.2.2.2.2.2.2.2.2.2.2.1.v,fK.2.2.2.2.2.2.2.2.2.2.2.2.1.v,(zi jh.1.Spent),fK.2.2.2.2.2.2.2.2.2.2.2.2.2.2.1.v])) (EN ha (.tmp rfl rfl) rfl) rfl) ?_
         refine bN rfl .no (fun ha=>kD (l:=[(zg [fK.1.v,fK.2.2.1.v,fK.2.2.2.2.1.v,fK.2.2.2.2.2.2.1.v,(zi jh.1.Source.Version),fK.2.2.2.2.2.2.2.2.1.v,(zi jh.1.Cache.Age),(zi jh.1.Now),fK.2.2.2.2.2.2.2.2.2.2.1.v,fK.2.2.2.2.2.2.2.2.2.2.2.2.1.v,(zi jh.1.Spent),fK.2.2.2.2.2.2.2.2.2.2.2.2.2.2.1.v]),(.bool jh.2)]) (v:=(.bool jh.2)) (EN ha (.tmp rfl rfl) rfl) rfl) ?_
         refine cO rfl rfl .no (.cons (.t (.t (.t (.t (.t (.t (.t (.t (.t (.t (.t (.t (.t (.t (.t (.t .h)))))))))))))))) .nil) (.dep rfl .nil) (fun ha=>gD (e':=(zg [fK.1.v,fK.2.2.1.v,fK.2.2.2.2.1.v,fK.2.2.2.2.2.2.1.v,(zi jh.1.Source.Version),fK.2.2.2.2.2.2.2.2.1.v,(zi jh.1.Cache.Age),(zi jh.1.Now),fK.2.2.2.2.2.2.2.2.2.2.1.v,fK.2.2.2.2.2.2.2.2.2.2.2.2.1.v,(zi jh.1.Spent),fK.2.2.2.2.2.2.2.2.2.2.2.2.2.2.1.v])) (v:=(zg [fK.1.v,fK.2.2.1.v,fK.2.2.2.2.1.v,fK.2.2.2.2.2.2.1.v,(zi jh.1.Source.Version),fK.2.2.2.2.2.2.2.2.1.v,(zi jh.1.Cache.Age),(zi jh.1.Now),fK.2.2.2.2.2.2.2.2.2.2.1.v,fK.2.2.2.2.2.2.2.2.2.2.2.2.1.v,(zi jh.1.Spent),fK.2.2.2.2.2.2.2.2.2.2.2.2.2.2.1.v])) eG.h.sz (EN ha (.tmp rfl rfl) rfl) (EN ha (.tmp rfl rfl) rfl) rfl rfl rfl rfl rfl) (fun _=>?_)
         refine l6 (kT (eu .h (fun hp=>fP gP.h eG.h.sz rfl (.tmp rfl rfl) hp.2 rfl) ?_))
         refine As (zg [fK.1.v,fK.2.2.1.v,fK.2.2.2.2.1.v,fK.2.2.2.2.2.2.1.v,(zi jh.1.Source.Version),fK.2.2.2.2.2.2.2.2.1.v,(zi jh.1.Cache.Age),(zi jh.1.Now),fK.2.2.2.2.2.2.2.2.2.2.1.v,fK.2.2.2.2.2.2.2.2.2.2.2.2.1.v,(zi jh.1.Spent),fK.2.2.2.2.2.2.2.2.2.2.2.2.2.2.1.v]) ?_
         refine df ?_
         cases hF
         exact⟨_,_,_,_,_,_,_,_,_,_,_,_,_,_,fK.1,fK.2.1,fK.2.2.1,fK.2.2.2.1,fK.2.2.2.2.1,fK.2.2.2.2.2.1,fK.2.2.2.2.2.2.1,fK.2.2.2.2.2.2.2.1,fK.2.2.2.2.2.2.2.2.1,fK.2.2.2.2.2.2.2.2.2.2.1,fK.2.2.2.2.2.2.2.2.2.2.2.1,fK.2.2.2.2.2.2.2.2.2.2.2.2.1,fK.2.2.2.2.2.2.2.2.2.2.2.2.2.1,fK.2.2.2.2.2.2.2.2.2.2.2.2.2.2.1,fK.2.2.2.2.2.2.2.2.2.2.2.2.2.2.2,_,rfl,aA,(.frz .q13 aG ay)⟩
       rw[if_neg (nt abx)]at hF
       refine iG .q6 aG ?_
       refine iG .q7 aG ?_
       refine iG .q8 aG ?_
       refine iG .q9 aG ?_
       refine iG .q11 aG ?_
       refine iG .q12 aG ?_
       refine iG .q13 aG ?_
       refine jD [0,1,2,3,4,5,6,7,8] [0,0,0,6,15,31,63,63,127] [3,4,8] mixed (by decide+kernel) ?_
       refine dO rfl .no .q12 (fun ha hp=>fP gP.h eG.h.sz rfl (EN ha (.tmp rfl rfl) rfl) hp.2 rfl) ?_
       refine Dm (pz bG) rfl rfl rfl rfl ?_
       refine Dm vo.v rfl rfl rfl rfl ?_
       refine bnd hF fun F_ avn hF=>Mw rfl rfl .no (.cons .q7 (.rd .q8 rfl (.rd .q10 rfl .nil))) (.own .q11 (fun _ h=>h) .nil) (fun ha=>E9 (post':=fun X9:Sv×List Nat×Sv×List Nat=>[ah X9.1 F_.1.Head,eX X9.2.2.1 F_.1.Atoms,aW bG 77 (zg [ae.v,(zi F_.2.i),(zi F_.2.h)])]) (fun X9=>(.frz .h aG (.frz (.t .h) aG ay))) (bV Wd.h (.cons (EN ha (.tmp rfl rfl) rfl) (.cons (EN ha (.tmp rfl rfl) rfl) .nil)) (@U6 fuel bG (⟨aj.b,jC.2.i,jC.2.h⟩:bg) ae vg vo _ avn))) (fun X9=>?_)
       refine bnd hF fun ji avo hF=>Yg (UY avo) (fun fM=>?_)
       refine Dm (.tuple [(zg [fM.1.v,fM.2.2.1.v,fM.2.2.2.2.1.v,fM.2.2.2.2.2.2.1.v,(zi ji.1.Source.Version),fM.2.2.2.2.2.2.2.2.1.v,(zi ji.1.Cache.Age),(zi ji.1.Now),fM.2.2.2.2.2.2.2.2.2.1.v,fM.2.2.2.2.2.2.2.2.2.2.2.1.v,(zi ji.1.Spent),fM.2.2.2.2.2.2.2.2.2.2.2.2.2.1.v]),(.bool ji.2)].toArray) rfl rfl rfl rfl ?_
       refine bN rfl .no (fun ha=>kD (l:=[(zg [fM.1.v,fM.2.2.1.v,fM.2.2.2.2.1.v,fM.2.2.2.2.2.2.1.v,(zi ji.1.Source.Version),fM.2.2.2.2.2.2.2.2.1.v,(zi ji.1.Cache.Age),(zi ji.1.Now),fM.2.2.2.2.2.2.2.2.2.1.v,fM.2.2.2.2.2.2.2.2.2.2.2.1.v,(zi ji.1.Spent),fM.2.2.2.2.2.2.2.2.2.2.2.2.2.1.v]),(.bool ji.2)]) (v:=(zg [fM.1.v,fM.2.2.1.v,fM.2.2.2.2.1.v,fM.2.2.2.2.2.2.1.v,(zi ji.1.Source.Version),fM.2.2.2.2.2.2.2.2.1.v,(zi ji.1.Cache.Age),(zi ji.1.Now),fM.2.2.2.2.2.2.2.2.2.1.v,fM.2.2.2.2.2.2.2.2.2.2.2.1.v,(zi ji.1.Spent),fM.2.2.2.2.2.2.2.2.2.2.2.2.2.1.v])) (EN ha (.tmp rfl rfl) rfl) rfl) ?_
       refine bN rfl .no (fun ha=>kD (l:=[(zg [fM.1.v,fM.2.2.1.v,fM.2.2.2.2.1.v,fM.2.2.2.2.2.2.1.v,(zi ji.1.Source.Version),fM.2.2.2.2.2.2.2.2.1.v,(zi ji.1.Cache.Age),(zi ji.1.Now),fM.2.2.2.2.2.2.2.2.2.1.v,fM.2.2.2.2.2.2.2.2.2.2.2.1.v,(zi ji.1.Spent),fM.2.2.2.2.2.2.2.2.2.2.2.2.2.1.v]),(.bool ji.2)]) (v:=(.bool ji.2)) (EN ha (.tmp rfl rfl) rfl) rfl) ?_
       refine cO rfl rfl .no (.cons (.t (.t (.t (.t (.t (.t (.t (.t (.t (.t (.t (.t (.t (.t (.t (.t (.t (.t .h)))))))))))))))))) .nil) (.dep rfl .nil) (fun ha=>gD (e':=(zg [fM.1.v,fM.2.2.1.v,fM.2.2.2.2.1.v,fM.2.2.2.2.2.2.1.v,(zi ji.1.Source.Version),fM.2.2.2.2.2.2.2.2.1.v,(zi ji.1.Cache.Age),(zi ji.1.Now),fM.2.2.2.2.2.2.2.2.2.1.v,fM.2.2.2.2.2.2.2.2.2.2.2.1.v,(zi ji.1.Spent),fM.2.2.2.2.2.2.2.2.2.2.2.2.2.1.v])) (v:=(zg [fM.1.v,fM.2.2.1.v,fM.2.2.2.2.1.v,fM.2.2.2.2.2.2.1.v,(zi ji.1.Source.Version),fM.2.2.2.2.2.2.2.2.1.v,(zi ji.1.Cache.Age),(zi ji.1.Now),fM.2.2.2.2.2.2.2.2.2.1.v,fM.2.2.2.2.2.2.2.2.2.2.2.1.v,(zi ji.1.Spent),fM.2.2.2.2.2.2.2.2.2.2.2.2.2.1.v])) eG.h.sz (EN ha (.tmp rfl rfl) rfl) (EN ha (.tmp rfl rfl) rfl) rfl rfl rfl rfl rfl) (fun _=>?_)
       refine l6 (kT (eu .h (fun hp=>fP gP.h eG.h.sz rfl (.tmp rfl rfl) hp.2 rfl) ?_))
       refine As (zg [fM.1.v,fM.2.2.1.v,fM.2.2.2.2.1.v,fM.2.2.2.2.2.2.1.v,(zi ji.1.Source.Version),fM.2.2.2.2.2.2.2.2.1.v,(zi ji.1.Cache.Age),(zi ji.1.Now),fM.2.2.2.2.2.2.2.2.2.1.v,fM.2.2.2.2.2.2.2.2.2.2.2.1.v,(zi ji.1.Spent),fM.2.2.2.2.2.2.2.2.2.2.2.2.2.1.v]) ?_
       refine df ?_
       cases hF
       exact⟨_,_,_,_,_,_,_,_,_,_,_,_,_,_,fM.1,fM.2.1,fM.2.2.1,fM.2.2.2.1,fM.2.2.2.2.1,fM.2.2.2.2.2.1,fM.2.2.2.2.2.2.1,fM.2.2.2.2.2.2.2.1,fM.2.2.2.2.2.2.2.2.1,fM.2.2.2.2.2.2.2.2.2.1,fM.2.2.2.2.2.2.2.2.2.2.1,fM.2.2.2.2.2.2.2.2.2.2.2.1,fM.2.2.2.2.2.2.2.2.2.2.2.2.1,fM.2.2.2.2.2.2.2.2.2.2.2.2.2.1,fM.2.2.2.2.2.2.2.2.2.2.2.2.2.2,_,rfl,aA,ay⟩
     rintro _ _ ⟨SN,SQ,SS,SV,SX,SY,S9,S_,Ta,Tc,Td,Te,Tf,Tg,XY,adD,XZ,adE,X0,adF,X3,adG,X4,X5,adH,X6,adI,X7,adJ,aEm,rfl,rfl,hE⟩
     replace hF:=avb
     try dsimp only at hF
     refine bu hE ?_
     refine kT (Cm (zi wF) rfl rfl ?_)
     refine aN (ME (i:=wF) (j:=1) (.tmp rfl rfl) (.int _ _)) ?_
     refine Ca (zi (IntKind.i64.wrap (wF-1))) rfl rfl ?_
     refine df ?_
     exact⟨JW,bY _,_,_,_,_,_,_,_,_,_,_,_,_,_,_,_,_,_,vo,XY,adD,XZ,adE,X0,adF,X3,adG,X4,X5,adH,X6,adI,X7,adJ,aA,ay,hF⟩
   rw[if_neg (nt abr)]at hF
   refine EZ ?_
   iterate 2 refine Bb ?_
   refine ER (dC (eu .q4 (fun hp=>fP gP.h eG.h.sz rfl (.tmp rfl rfl) hp.2 rfl) ?_))
   refine As (zg [Ag.v,Ah.v,Aj.v,vv.v,(zi nN),Ak.v,(zi rM),(zi rO),Am.v,Ao.v,(zi rP),Ap.v]) ?_
   refine df (qN ?_)
   cases hF
   exact Er (Ag,adw,Ah,adx,Aj,ady,vv,adz,Ak,Am,adA,Ao,adB,Ap,adC)
 rw[if_neg (nt aat)]at hF
 refine nU (j4 (dC (Cm (pz bG) rfl rfl ?_)))
 refine bnd hF fun JX avp hF=>gB (lm avp) (fun aEn=>?_)
 refine Ca (zi JX.1) rfl rfl ?_
 refine df (bn (bU (m:=((JX.1-0).toNat+2)) (fun Jq f' cs'=>∃(g:Fr)(MP MQ:Int)(uT tN:List Int)(tO:List Method)(tQ:List dh)(pK:List Fact)(nI:Int)(tT:List cB)(qR qU:Int)(tV:List Access)(tX:List Int)(qV:Int)(tY:List (List (List Int)))(vT:Int)(uU zM:Sv)(aby:List Nat)(zN:Sv)(abz:List Nat)(zO:Sv)(abA:List Nat)(uV:Sv)(abB:List Nat)(zP zQ:Sv)(abC:List Nat)(zR:Sv)(abD:List Nat)(zS:Sv)(abE:List Nat),f'=aQ g [(0,(pz bG)),(2,(pz k1)),(3,uU.v),(4,(pz k11)),(12,(zi vT))]/\aO cs' [aW bG 77 (zg [ae.v,(zi MP),(zi MQ)]),kz ae aj.b,aW k1 36 (.agg ([(.slice none 0 0),(.slice none 0 0),(.slice none 0 0),(.slice none 0 0),(zi 0),(.slice none 0 0),(zi 0),(zi 0),(.slice none 0 0),(.slice none 0 0),(zi 0),(.slice none 0 0)]:List Value).toArray),ah uU uT,aW k11 36 (zg [zM.v,zN.v,zO.v,uV.v,(zi nI),zP.v,(zi qR),(zi qU),zQ.v,zR.v,(zi qV),zS.v]),bI aby zM tN,nJ abz zN tO,mE abA zO tQ,eP abB uV pK,dM zP tT,kK abC zQ tV,bI abD zR tX,aT (aF 152 (aF 24 (aF 3 (aC az)))) abE zS.v tY]/\GQ aj fuel Jq MP MQ uT tN tO tQ pK nI tT qR qU tV tX qV tY vT=some R) ⟨_,_,_,_,_,_,_,_,_,_,_,_,_,_,_,_,_,p4.1,v34,F35,v37,F38,v40,Kw,v43,F44,v47,v52,F53,v55,F56,v59,KC,aA,(.frz (.t .h) aG (.frz .q10 aG ay)),hF⟩ ?_))
 rintro Jq _ _ ⟨aBD,MP,MQ,uT,tN,tO,tQ,pK,nI,tT,qR,qU,tV,tX,qV,tY,vT,uU,zM,aby,zN,abz,zO,abA,uV,abB,zP,zQ,abC,zR,abD,zS,abE,rfl,hE,hF⟩
 refine bu hE ?_
 rcases Jq with _|Jq
 · rw[GQ]at hF
   exact absurd hF (by simp)
 rw[GQ]at hF
 refine j4 (dC (Cm (zi vT) rfl rfl ?_))
 refine aN (Je (i:=vT) (j:=0) (.tmp rfl rfl) (.int _ _)) ?_
 refine df (kg (b:=(decide ((0:Int)<vT))) (.tmp rfl rfl) (fun aau=>?_) (fun aau=>?_))
 · rw[if_pos aau]at hF
   refine nU ?_
   obtain⟨abq,apJ,arh⟩:=bind_some hF
   refine iF (fun f' cs'=>∃(QP QQ:Int)(QR:List Int)(QS:List Method)(QT:List dh)(QU:List Fact)(QV:Int)(QW:List cB)(QX QY:Int)(QZ:List Access)(Q0:List Int)(Q3:Int)(Q4:List (List (List Int)))(WJ:Sv)(abF:List Nat)(WK:Sv)(abG:List Nat)(WL:Sv)(abH:List Nat)(WM:Sv)(abI:List Nat)(WN WO:Sv)(abJ:List Nat)(WP:Sv)(abK:List Nat)(WQ:Sv)(abL:List Nat)(g:Fr),abq=(QP,QQ,QR,QS,QT,QU,QV,QW,QX,QY,QZ,Q0,Q3,Q4)/\f'=aQ g [(0,(pz bG)),(2,(pz k1)),(3,uU.v),(4,(pz k11)),(12,(zi vT))]/\aO cs' [aW bG 77 (zg [ae.v,(zi QP),(zi QQ)]),kz ae aj.b,aW k1 36 (.agg ([(.slice none 0 0),(.slice none 0 0),(.slice none 0 0),(.slice none 0 0),(zi 0),(.slice none 0 0),(zi 0),(zi 0),(.slice none 0 0),(.slice none 0 0),(zi 0),(.slice none 0 0)]:List Value).toArray),ah uU uT,aW k11 36 (zg [WJ.v,WK.v,WL.v,WM.v,(zi QV),WN.v,(zi QX),(zi QY),WO.v,WP.v,(zi Q3),WQ.v]),bI abF WJ QR,nJ abG WK QS,mE abH WL QT,eP abI WM QU,dM WN QW,kK abJ WO QZ,bI abK WP Q0,aT (aF 152 (aF 24 (aF 3 (aC az)))) abL WQ.v Q4]) ?_ ?_
   · replace hF:=apJ
     refine bn (dC (eu .q4 (fun hp=>fP gP.h eG.h.sz rfl (.tmp rfl rfl) hp.2 rfl) ?_))
     refine d_ (fun aBE=>?_)
     refine As (zg [zM.v,zN.v,zO.v,uV.v,(zi nI),zP.v,(zi qR),(zi qU),zQ.v,zR.v,(zi qV),zS.v]) ?_
     refine df (j4 (dC (Cm (pz bG) rfl rfl ?_)))
     refine bnd hF fun jv hx1237 hF=>gB (lm hx1237) (fun aBF=>?_)
     refine df (bn (j4 (dC (aN (tH (i:=jv.1) (j:=0) (.tmp rfl rfl) (.int _ _)) ?_))))
     refine Ca (.bool ((jv.1:Int)==0)) rfl rfl ?_
     refine df (kg (b:=((jv.1:Int)==0)) (.tmp rfl rfl) (fun aav=>?_) (fun aav=>?_))
     · rw[if_pos aav]at hF
       refine nU (kg (b:=((jv.1:Int)==0)) (.tmp rfl rfl) (fun aaw=>?_) (fun aaw=>?_))
       · rw[if_pos aaw]at hF
         refine iG .q9 aG ?_
         refine jD [0,1,2,3,4,5,6,7,8,9,10] [0,0,0,0,8,30,63,127,255,255,511] [5,6,10] mixed (by decide+kernel) ?_
         refine dO rfl .no .q6 (fun ha hp=>fP gP.h eG.h.sz rfl (EN ha (.tmp rfl rfl) rfl) hp.2 rfl) ?_
         refine Dm (pz bG) rfl rfl rfl rfl ?_
         refine Dm uU.v rfl rfl rfl rfl ?_
         refine bN rfl .no (fun ha=>iK (off:=3) Mx.h (EN ha (.tmp rfl rfl) rfl)) ?_
         refine dO rfl .no .q6 (fun ha hp=>j_ (s:=2) (l:=[uV.v,(zi nI)]) yl.h vW.h.sz (EN ha (.tmp rfl rfl) rfl) hp.2 rfl (by decide) (Nat.le_of_ble_eq_true rfl) rfl) ?_
         refine bnd hF fun QN hx1240 hF=>pq rfl rfl .no (.cons (.t .h) (.rd .q2 rfl (.rd .q4 rfl (.rd .h rfl .nil)))) (.dep rfl (.own .q5 (fun _ h=>h) .nil)) (fun ha=>bV Xc.h (.cons (EN ha (.tmp rfl rfl) rfl) (.cons (EN ha (.tmp rfl rfl) rfl) (.cons (EN ha (.tmp rfl rfl) rfl) .nil))) (@UQ fuel bG (⟨aj.b,jv.2.i,jv.2.h⟩:bg) ae uT uU (⟨pK,nI⟩:Source) uV _ hx1240)) (fun avq=>?_)
         refine bnd hF fun iU ari hF=>VE rfl rfl .no (.cons .q14 (.cons .q13 (.cons .q12 (.cons .q10 (.cons .q9 (.cons .q8 (.rd .q2 rfl (.rd .q8 rfl (.rd .h rfl .nil))))))))) (.dep rfl (.dep rfl .nil)) (fun ha=>jH (pre:=_) (.cons aG (.cons aG (.cons aG (.cons aG (.cons aG (.cons aG .nil)))))) (fun _=>(.cons (.cons (.cons (.cons (.cons (.cons (.cons (.cons .nil))))))))) (jm (.rd .h rfl (.rd (.t .h) rfl (.rd .q2 rfl (.rd .q6 rfl (.rd .q7 rfl (.rd .q3 rfl (.rd .q4 rfl (.rd .q5 rfl (.rd .q8 rfl .nil))))))))) (bV Xd.h (.cons (EN ha (.tmp rfl rfl) rfl) (.cons (EN ha (.tmp rfl rfl) rfl) .nil)) (@UL (⟨tN,tO,tQ,(⟨pK,nI⟩:Source),(⟨tT,qR⟩:Cache),qU,tV,tX,qV,tY⟩:aY) zM zN zO uV zP zQ zR zS QN.1 avq _ ari)))) (fun fA=>?_)
         refine Dm (.tuple [(zg [fA.1.v,fA.2.2.1.v,fA.2.2.2.2.1.v,fA.2.2.2.2.2.2.1.v,(zi iU.1.Source.Version),fA.2.2.2.2.2.2.2.2.1.v,(zi iU.1.Cache.Age),(zi iU.1.Now),fA.2.2.2.2.2.2.2.2.2.2.1.v,fA.2.2.2.2.2.2.2.2.2.2.2.2.1.v,(zi iU.1.Spent),fA.2.2.2.2.2.2.2.2.2.2.2.2.2.2.1.v]),(.bool iU.2)].toArray) rfl rfl rfl rfl ?_
         refine bN rfl .no (fun ha=>kD (l:=[(zg [fA.1.v,fA.2.2.1.v,fA.2.2.2.2.1.v,fA.2.2.2.2.2.2.1.v,(zi iU.1.Source.Version),fA.2.2.2.2.2.2.2.2.1.v,(zi iU.1.Cache.Age),(zi iU.1.Now),fA.2.2.2.2.2.2.2.2.2.2.1.v,fA.2.2.2.2.2.2.2.2.2.2.2.2.1.v,(zi iU.1.Spent),fA.2.2.2.2.2.2.2.2.2.2.2.2.2.2.1.v]),(.bool iU.2)]) (v:=(zg [fA.1.v,fA.2.2.1.v,fA.2.2.2.2.1.v,fA.2.2.2.2.2.2.1.v,(zi iU.1.Source.Version),fA.2.2.2.2.2.2.2.2.1.v,(zi iU.1.Cache.Age),(zi iU.1.Now),fA.2.2.2.2.2.2.2.2.2.2.1.v,fA.2.2.2.2.2.2.2.2.2.2.2.2.1.v,(zi iU.1.Spent),fA.2.2.2.2.2.2.2.2.2.2.2.2.2.2.1.v])) (EN ha (.tmp rfl rfl) rfl) rfl) ?_
         refine bN rfl .no (fun ha=>kD (l:=[(zg [fA.1.v,fA.2.2.1.v,fA.2.2.2.2.1.v,fA.2.2.2.2.2.2.1.v,(zi iU.1.Source.Version),fA.2.2.2.2.2.2.2.2.1.v,(zi iU.1.Cache.Age),(zi iU.1.Now),fA.2.2.2.2.2.2.2.2.2.2.1.v,fA.2.2.2.2.2.2.2.2.2.2.2.2.1.v,(zi iU.1.Spent),fA.2.2.2.2.2.2.2.2.2.2.2.2.2.2.1.v]),(.bool iU.2)]) (v:=(.bool iU.2)) (EN ha (.tmp rfl rfl) rfl) rfl) ?_
         refine cO rfl rfl .no (.cons (.t (.t (.t (.t (.t (.t (.t (.t (.t (.t (.t (.t (.t (.t (.t (.t (.t .h))))))))))))))))) .nil) (.dep rfl (.dep rfl .nil)) (fun ha=>gD (e':=(zg [fA.1.v,fA.2.2.1.v,fA.2.2.2.2.1.v,fA.2.2.2.2.2.2.1.v,(zi iU.1.Source.Version),fA.2.2.2.2.2.2.2.2.1.v,(zi iU.1.Cache.Age),(zi iU.1.Now),fA.2.2.2.2.2.2.2.2.2.2.1.v,fA.2.2.2.2.2.2.2.2.2.2.2.2.1.v,(zi iU.1.Spent),fA.2.2.2.2.2.2.2.2.2.2.2.2.2.2.1.v])) (v:=(zg [fA.1.v,fA.2.2.1.v,fA.2.2.2.2.1.v,fA.2.2.2.2.2.2.1.v,(zi iU.1.Source.Version),fA.2.2.2.2.2.2.2.2.1.v,(zi iU.1.Cache.Age),(zi iU.1.Now),fA.2.2.2.2.2.2.2.2.2.2.1.v,fA.2.2.2.2.2.2.2.2.2.2.2.2.1.v,(zi iU.1.Spent),fA.2.2.2.2.2.2.2.2.2.2.2.2.2.2.1.v])) eG.h.sz (EN ha (.tmp rfl rfl) rfl) (EN ha (.tmp rfl rfl) rfl) rfl rfl rfl rfl rfl) (fun _=>?_)
         refine l6 (kT (eu .h (fun hp=>fP gP.h eG.h.sz rfl (.tmp rfl rfl) hp.2 rfl) ?_))
         refine As (zg [fA.1.v,fA.2.2.1.v,fA.2.2.2.2.1.v,fA.2.2.2.2.2.2.1.v,(zi iU.1.Source.Version),fA.2.2.2.2.2.2.2.2.1.v,(zi iU.1.Cache.Age),(zi iU.1.Now),fA.2.2.2.2.2.2.2.2.2.2.1.v,fA.2.2.2.2.2.2.2.2.2.2.2.2.1.v,(zi iU.1.Spent),fA.2.2.2.2.2.2.2.2.2.2.2.2.2.2.1.v]) ?_
         refine df ?_
         cases hF
         exact⟨_,_,_,_,_,_,_,_,_,_,_,_,_,_,fA.1,fA.2.1,fA.2.2.1,fA.2.2.2.1,fA.2.2.2.2.1,fA.2.2.2.2.2.1,fA.2.2.2.2.2.2.1,fA.2.2.2.2.2.2.2.1,fA.2.2.2.2.2.2.2.2.1,fA.2.2.2.2.2.2.2.2.2.2.1,fA.2.2.2.2.2.2.2.2.2.2.2.1,fA.2.2.2.2.2.2.2.2.2.2.2.2.1,fA.2.2.2.2.2.2.2.2.2.2.2.2.2.1,fA.2.2.2.2.2.2.2.2.2.2.2.2.2.2.1,fA.2.2.2.2.2.2.2.2.2.2.2.2.2.2.2,_,rfl,aA,(.frz .q12 aG ay)⟩
       rw[if_neg (nt aaw)]at hF
       refine dC (aN (tH (i:=jv.1) (j:=2) (.tmp rfl rfl) (.int _ _)) ?_)
       refine Ca (.bool ((jv.1:Int)==2)) rfl rfl ?_
       refine df (kg (b:=((jv.1:Int)==2)) (.tmp rfl rfl) (fun aax=>?_) (fun aax=>?_))
       · rw[if_pos aax]at hF
         refine jD [0,1,2,3,4,5,6,7,8] [0,0,2,6,15,31,63,63,127] [2,4,8] mixed (by decide+kernel) ?_
         refine dO rfl .no .q5 (fun ha hp=>fP gP.h eG.h.sz rfl (EN ha (.tmp rfl rfl) rfl) hp.2 rfl) ?_
         refine Dm (pz bG) rfl rfl rfl rfl ?_
         refine bnd hF fun MR arj hF=>cO rfl rfl .no (.cons .h (.rd (.t .h) rfl .nil)) (.own .q4 (fun _ h=>h) .nil) (fun ha=>bV CR.h (.cons (EN ha (.tmp rfl rfl) rfl) (.cons (EN ha (.int _ _) rfl) .nil)) (@lm bG (⟨aj.b,jv.2.i,jv.2.h⟩:bg) ae 4 _ arj)) (fun aBG=>?_)
         refine bN rfl .no (fun ha=>nW (i:=1) (j:=MR.1) (EN ha (.int _ _) rfl) (EN ha (.tmp rfl rfl) rfl)) ?_
         refine bnd hF fun iV ark hF=>VF rfl rfl .no (.cons .q13 (.cons .q12 (.cons .q11 (.cons .q9 (.cons .q8 (.cons .q7 (.cons .q6 (.rd .q6 rfl .nil)))))))) (.dep rfl .nil) (fun ha=>jH (pre:=_) (.cons aG (.cons aG (.cons aG (.cons aG (.cons aG (.cons aG (.cons aG .nil))))))) (fun _=>(.cons (.cons (.cons (.cons (.cons (.cons (.cons (.cons .nil))))))))) (jm (.rd .h rfl (.rd (.t .h) rfl (.rd .q2 rfl (.rd .q3 rfl (.rd .q7 rfl (.rd .q4 rfl (.rd .q5 rfl (.rd .q6 rfl .nil)))))))) (bV V_.h (.cons (EN ha (.tmp rfl rfl) rfl) (.cons (EN ha (.tmp rfl rfl) rfl) .nil)) (@UW (⟨tN,tO,tQ,(⟨pK,nI⟩:Source),(⟨tT,qR⟩:Cache),qU,tV,tX,qV,tY⟩:aY) zM zN zO uV zP zQ zR zS (IntKind.i64.wrap (1+MR.1)) _ ark)))) (fun fB=>?_)
         refine Dm (.tuple [(zg [fB.1.v,fB.2.2.1.v,fB.2.2.2.2.1.v,fB.2.2.2.2.2.2.1.v,(zi iV.1.Source.Version),fB.2.2.2.2.2.2.2.2.1.v,(zi iV.1.Cache.Age),(zi iV.1.Now),fB.2.2.2.2.2.2.2.2.2.2.1.v,fB.2.2.2.2.2.2.2.2.2.2.2.2.1.v,(zi iV.1.Spent),fB.2.2.2.2.2.2.2.2.2.2.2.2.2.2.1.v]),(.bool iV.2)].toArray) rfl rfl rfl rfl ?_
         refine bN rfl .no (fun ha=>kD (l:=[(zg [fB.1.v,fB.2.2.1.v,fB.2.2.2.2.1.v,fB.2.2.2.2.2.2.1.v,(zi iV.1.Source.Version),fB.2.2.2.2.2.2.2.2.1.v,(zi iV.1.Cache.Age),(zi iV.1.Now),fB.2.2.2.2.2.2.2.2.2.2.1.v,fB.2.2.2.2.2.2.2.2.2.2.2.2.1.v,(zi iV.1.Spent),fB.2.2.2.2.2.2.2.2.2.2.2.2.2.2.1.v]),(.bool iV.2)]) (v:=(zg [fB.1.v,fB.2.2.1.v,fB.2.2.2.2.1.v,fB.2.2.2.2.2.2.1.v,(zi iV.1.Source.Version),fB.2.2.2.2.2.2.2.2.1.v,(zi iV.1.Cache.Age),(zi iV.1.Now),fB.2.2.2.2.2.2.2.2.2.2.1.v,fB.2.2.2.2.2.2.2.2.2.2.2.2.1.v,(zi iV.1.Spent),fB.2.2.2.2.2.2.2.2.2.2.2.2.2.2.1.v])) (EN ha (.tmp rfl rfl) rfl) rfl) ?_
         refine bN rfl .no (fun ha=>kD (l:=[(zg [fB.1.v,fB.2.2.1.v,fB.2.2.2.2.1.v,fB.2.2.2.2.2.2.1.v,(zi iV.1.Source.Version),fB.2.2.2.2.2.2.2.2.1.v,(zi iV.1.Cache.Age),(zi iV.1.Now),fB.2.2.2.2.2.2.2.2.2.2.1.v,fB.2.2.2.2.2.2.2.2.2.2.2.2.1.v,(zi iV.1.Spent),fB.2.2.2.2.2.2.2.2.2.2.2.2.2.2.1.v]),(.bool iV.2)]) (v:=(.bool iV.2)) (EN ha (.tmp rfl rfl) rfl) rfl) ?_
         refine cO rfl rfl .no (.cons (.t (.t (.t (.t (.t (.t (.t (.t (.t (.t (.t (.t (.t (.t (.t (.t .h)))))))))))))))) .nil) (.dep rfl .nil) (fun ha=>gD (e':=(zg [fB.1.v,fB.2.2.1.v,fB.2.2.2.2.1.v,fB.2.2.2.2.2.2.1.v,(zi iV.1.Source.Version),fB.2.2.2.2.2.2.2.2.1.v,(zi iV.1.Cache.Age),(zi iV.1.Now),fB.2.2.2.2.2.2.2.2.2.2.1.v,fB.2.2.2.2.2.2.2.2.2.2.2.2.1.v,(zi iV.1.Spent),fB.2.2.2.2.2.2.2.2.2.2.2.2.2.2.1.v])) (v:=(zg [fB.1.v,fB.2.2.1.v,fB.2.2.2.2.1.v,fB.2.2.2.2.2.2.1.v,(zi iV.1.Source.Version),fB.2.2.2.2.2.2.2.2.1.v,(zi iV.1.Cache.Age),(zi iV.1.Now),fB.2.2.2.2.2.2.2.2.2.2.1.v,fB.2.2.2.2.2.2.2.2.2.2.2.2.1.v,(zi iV.1.Spent),fB.2.2.2.2.2.2.2.2.2.2.2.2.2.2.1.v])) eG.h.sz (EN ha (.tmp rfl rfl) rfl) (EN ha (.tmp rfl rfl) rfl) rfl rfl rfl rfl rfl) (fun _=>?_)
         refine l6 (kT (eu .h (fun hp=>fP gP.h eG.h.sz rfl (.tmp rfl rfl) hp.2 rfl) ?_))
         refine As (zg [fB.1.v,fB.2.2.1.v,fB.2.2.2.2.1.v,fB.2.2.2.2.2.2.1.v,(zi iV.1.Source.Version),fB.2.2.2.2.2.2.2.2.1.v,(zi iV.1.Cache.Age),(zi iV.1.Now),fB.2.2.2.2.2.2.2.2.2.2.1.v,fB.2.2.2.2.2.2.2.2.2.2.2.2.1.v,(zi iV.1.Spent),fB.2.2.2.2.2.2.2.2.2.2.2.2.2.2.1.v]) ?_
         refine df ?_
         cases hF
         exact⟨_,_,_,_,_,_,_,_,_,_,_,_,_,_,fB.1,fB.2.1,fB.2.2.1,fB.2.2.2.1,fB.2.2.2.2.1,fB.2.2.2.2.2.1,fB.2.2.2.2.2.2.1,fB.2.2.2.2.2.2.2.1,fB.2.2.2.2.2.2.2.2.1,fB.2.2.2.2.2.2.2.2.2.2.1,fB.2.2.2.2.2.2.2.2.2.2.2.1,fB.2.2.2.2.2.2.2.2.2.2.2.2.1,fB.2.2.2.2.2.2.2.2.2.2.2.2.2.1,fB.2.2.2.2.2.2.2.2.2.2.2.2.2.2.1,fB.2.2.2.2.2.2.2.2.2.2.2.2.2.2.2,_,rfl,aA,(.frz .q13 aG ay)⟩
       rw[if_neg (nt aax)]at hF
       refine iG .q6 aG ?_
       refine iG .q7 aG ?_
       refine iG .q8 aG ?_
       refine iG .q9 aG ?_
       refine iG .q11 aG ?_
       refine iG .q12 aG ?_
       refine iG .q13 aG ?_
       refine jD [0,1,2,3,4,5,6,7,8] [0,0,0,6,15,31,63,63,127] [3,4,8] mixed (by decide+kernel) ?_
       refine dO rfl .no .q12 (fun ha hp=>fP gP.h eG.h.sz rfl (EN ha (.tmp rfl rfl) rfl) hp.2 rfl) ?_
       refine Dm (pz bG) rfl rfl rfl rfl ?_
       refine Dm uU.v rfl rfl rfl rfl ?_
       refine bnd hF fun Fz arl hF=>Mw rfl rfl .no (.cons .q7 (.rd .q8 rfl (.rd .q10 rfl .nil))) (.own .q11 (fun _ h=>h) .nil) (fun ha=>E9 (post':=fun WR:Sv×List Nat×Sv×List Nat=>[ah WR.1 Fz.1.Head,eX WR.2.2.1 Fz.1.Atoms,aW bG 77 (zg [ae.v,(zi Fz.2.i),(zi Fz.2.h)])]) (fun WR=>(.frz .h aG (.frz (.t .h) aG ay))) (bV Wd.h (.cons (EN ha (.tmp rfl rfl) rfl) (.cons (EN ha (.tmp rfl rfl) rfl) .nil)) (@U6 fuel bG (⟨aj.b,jv.2.i,jv.2.h⟩:bg) ae uT uU _ arl))) (fun WR=>?_)
       refine bnd hF fun iW arn hF=>Yg (UY arn) (fun fC=>?_)
       refine Dm (.tuple [(zg [fC.1.v,fC.2.2.1.v,fC.2.2.2.2.1.v,fC.2.2.2.2.2.2.1.v,(zi iW.1.Source.Version),fC.2.2.2.2.2.2.2.2.1.v,(zi iW.1.Cache.Age),(zi iW.1.Now),fC.2.2.2.2.2.2.2.2.2.1.v,fC.2.2.2.2.2.2.2.2.2.2.2.1.v,(zi iW.1.Spent),fC.2.2.2.2.2.2.2.2.2.2.2.2.2.1.v]),(.bool iW.2)].toArray) rfl rfl rfl rfl ?_
       refine bN rfl .no (fun ha=>kD (l:=[(zg [fC.1.v,fC.2.2.1.v,fC.2.2.2.2.1.v,fC.2.2.2.2.2.2.1.v,(zi iW.1.Source.Version),fC.2.2.2.2.2.2.2.2.1.v,(zi iW.1.Cache.Age),(zi iW.1.Now),fC.2.2.2.2.2.2.2.2.2.1.v,fC.2.2.2.2.2.2.2.2.2.2.2.1.v,(zi iW.1.Spent),fC.2.2.2.2.2.2.2.2.2.2.2.2.2.1.v]),(.bool iW.2)]) (v:=(zg [fC.1.v,fC.2.2.1.v,fC.2.2.2.2.1.v,fC.2.2.2.2.2.2.1.v,(zi iW.1.Source.Version),fC.2.2.2.2.2.2.2.2.1.v,(zi iW.1.Cache.Age),(zi iW.1.Now),fC.2.2.2.2.2.2.2.2.2.1.v,fC.2.2.2.2.2.2.2.2.2.2.2.1.v,(zi iW.1.Spent),fC.2.2.2.2.2.2.2.2.2.2.2.2.2.1.v])) (EN ha (.tmp rfl rfl) rfl) rfl) ?_
       refine bN rfl .no (fun ha=>kD (l:=[(zg [fC.1.v,fC.2.2.1.v,fC.2.2.2.2.1.v,fC.2.2.2.2.2.2.1.v,(zi iW.1.Source.Version),fC.2.2.2.2.2.2.2.2.1.v,(zi iW.1.Cache.Age),(zi iW.1.Now),fC.2.2.2.2.2.2.2.2.2.1.v,fC.2.2.2.2.2.2.2.2.2.2.2.1.v,(zi iW.1.Spent),fC.2.2.2.2.2.2.2.2.2.2.2.2.2.1.v]),(.bool iW.2)]) (v:=(.bool iW.2)) (EN ha (.tmp rfl rfl) rfl) rfl) ?_
       refine cO rfl rfl .no (.cons (.t (.t (.t (.t (.t (.t (.t (.t (.t (.t (.t (.t (.t (.t (.t (.t (.t (.t .h)))))))))))))))))) .nil) (.dep rfl .nil) (fun ha=>gD (e':=(zg [fC.1.v,fC.2.2.1.v,fC.2.2.2.2.1.v,fC.2.2.2.2.2.2.1.v,(zi iW.1.Source.Version),fC.2.2.2.2.2.2.2.2.1.v,(zi iW.1.Cache.Age),(zi iW.1.Now),fC.2.2.2.2.2.2.2.2.2.1.v,fC.2.2.2.2.2.2.2.2.2.2.2.1.v,(zi iW.1.Spent),fC.2.2.2.2.2.2.2.2.2.2.2.2.2.1.v])) (v:=(zg [fC.1.v,fC.2.2.1.v,fC.2.2.2.2.1.v,fC.2.2.2.2.2.2.1.v,(zi iW.1.Source.Version),fC.2.2.2.2.2.2.2.2.1.v,(zi iW.1.Cache.Age),(zi iW.1.Now),fC.2.2.2.2.2.2.2.2.2.1.v,fC.2.2.2.2.2.2.2.2.2.2.2.1.v,(zi iW.1.Spent),fC.2.2.2.2.2.2.2.2.2.2.2.2.2.1.v])) eG.h.sz (EN ha (.tmp rfl rfl) rfl) (EN ha (.tmp rfl rfl) rfl) rfl rfl rfl rfl rfl) (fun _=>?_)
       refine l6 (kT (eu .h (fun hp=>fP gP.h eG.h.sz rfl (.tmp rfl rfl) hp.2 rfl) ?_))
       refine As (zg [fC.1.v,fC.2.2.1.v,fC.2.2.2.2.1.v,fC.2.2.2.2.2.2.1.v,(zi iW.1.Source.Version),fC.2.2.2.2.2.2.2.2.1.v,(zi iW.1.Cache.Age),(zi iW.1.Now),fC.2.2.2.2.2.2.2.2.2.1.v,fC.2.2.2.2.2.2.2.2.2.2.2.1.v,(zi iW.1.Spent),fC.2.2.2.2.2.2.2.2.2.2.2.2.2.1.v]) ?_
       refine df ?_
       cases hF
       exact⟨_,_,_,_,_,_,_,_,_,_,_,_,_,_,fC.1,fC.2.1,fC.2.2.1,fC.2.2.2.1,fC.2.2.2.2.1,fC.2.2.2.2.2.1,fC.2.2.2.2.2.2.1,fC.2.2.2.2.2.2.2.1,fC.2.2.2.2.2.2.2.2.1,fC.2.2.2.2.2.2.2.2.2.1,fC.2.2.2.2.2.2.2.2.2.2.1,fC.2.2.2.2.2.2.2.2.2.2.2.1,fC.2.2.2.2.2.2.2.2.2.2.2.2.1,fC.2.2.2.2.2.2.2.2.2.2.2.2.2.1,fC.2.2.2.2.2.2.2.2.2.2.2.2.2.2,_,rfl,aA,ay⟩
     rw[if_neg (nt aav)]at hF
     refine kT (aN (tH (i:=jv.1) (j:=1) (.tmp rfl rfl) (.int _ _)) ?_)
     refine Ca (.bool ((jv.1:Int)==1)) rfl rfl ?_
     refine df (kg (b:=((jv.1:Int)==1)) (.tmp rfl rfl) (fun aay=>?_) (fun aay=>?_))
     · rw[if_pos aay]at hF
       refine iG .q9 aG ?_
       refine jD [0,1,2,3,4,5,6,7,8,9,10] [0,0,0,0,8,30,63,127,255,255,511] [5,6,10] mixed (by decide+kernel) ?_
       refine dO rfl .no .q6 (fun ha hp=>fP gP.h eG.h.sz rfl (EN ha (.tmp rfl rfl) rfl) hp.2 rfl) ?_
       refine Dm (pz bG) rfl rfl rfl rfl ?_
       refine Dm uU.v rfl rfl rfl rfl ?_
       refine bN rfl .no (fun ha=>iK (off:=3) Mx.h (EN ha (.tmp rfl rfl) rfl)) ?_
       refine dO rfl .no .q6 (fun ha hp=>j_ (s:=2) (l:=[uV.v,(zi nI)]) yl.h vW.h.sz (EN ha (.tmp rfl rfl) rfl) hp.2 rfl (by decide) (Nat.le_of_ble_eq_true rfl) rfl) ?_
       refine bnd hF fun QO aro hF=>pq rfl rfl .no (.cons (.t .h) (.rd .q2 rfl (.rd .q4 rfl (.rd .h rfl .nil)))) (.dep rfl (.own .q5 (fun _ h=>h) .nil)) (fun ha=>bV Xc.h (.cons (EN ha (.tmp rfl rfl) rfl) (.cons (EN ha (.tmp rfl rfl) rfl) (.cons (EN ha (.tmp rfl rfl) rfl) .nil))) (@UQ fuel bG (⟨aj.b,jv.2.i,jv.2.h⟩:bg) ae uT uU (⟨pK,nI⟩:Source) uV _ aro)) (fun avr=>?_)
       refine bnd hF fun iX arp hF=>VE rfl rfl .no (.cons .q14 (.cons .q13 (.cons .q12 (.cons .q10 (.cons .q9 (.cons .q8 (.rd .q2 rfl (.rd .q8 rfl (.rd .h rfl .nil))))))))) (.dep rfl (.dep rfl .nil)) (fun ha=>jH (pre:=_) (.cons aG (.cons aG (.cons aG (.cons aG (.cons aG (.cons aG .nil)))))) (fun _=>(.cons (.cons (.cons (.cons (.cons (.cons (.cons (.cons .nil))))))))) (jm (.rd .h rfl (.rd (.t .h) rfl (.rd .q2 rfl (.rd .q6 rfl (.rd .q7 rfl (.rd .q3 rfl (.rd .q4 rfl (.rd .q5 rfl (.rd .q8 rfl .nil))))))))) (bV Xd.h (.cons (EN ha (.tmp rfl rfl) rfl) (.cons (EN ha (.tmp rfl rfl) rfl) .nil)) (@UL (⟨tN,tO,tQ,(⟨pK,nI⟩:Source),(⟨tT,qR⟩:Cache),qU,tV,tX,qV,tY⟩:aY) zM zN zO uV zP zQ zR zS QO.1 avr _ arp)))) (fun fD=>?_)
       refine Dm (.tuple [(zg [fD.1.v,fD.2.2.1.v,fD.2.2.2.2.1.v,fD.2.2.2.2.2.2.1.v,(zi iX.1.Source.Version),fD.2.2.2.2.2.2.2.2.1.v,(zi iX.1.Cache.Age),(zi iX.1.Now),fD.2.2.2.2.2.2.2.2.2.2.1.v,fD.2.2.2.2.2.2.2.2.2.2.2.2.1.v,(zi iX.1.Spent),fD.2.2.2.2.2.2.2.2.2.2.2.2.2.2.1.v]),(.bool iX.2)].toArray) rfl rfl rfl rfl ?_
       refine bN rfl .no (fun ha=>kD (l:=[(zg [fD.1.v,fD.2.2.1.v,fD.2.2.2.2.1.v,fD.2.2.2.2.2.2.1.v,(zi iX.1.Source.Version),fD.2.2.2.2.2.2.2.2.1.v,(zi iX.1.Cache.Age),(zi iX.1.Now),fD.2.2.2.2.2.2.2.2.2.2.1.v,fD.2.2.2.2.2.2.2.2.2.2.2.2.1.v,(zi iX.1.Spent),fD.2.2.2.2.2.2.2.2.2.2.2.2.2.2.1.v]),(.bool iX.2)]) (v:=(zg [fD.1.v,fD.2.2.1.v,fD.2.2.2.2.1.v,fD.2.2.2.2.2.2.1.v,(zi iX.1.Source.Version),fD.2.2.2.2.2.2.2.2.1.v,(zi iX.1.Cache.Age),(zi iX.1.Now),fD.2.2.2.2.2.2.2.2.2.2.1.v,fD.2.2.2.2.2.2.2.2.2.2.2.2.1.v,(zi iX.1.Spent),fD.2.2.2.2.2.2.2.2.2.2.2.2.2.2.1.v])) (EN ha (.tmp rfl rfl) rfl) rfl) ?_
       refine bN rfl .no (fun ha=>kD (l:=[(zg [fD.1.v,fD.2.2.1.v,fD.2.2.2.2.1.v,fD.2.2.2.2.2.2.1.v,(zi iX.1.Source.Version),fD.2.2.2.2.2.2.2.2.1.v,(zi iX.1.Cache.Age),(zi iX.1.Now),fD.2.2.2.2.2.2.2.2.2.2.1.v,fD.2.2.2.2.2.2.2.2.2.2.2.2.1.v,(zi iX.1.Spent),fD.2.2.2.2.2.2.2.2.2.2.2.2.2.2.1.v]),(.bool iX.2)]) (v:=(.bool iX.2)) (EN ha (.tmp rfl rfl) rfl) rfl) ?_
       refine cO rfl rfl .no (.cons (.t (.t (.t (.t (.t (.t (.t (.t (.t (.t (.t (.t (.t (.t (.t (.t (.t .h))))))))))))))))) .nil) (.dep rfl (.dep rfl .nil)) (fun ha=>gD (e':=(zg [fD.1.v,fD.2.2.1.v,fD.2.2.2.2.1.v,fD.2.2.2.2.2.2.1.v,(zi iX.1.Source.Version),fD.2.2.2.2.2.2.2.2.1.v,(zi iX.1.Cache.Age),(zi iX.1.Now),fD.2.2.2.2.2.2.2.2.2.2.1.v,fD.2.2.2.2.2.2.2.2.2.2.2.2.1.v,(zi iX.1.Spent),fD.2.2.2.2.2.2.2.2.2.2.2.2.2.2.1.v])) (v:=(zg [fD.1.v,fD.2.2.1.v,fD.2.2.2.2.1.v,fD.2.2.2.2.2.2.1.v,(zi iX.1.Source.Version),fD.2.2.2.2.2.2.2.2.1.v,(zi iX.1.Cache.Age),(zi iX.1.Now),fD.2.2.2.2.2.2.2.2.2.2.1.v,fD.2.2.2.2.2.2.2.2.2.2.2.2.1.v,(zi iX.1.Spent),fD.2.2.2.2.2.2.2.2.2.2.2.2.2.2.1.v])) eG.h.sz (EN ha (.tmp rfl rfl) rfl) (EN ha (.tmp rfl rfl) rfl) rfl rfl rfl rfl rfl) (fun _=>?_)
       refine l6 (kT (eu .h (fun hp=>fP gP.h eG.h.sz rfl (.tmp rfl rfl) hp.2 rfl) ?_))
       refine As (zg [fD.1.v,fD.2.2.1.v,fD.2.2.2.2.1.v,fD.2.2.2.2.2.2.1.v,(zi iX.1.Source.Version),fD.2.2.2.2.2.2.2.2.1.v,(zi iX.1.Cache.Age),(zi iX.1.Now),fD.2.2.2.2.2.2.2.2.2.2.1.v,fD.2.2.2.2.2.2.2.2.2.2.2.2.1.v,(zi iX.1.Spent),fD.2.2.2.2.2.2.2.2.2.2.2.2.2.2.1.v]) ?_
       refine df ?_
       cases hF
       exact⟨_,_,_,_,_,_,_,_,_,_,_,_,_,_,fD.1,fD.2.1,fD.2.2.1,fD.2.2.2.1,fD.2.2.2.2.1,fD.2.2.2.2.2.1,fD.2.2.2.2.2.2.1,fD.2.2.2.2.2.2.2.1,fD.2.2.2.2.2.2.2.2.1,fD.2.2.2.2.2.2.2.2.2.2.1,fD.2.2.2.2.2.2.2.2.2.2.2.1,fD.2.2.2.2.2.2.2.2.2.2.2.2.1,fD.2.2.2.2.2.2.2.2.2.2.2.2.2.1,fD.2.2.2.2.2.2.2.2.2.2.2.2.2.2.1,fD.2.2.2.2.2.2.2.2.2.2.2.2.2.2.2,_,rfl,aA,(.frz .q12 aG ay)⟩
     rw[if_neg (nt aay)]at hF
     refine dC (aN (tH (i:=jv.1) (j:=2) (.tmp rfl rfl) (.int _ _)) ?_)
     refine Ca (.bool ((jv.1:Int)==2)) rfl rfl ?_
     refine df (kg (b:=((jv.1:Int)==2)) (.tmp rfl rfl) (fun aaz=>?_) (fun aaz=>?_))
     · rw[if_pos aaz]at hF
       refine jD [0,1,2,3,4,5,6,7,8] [0,0,2,6,15,31,63,63,127] [2,4,8] mixed (by decide+kernel) ?_
       refine dO rfl .no .q5 (fun ha hp=>fP gP.h eG.h.sz rfl (EN ha (.tmp rfl rfl) rfl) hp.2 rfl) ?_
       refine Dm (pz bG) rfl rfl rfl rfl ?_
       refine bnd hF fun MS arq hF=>cO rfl rfl .no (.cons .h (.rd (.t .h) rfl .nil)) (.own .q4 (fun _ h=>h) .nil) (fun ha=>bV CR.h (.cons (EN ha (.tmp rfl rfl) rfl) (.cons (EN ha (.int _ _) rfl) .nil)) (@lm bG (⟨aj.b,jv.2.i,jv.2.h⟩:bg) ae 4 _ arq)) (fun aBH=>?_)
       refine bN rfl .no (fun ha=>nW (i:=1) (j:=MS.1) (EN ha (.int _ _) rfl) (EN ha (.tmp rfl rfl) rfl)) ?_
       refine bnd hF fun iY ars hF=>VF rfl rfl .no (.cons .q13 (.cons .q12 (.cons .q11 (.cons .q9 (.cons .q8 (.cons .q7 (.cons .q6 (.rd .q6 rfl .nil)))))))) (.dep rfl .nil) (fun ha=>jH (pre:=_) (.cons aG (.cons aG (.cons aG (.cons aG (.cons aG (.cons aG (.cons aG .nil))))))) (fun _=>(.cons (.cons (.cons (.cons (.cons (.cons (.cons (.cons .nil))))))))) (jm (.rd .h rfl (.rd (.t .h) rfl (.rd .q2 rfl (.rd .q3 rfl (.rd .q7 rfl (.rd .q4 rfl (.rd .q5 rfl (.rd .q6 rfl .nil)))))))) (bV V_.h (.cons (EN ha (.tmp rfl rfl) rfl) (.cons (EN ha (.tmp rfl rfl) rfl) .nil)) (@UW (⟨tN,tO,tQ,(⟨pK,nI⟩:Source),(⟨tT,qR⟩:Cache),qU,tV,tX,qV,tY⟩:aY) zM zN zO uV zP zQ zR zS (IntKind.i64.wrap (1+MS.1)) _ ars)))) (fun fE=>?_)
       refine Dm (.tuple [(zg [fE.1.v,fE.2.2.1.v,fE.2.2.2.2.1.v,fE.2.2.2.2.2.2.1.v,(zi iY.1.Source.Version),fE.2.2.2.2.2.2.2.2.1.v,(zi iY.1.Cache.Age),(zi iY.1.Now),fE.2.2.2.2.2.2.2.2.2.2.1.v,fE.2.2.2.2.2.2.2.2.2.2.2.2.1.v,(zi iY.1.Spent),fE.2.2.2.2.2.2.2.2.2.2.2.2.2.2.1.v]),(.bool iY.2)].toArray) rfl rfl rfl rfl ?_
       refine bN rfl .no (fun ha=>kD (l:=[(zg [fE.1.v,fE.2.2.1.v,fE.2.2.2.2.1.v,fE.2.2.2.2.2.2.1.v,(zi iY.1.Source.Version),fE.2.2.2.2.2.2.2.2.1.v,(zi iY.1.Cache.Age),(zi iY.1.Now),fE.2.2.2.2.2.2.2.2.2.2.1.v,fE.2.2.2.2.2.2.2.2.2.2.2.2.1.v,(zi iY.1.Spent),fE.2.2.2.2.2.2.2.2.2.2.2.2.2.2.1.v]),(.bool iY.2)]) (v:=(zg [fE.1.v,fE.2.2.1.v,fE.2.2.2.2.1.v,fE.2.2.2.2.2.2.1.v,(zi iY.1.Source.Version),fE.2.2.2.2.2.2.2.2.1.v,(zi iY.1.Cache.Age),(zi iY.1.Now),fE.2.2.2.2.2.2.2.2.2.2.1.v,fE.2.2.2.2.2.2.2.2.2.2.2.2.1.v,(zi iY.1.Spent),fE.2.2.2.2.2.2.2.2.2.2.2.2.2.2.1.v])) (EN ha (.tmp rfl rfl) rfl) rfl) ?_
       refine bN rfl .no (fun ha=>kD (l:=[(zg [fE.1.v,fE.2.2.1.v,fE.2.2.2.2.1.v,fE.2.2.2.2.2.2.1.v,(zi iY.1.Source.Version),fE.2.2.2.2.2.2.2.2.1.v,(zi iY.1.Cache.Age),(zi iY.1.Now),fE.2.2.2.2.2.2.2.2.2.2.1.v,fE.2.2.2.2.2.2.2.2.2.2.2.2.1.v,(zi iY.1.Spent),fE.2.2.2.2.2.2.2.2.2.2.2.2.2.2.1.v]),(.bool iY.2)]) (v:=(.bool iY.2)) (EN ha (.tmp rfl rfl) rfl) rfl) ?_
       refine cO rfl rfl .no (.cons (.t (.t (.t (.t (.t (.t (.t (.t (.t (.t (.t (.t (.t (.t (.t (.t .h)))))))))))))))) .nil) (.dep rfl .nil) (fun ha=>gD (e':=(zg [fE.1.v,fE.2.2.1.v,fE.2.2.2.2.1.v,fE.2.2.2.2.2.2.1.v,(zi iY.1.Source.Version),fE.2.2.2.2.2.2.2.2.1.v,(zi iY.1.Cache.Age),(zi iY.1.Now),fE.2.2.2.2.2.2.2.2.2.2.1.v,fE.2.2.2.2.2.2.2.2.2.2.2.2.1.v,(zi iY.1.Spent),fE.2.2.2.2.2.2.2.2.2.2.2.2.2.2.1.v])) (v:=(zg [fE.1.v,fE.2.2.1.v,fE.2.2.2.2.1.v,fE.2.2.2.2.2.2.1.v,(zi iY.1.Source.Version),fE.2.2.2.2.2.2.2.2.1.v,(zi iY.1.Cache.Age),(zi iY.1.Now),fE.2.2.2.2.2.2.2.2.2.2.1.v,fE.2.2.2.2.2.2.2.2.2.2.2.2.1.v,(zi iY.1.Spent),fE.2.2.2.2.2.2.2.2.2.2.2.2.2.2.1.v])) eG.h.sz (EN ha (.tmp rfl rfl) rfl) (EN ha (.tmp rfl rfl) rfl) rfl rfl rfl rfl rfl) (fun _=>?_)
       refine l6 (kT (eu .h (fun hp=>fP gP.h eG.h.sz rfl (.tmp rfl rfl) hp.2 rfl) ?_))
       refine As (zg [fE.1.v,fE.2.2.1.v,fE.2.2.2.2.1.v,fE.2.2.2.2.2.2.1.v,(zi iY.1.Source.Version),fE.2.2.2.2.2.2.2.2.1.v,(zi iY.1.Cache.Age),(zi iY.1.Now),fE.2.2.2.2.2.2.2.2.2.2.1.v,fE.2.2.2.2.2.2.2.2.2.2.2.2.1.v,(zi iY.1.Spent),fE.2.2.2.2.2.2.2.2.2.2.2.2.2.2.1.v]) ?_
       refine df ?_
       cases hF
       exact⟨_,_,_,_,_,_,_,_,_,_,_,_,_,_,fE.1,fE.2.1,fE.2.2.1,fE.2.2.2.1,fE.2.2.2.2.1,fE.2.2.2.2.2.1,fE.2.2.2.2.2.2.1,fE.2.2.2.2.2.2.2.1,fE.2.2.2.2.2.2.2.2.1,fE.2.2.2.2.2.2.2.2.2.2.1,fE.2.2.2.2.2.2.2.2.2.2.2.1,fE.2.2.2.2.2.2.2.2.2.2.2.2.1,fE.2.2.2.2.2.2.2.2.2.2.2.2.2.1,fE.2.2.2.2.2.2.2.2.2.2.2.2.2.2.1,fE.2.2.2.2.2.2.2.2.2.2.2.2.2.2.2,_,rfl,aA,(.frz .q13 aG ay)⟩
     rw[if_neg (nt aaz)]at hF
     refine iG .q6 aG ?_
     refine iG .q7 aG ?_
     refine iG .q8 aG ?_
     refine iG .q9 aG ?_
     refine iG .q11 aG ?_
     refine iG .q12 aG ?_
     refine iG .q13 aG ?_
     refine jD [0,1,2,3,4,5,6,7,8] [0,0,0,6,15,31,63,63,127] [3,4,8] mixed (by decide+kernel) ?_
     refine dO rfl .no .q12 (fun ha hp=>fP gP.h eG.h.sz rfl (EN ha (.tmp rfl rfl) rfl) hp.2 rfl) ?_
     refine Dm (pz bG) rfl rfl rfl rfl ?_
     refine Dm uU.v rfl rfl rfl rfl ?_
     refine bnd hF fun FB art hF=>Mw rfl rfl .no (.cons .q7 (.rd .q8 rfl (.rd .q10 rfl .nil))) (.own .q11 (fun _ h=>h) .nil) (fun ha=>E9 (post':=fun WS:Sv×List Nat×Sv×List Nat=>[ah WS.1 FB.1.Head,eX WS.2.2.1 FB.1.Atoms,aW bG 77 (zg [ae.v,(zi FB.2.i),(zi FB.2.h)])]) (fun WS=>(.frz .h aG (.frz (.t .h) aG ay))) (bV Wd.h (.cons (EN ha (.tmp rfl rfl) rfl) (.cons (EN ha (.tmp rfl rfl) rfl) .nil)) (@U6 fuel bG (⟨aj.b,jv.2.i,jv.2.h⟩:bg) ae uT uU _ art))) (fun WS=>?_)
     refine bnd hF fun iZ aru hF=>Yg (UY aru) (fun fF=>?_)
     refine Dm (.tuple [(zg [fF.1.v,fF.2.2.1.v,fF.2.2.2.2.1.v,fF.2.2.2.2.2.2.1.v,(zi iZ.1.Source.Version),fF.2.2.2.2.2.2.2.2.1.v,(zi iZ.1.Cache.Age),(zi iZ.1.Now),fF.2.2.2.2.2.2.2.2.2.1.v,fF.2.2.2.2.2.2.2.2.2.2.2.1.v,(zi iZ.1.Spent),fF.2.2.2.2.2.2.2.2.2.2.2.2.2.1.v]),(.bool iZ.2)].toArray) rfl rfl rfl rfl ?_
     refine bN rfl .no (fun ha=>kD (l:=[(zg [fF.1.v,fF.2.2.1.v,fF.2.2.2.2.1.v,fF.2.2.2.2.2.2.1.v,(zi iZ.1.Source.Version),fF.2.2.2.2.2.2.2.2.1.v,(zi iZ.1.Cache.Age),(zi iZ.1.Now),fF.2.2.2.2.2.2.2.2.2.1.v,fF.2.2.2.2.2.2.2.2.2.2.2.1.v,(zi iZ.1.Spent),fF.2.2.2.2.2.2.2.2.2.2.2.2.2.1.v]),(.bool iZ.2)]) (v:=(zg [fF.1.v,fF.2.2.1.v,fF.2.2.2.2.1.v,fF.2.2.2.2.2.2.1.v,(zi iZ.1.Source.Version),fF.2.2.2.2.2.2.2.2.1.v,(zi iZ.1.Cache.Age),(zi iZ.1.Now),fF.2.2.2.2.2.2.2.2.2.1.v,fF.2.2.2.2.2.2.2.2.2.2.2.1.v,(zi iZ.1.Spent),fF.2.2.2.2.2.2.2.2.2.2.2.2.2.1.v])) (EN ha (.tmp rfl rfl) rfl) rfl) ?_
     refine bN rfl .no (fun ha=>kD (l:=[(zg [fF.1.v,fF.2.2.1.v,fF.2.2.2.2.1.v,fF.2.2.2.2.2.2.1.v,(zi iZ.1.Source.Version),fF.2.2.2.2.2.2.2.2.1.v,(zi iZ.1.Cache.Age),(zi iZ.1.Now),fF.2.2.2.2.2.2.2.2.2.1.v,fF.2.2.2.2.2.2.2.2.2.2.2.1.v,(zi iZ.1.Spent),fF.2.2.2.2.2.2.2.2.2.2.2.2.2.1.v]),(.bool iZ.2)]) (v:=(.bool iZ.2)) (EN ha (.tmp rfl rfl) rfl) rfl) ?_
     refine cO rfl rfl .no (.cons (.t (.t (.t (.t (.t (.t (.t (.t (.t (.t (.t (.t (.t (.t (.t (.t (.t (.t .h)))))))))))))))))) .nil) (.dep rfl .nil) (fun ha=>gD (e':=(zg [fF.1.v,fF.2.2.1.v,fF.2.2.2.2.1.v,fF.2.2.2.2.2.2.1.v,(zi iZ.1.Source.Version),fF.2.2.2.2.2.2.2.2.1.v,(zi iZ.1.Cache.Age),(zi iZ.1.Now),fF.2.2.2.2.2.2.2.2.2.1.v,fF.2.2.2.2.2.2.2.2.2.2.2.1.v,(zi iZ.1.Spent),fF.2.2.2.2.2.2.2.2.2.2.2.2.2.1.v])) (v:=(zg [fF.1.v,fF.2.2.1.v,fF.2.2.2.2.1.v,fF.2.2.2.2.2.2.1.v,(zi iZ.1.Source.Version),fF.2.2.2.2.2.2.2.2.1.v,(zi iZ.1.Cache.Age),(zi iZ.1.Now),fF.2.2.2.2.2.2.2.2.2.1.v,fF.2.2.2.2.2.2.2.2.2.2.2.1.v,(zi iZ.1.Spent),fF.2.2.2.2.2.2.2.2.2.2.2.2.2.1.v])) eG.h.sz (EN ha (.tmp rfl rfl) rfl) (EN ha (.tmp rfl rfl) rfl) rfl rfl rfl rfl rfl) (fun _=>?_)
     refine l6 (kT (eu .h (fun hp=>fP gP.h eG.h.sz rfl (.tmp rfl rfl) hp.2 rfl) ?_))
     refine As (zg [fF.1.v,fF.2.2.1.v,fF.2.2.2.2.1.v,fF.2.2.2.2.2.2.1.v,(zi iZ.1.Source.Version),fF.2.2.2.2.2.2.2.2.1.v,(zi iZ.1.Cache.Age),(zi iZ.1.Now),fF.2.2.2.2.2.2.2.2.2.1.v,fF.2.2.2.2.2.2.2.2.2.2.2.1.v,(zi iZ.1.Spent),fF.2.2.2.2.2.2.2.2.2.2.2.2.2.1.v]) ?_
     refine df ?_
     cases hF
     exact⟨_,_,_,_,_,_,_,_,_,_,_,_,_,_,fF.1,fF.2.1,fF.2.2.1,fF.2.2.2.1,fF.2.2.2.2.1,fF.2.2.2.2.2.1,fF.2.2.2.2.2.2.1,fF.2.2.2.2.2.2.2.1,fF.2.2.2.2.2.2.2.2.1,fF.2.2.2.2.2.2.2.2.2.1,fF.2.2.2.2.2.2.2.2.2.2.1,fF.2.2.2.2.2.2.2.2.2.2.2.1,fF.2.2.2.2.2.2.2.2.2.2.2.2.1,fF.2.2.2.2.2.2.2.2.2.2.2.2.2.1,fF.2.2.2.2.2.2.2.2.2.2.2.2.2.2,_,rfl,aA,ay⟩
   rintro _ _ ⟨QP,QQ,QR,QS,QT,QU,QV,QW,QX,QY,QZ,Q0,Q3,Q4,WJ,abF,WK,abG,WL,abH,WM,abI,WN,WO,abJ,WP,abK,WQ,abL,aBI,rfl,rfl,hE⟩
   replace hF:=arh
   try dsimp only at hF
   refine bu hE ?_
   refine kT (Cm (zi vT) rfl rfl ?_)
   refine aN (ME (i:=vT) (j:=1) (.tmp rfl rfl) (.int _ _)) ?_
   refine Ca (zi (IntKind.i64.wrap (vT-1))) rfl rfl ?_
   refine df ?_
   exact⟨Jq,bY _,_,_,_,_,_,_,_,_,_,_,_,_,_,_,_,_,_,uU,WJ,abF,WK,abG,WL,abH,WM,abI,WN,WO,abJ,WP,abK,WQ,abL,aA,ay,hF⟩
 rw[if_neg (nt aau)]at hF
 refine EZ ?_
 iterate 2 refine Bb ?_
 refine ER (dC (eu .q4 (fun hp=>fP gP.h eG.h.sz rfl (.tmp rfl rfl) hp.2 rfl) ?_))
 refine As (zg [zM.v,zN.v,zO.v,uV.v,(zi nI),zP.v,(zi qR),(zi qU),zQ.v,zR.v,(zi qV),zS.v]) ?_
 refine df (qN ?_)
 cases hF
 exact Er (zM,aby,zN,abz,zO,abA,uV,abB,zP,zQ,abC,zR,abD,zS,abE)
def Vy(fuel:Nat)(aj:bg):Option (aY×bg):=
 (UZ fuel aj).bind fun r2=>
 (kE (⟨aj.b,r2.2.i,r2.2.h⟩:bg) 16).bind fun r6=>
 if ((r6.1:Int)==0)then (
   (Lr (⟨aj.b,r6.2.i,r6.2.h⟩:bg) ([(-1),10000,10001]:List Int)).bind fun lX=>
   some ((⟨r2.1.Schema,r2.1.Methods,r2.1.Rules,r2.1.Source,r2.1.Cache,lX.1,r2.1.Log,r2.1.Times,r2.1.Spent,r2.1.Results⟩:aY),(⟨aj.b,lX.2.i,lX.2.h⟩:bg)))
 else (
   if ((r6.1:Int)==1)then (
     (app r2.1.Times ([3]:List Int)).bind fun z14=>
     some ((⟨r2.1.Schema,r2.1.Methods,r2.1.Rules,r2.1.Source,r2.1.Cache,r2.1.Now,r2.1.Log,z14,r2.1.Spent,r2.1.Results⟩:aY),(⟨aj.b,r6.2.i,r6.2.h⟩:bg)))
   else (
     if ((r6.1:Int)==2)then (
       (Lr (⟨aj.b,r6.2.i,r6.2.h⟩:bg) ([(-1),900000,900001,1000001]:List Int)).bind fun nz=>
       some ((⟨r2.1.Schema,r2.1.Methods,r2.1.Rules,r2.1.Source,r2.1.Cache,r2.1.Now,r2.1.Log,r2.1.Times,nz.1,r2.1.Results⟩:aY),(⟨aj.b,nz.2.i,nz.2.h⟩:bg)))
     else (
       some (r2.1,(⟨aj.b,r6.2.i,r6.2.h⟩:bg)))))
theorem an7{fuel bG:Nat}{aj:bg}{ae:Sv}{R:aY×bg}(hF:Vy fuel aj=some R):
   Fw.Spec Tryz.prog 24 [(pz bG)] [aW bG 77 (zg [ae.v,(zi aj.i),(zi aj.h)]),kz ae aj.b] (fun p:Sv×List Nat×Sv×List Nat×Sv×List Nat×Sv×List Nat×Sv×Sv×List Nat×Sv×List Nat×Sv×List Nat=>(zg [p.1.v,p.2.2.1.v,p.2.2.2.2.1.v,p.2.2.2.2.2.2.1.v,(zi R.1.Source.Version),p.2.2.2.2.2.2.2.2.1.v,(zi R.1.Cache.Age),(zi R.1.Now),p.2.2.2.2.2.2.2.2.2.1.v,p.2.2.2.2.2.2.2.2.2.2.2.1.v,(zi R.1.Spent),p.2.2.2.2.2.2.2.2.2.2.2.2.2.1.v])) (fun p=>[bI p.2.1 p.1 R.1.Schema,nJ p.2.2.2.1 p.2.2.1 R.1.Methods,mE p.2.2.2.2.2.1 p.2.2.2.2.1 R.1.Rules,eP p.2.2.2.2.2.2.2.1 p.2.2.2.2.2.2.1 R.1.Source.Facts,dM p.2.2.2.2.2.2.2.2.1 R.1.Cache.Entries,kK p.2.2.2.2.2.2.2.2.2.2.1 p.2.2.2.2.2.2.2.2.2.1 R.1.Log,bI p.2.2.2.2.2.2.2.2.2.2.2.2.1 p.2.2.2.2.2.2.2.2.2.2.2.1 R.1.Times,aT (aF 152 (aF 24 (aF 3 (aC az)))) p.2.2.2.2.2.2.2.2.2.2.2.2.2.2 p.2.2.2.2.2.2.2.2.2.2.2.2.2.1.v R.1.Results,aW bG 77 (zg [ae.v,(zi R.2.i),(zi R.2.h)])]):=by
 refine Se 28 Tryz.func24 [.cell 2 36] ?_
 intro H0 F0
 unfold Vy at hF
 refine au ?_
 refine d_ (fun k1=>?_)
 refine bv ?_
 refine bnd hF fun r2 hx3 hF=>abW (.cons (.t .h) (.rd (.t .h) rfl .nil)) (bV av_.h cu (@al1 fuel bG aj ae _ hx3)) (fun p4=>?_)
 refine d_ (fun k5=>?_)
 refine As (zg [p4.1.v,p4.2.2.1.v,p4.2.2.2.2.1.v,p4.2.2.2.2.2.2.1.v,(zi r2.1.Source.Version),p4.2.2.2.2.2.2.2.2.1.v,(zi r2.1.Cache.Age),(zi r2.1.Now),p4.2.2.2.2.2.2.2.2.2.1.v,p4.2.2.2.2.2.2.2.2.2.2.2.1.v,(zi r2.1.Spent),p4.2.2.2.2.2.2.2.2.2.2.2.2.2.1.v]) ?_
 refine bi ?_
 refine bnd hF fun r6 hx7 hF=>gB (lm hx7) (fun p8=>?_)
 refine au ?_
 refine bn (dC (aN (tH (i:=r6.1) (j:=0) (.tmp rfl rfl) (.int _ _)) ?_))
 refine aU ?_
 refine Ci hF (fun yS hF=>?_) (fun yS hF=>?_)
 · refine aU ?_
   refine dH rfl (bQ (g:=true) di.h dx.h (.cons (.int _ _) (.cons (.int _ _) (.cons (.int _ _) .nil))) (vs:=[(zi (-1)),(zi 10000),(zi 10001)]) rfl rfl rfl (by intro v hv; simp at hv; rcases hv with rfl|rfl|rfl<;>rfl)) (fun k9=>?_)
   refine dR (.cons .h .nil) (bS (Ro:=(aC az)) (E:=3) (F:=([]++([]++([]++[])))) (xs:=([(-1),10000,10001]:List Int)) (ed (jF (fun _=>rfl)) (ed (jF (fun _=>rfl)) (ed (jF (fun _=>rfl)) bR cK) cK) cK) rfl rfl) ?_
   refine bnd hF fun lX lg hF=>uZ (.cons .h (.cons .h (.rd .q10 rfl .nil))) (jV aG (fun _=>(.cons .nil)) (jm (.cons (.t .h) (.rd (.t .h) rfl (.rd .h rfl .nil))) (bV ab0.h cu (@YZ bG (⟨aj.b,r6.2.i,r6.2.h⟩:bg) ae ([(-1),10000,10001]:List Int) (⟨(some ⟨k9,0,none⟩),3,1⟩) _ lg)))) (fun oL=>?_)
   refine au ?_
   refine As (zg [p4.1.v,p4.2.2.1.v,p4.2.2.2.2.1.v,p4.2.2.2.2.2.2.1.v,(zi r2.1.Source.Version),p4.2.2.2.2.2.2.2.2.1.v,(zi r2.1.Cache.Age),(zi lX.1),p4.2.2.2.2.2.2.2.2.2.1.v,p4.2.2.2.2.2.2.2.2.2.2.2.1.v,(zi r2.1.Spent),p4.2.2.2.2.2.2.2.2.2.2.2.2.2.1.v]) ?_
   refine bv ?_
   refine As (zg [p4.1.v,p4.2.2.1.v,p4.2.2.2.2.1.v,p4.2.2.2.2.2.2.1.v,(zi r2.1.Source.Version),p4.2.2.2.2.2.2.2.2.1.v,(zi r2.1.Cache.Age),(zi lX.1),p4.2.2.2.2.2.2.2.2.2.1.v,p4.2.2.2.2.2.2.2.2.2.2.2.1.v,(zi r2.1.Spent),p4.2.2.2.2.2.2.2.2.2.2.2.2.2.1.v]) ?_
   refine aU ?_
   cases hF
   exact Er (p4.1,p4.2.1,p4.2.2.1,p4.2.2.2.1,p4.2.2.2.2.1,p4.2.2.2.2.2.1,p4.2.2.2.2.2.2.1,p4.2.2.2.2.2.2.2.1,p4.2.2.2.2.2.2.2.2.1,p4.2.2.2.2.2.2.2.2.2.1,p4.2.2.2.2.2.2.2.2.2.2.1,p4.2.2.2.2.2.2.2.2.2.2.2.1,p4.2.2.2.2.2.2.2.2.2.2.2.2.1,p4.2.2.2.2.2.2.2.2.2.2.2.2.2.1,p4.2.2.2.2.2.2.2.2.2.2.2.2.2.2)
 refine bi ?_
 refine Ci hF (fun vZ hF=>?_) (fun vZ hF=>?_)
 · refine bv ?_
   refine dH rfl (bQ (g:=true) di.h dx.h (.cons (.int _ _) .nil) (vs:=[(zi 3)]) rfl rfl rfl (by intro v hv; simp at hv; rcases hv with rfl<;>rfl)) (fun k13=>?_)
   refine dR (.cons .h .nil) (bS (Ro:=(aC az)) (E:=3) (F:=([]++[])) (xs:=([3]:List Int)) (ed (jF (fun _=>rfl)) bR cK) rfl rfl) ?_
   refine bnd hF fun z14 kG hF=>ek (.cons .q9 (.cons .h .nil)) (dX (Ro:=(aC az)) di.h jc dx.h rfl rfl rfl (.tmp rfl rfl) (.tmp rfl rfl) kG fU) (fun p16=>?_)
   refine au ?_
   refine As (zg [p4.1.v,p4.2.2.1.v,p4.2.2.2.2.1.v,p4.2.2.2.2.2.2.1.v,(zi r2.1.Source.Version),p4.2.2.2.2.2.2.2.2.1.v,(zi r2.1.Cache.Age),(zi r2.1.Now),p4.2.2.2.2.2.2.2.2.2.1.v,p16.1.v,(zi r2.1.Spent),p4.2.2.2.2.2.2.2.2.2.2.2.2.2.1.v]) ?_
   refine bv ?_
   refine As (zg [p4.1.v,p4.2.2.1.v,p4.2.2.2.2.1.v,p4.2.2.2.2.2.2.1.v,(zi r2.1.Source.Version),p4.2.2.2.2.2.2.2.2.1.v,(zi r2.1.Cache.Age),(zi r2.1.Now),p4.2.2.2.2.2.2.2.2.2.1.v,p16.1.v,(zi r2.1.Spent),p4.2.2.2.2.2.2.2.2.2.2.2.2.2.1.v]) ?_
   refine aU ?_
   cases hF
   exact Er (p4.1,p4.2.1,p4.2.2.1,p4.2.2.2.1,p4.2.2.2.2.1,p4.2.2.2.2.2.1,p4.2.2.2.2.2.2.1,p4.2.2.2.2.2.2.2.1,p4.2.2.2.2.2.2.2.2.1,p4.2.2.2.2.2.2.2.2.2.1,p4.2.2.2.2.2.2.2.2.2.2.1,p16.1,p16.2,p4.2.2.2.2.2.2.2.2.2.2.2.2.2.1,p4.2.2.2.2.2.2.2.2.2.2.2.2.2.2)
 refine bi ?_
 refine Ci hF (fun Ju hF=>?_) (fun Ju hF=>?_)
 · refine aU ?_
   refine dH rfl (bQ (g:=true) di.h dx.h (.cons (.int _ _) (.cons (.int _ _) (.cons (.int _ _) (.cons (.int _ _) .nil)))) (vs:=[(zi (-1)),(zi 900000),(zi 900001),(zi 1000001)]) rfl rfl rfl (by intro v hv; simp at hv; rcases hv with rfl|rfl|rfl|rfl<;>rfl)) (fun k17=>?_)
   refine dR (.cons .h .nil) (bS (Ro:=(aC az)) (E:=3) (F:=([]++([]++([]++([]++[]))))) (xs:=([(-1),900000,900001,1000001]:List Int)) (ed (jF (fun _=>rfl)) (ed (jF (fun _=>rfl)) (ed (jF (fun _=>rfl)) (ed (jF (fun _=>rfl)) bR cK) cK) cK) cK) rfl rfl) ?_
   refine bnd hF fun nz kR hF=>uZ (.cons .h (.cons .h (.rd .q10 rfl .nil))) (jV aG (fun _=>(.cons .nil)) (jm (.cons (.t .h) (.rd (.t .h) rfl (.rd .h rfl .nil))) (bV ab0.h cu (@YZ bG (⟨aj.b,r6.2.i,r6.2.h⟩:bg) ae ([(-1),900000,900001,1000001]:List Int) (⟨(some ⟨k17,0,none⟩),4,1⟩) _ kR)))) (fun mi=>?_)
   refine au ?_
   refine As (zg [p4.1.v,p4.2.2.1.v,p4.2.2.2.2.1.v,p4.2.2.2.2.2.2.1.v,(zi r2.1.Source.Version),p4.2.2.2.2.2.2.2.2.1.v,(zi r2.1.Cache.Age),(zi r2.1.Now),p4.2.2.2.2.2.2.2.2.2.1.v,p4.2.2.2.2.2.2.2.2.2.2.2.1.v,(zi nz.1),p4.2.2.2.2.2.2.2.2.2.2.2.2.2.1.v]) ?_
   refine bv ?_
   refine As (zg [p4.1.v,p4.2.2.1.v,p4.2.2.2.2.1.v,p4.2.2.2.2.2.2.1.v,(zi r2.1.Source.Version),p4.2.2.2.2.2.2.2.2.1.v,(zi r2.1.Cache.Age),(zi r2.1.Now),p4.2.2.2.2.2.2.2.2.2.1.v,p4.2.2.2.2.2.2.2.2.2.2.2.1.v,(zi nz.1),p4.2.2.2.2.2.2.2.2.2.2.2.2.2.1.v]) ?_
   refine aU ?_
   cases hF
   exact Er (p4.1,p4.2.1,p4.2.2.1,p4.2.2.2.1,p4.2.2.2.2.1,p4.2.2.2.2.2.1,p4.2.2.2.2.2.2.1,p4.2.2.2.2.2.2.2.1,p4.2.2.2.2.2.2.2.2.1,p4.2.2.2.2.2.2.2.2.2.1,p4.2.2.2.2.2.2.2.2.2.2.1,p4.2.2.2.2.2.2.2.2.2.2.2.1,p4.2.2.2.2.2.2.2.2.2.2.2.2.1,p4.2.2.2.2.2.2.2.2.2.2.2.2.2.1,p4.2.2.2.2.2.2.2.2.2.2.2.2.2.2)
 refine bv ?_
 refine As (zg [p4.1.v,p4.2.2.1.v,p4.2.2.2.2.1.v,p4.2.2.2.2.2.2.1.v,(zi r2.1.Source.Version),p4.2.2.2.2.2.2.2.2.1.v,(zi r2.1.Cache.Age),(zi r2.1.Now),p4.2.2.2.2.2.2.2.2.2.1.v,p4.2.2.2.2.2.2.2.2.2.2.2.1.v,(zi r2.1.Spent),p4.2.2.2.2.2.2.2.2.2.2.2.2.2.1.v]) ?_
 refine aU ?_
 cases hF
 exact Er (p4.1,p4.2.1,p4.2.2.1,p4.2.2.2.1,p4.2.2.2.2.1,p4.2.2.2.2.2.1,p4.2.2.2.2.2.2.1,p4.2.2.2.2.2.2.2.1,p4.2.2.2.2.2.2.2.2.1,p4.2.2.2.2.2.2.2.2.2.1,p4.2.2.2.2.2.2.2.2.2.2.1,p4.2.2.2.2.2.2.2.2.2.2.2.1,p4.2.2.2.2.2.2.2.2.2.2.2.2.1,p4.2.2.2.2.2.2.2.2.2.2.2.2.2.1,p4.2.2.2.2.2.2.2.2.2.2.2.2.2.2)
def UF(fuel:Nat)(ko:List UInt8):Option (aY):=
 (VH ko).bind fun r2=>
 (Vy fuel r2).bind fun r5=>
 some r5.1
theorem alr{fuel:Nat}{ko:List UInt8}{ae:Sv}{R:aY}(hF:UF fuel ko=some R):
   Fw.Spec Tryz.prog 5 [ae.v] [kz ae ko] (fun p:Sv×List Nat×Sv×List Nat×Sv×List Nat×Sv×List Nat×Sv×Sv×List Nat×Sv×List Nat×Sv×List Nat=>(zg [p.1.v,p.2.2.1.v,p.2.2.2.2.1.v,p.2.2.2.2.2.2.1.v,(zi R.Source.Version),p.2.2.2.2.2.2.2.2.1.v,(zi R.Cache.Age),(zi R.Now),p.2.2.2.2.2.2.2.2.2.1.v,p.2.2.2.2.2.2.2.2.2.2.2.1.v,(zi R.Spent),p.2.2.2.2.2.2.2.2.2.2.2.2.2.1.v])) (fun p=>[bI p.2.1 p.1 R.Schema,nJ p.2.2.2.1 p.2.2.1 R.Methods,mE p.2.2.2.2.2.1 p.2.2.2.2.1 R.Rules,eP p.2.2.2.2.2.2.2.1 p.2.2.2.2.2.2.1 R.Source.Facts,dM p.2.2.2.2.2.2.2.2.1 R.Cache.Entries,kK p.2.2.2.2.2.2.2.2.2.2.1 p.2.2.2.2.2.2.2.2.2.1 R.Log,bI p.2.2.2.2.2.2.2.2.2.2.2.2.1 p.2.2.2.2.2.2.2.2.2.2.2.1 R.Times,aT (aF 152 (aF 24 (aF 3 (aC az)))) p.2.2.2.2.2.2.2.2.2.2.2.2.2.2 p.2.2.2.2.2.2.2.2.2.2.2.2.2.1.v R.Results]):=by
 refine Se 6 Tryz.func5 [.cell 2 36] ?_
 intro H0 F0
 unfold UF at hF
 refine au ?_
 refine d_ (fun k1=>?_)
 refine bv ?_
 refine bnd hF fun r2 hx3 hF=>Av (aot hx3) (fun p4=>?_)
 refine bnd hF fun r5 hx6 hF=>abW (.cons .h (.rd .h rfl .nil)) (bV av9.h cu (an7 hx6)) (fun p7=>?_)
 refine As (zg [p7.1.v,p7.2.2.1.v,p7.2.2.2.2.1.v,p7.2.2.2.2.2.2.1.v,(zi r5.1.Source.Version),p7.2.2.2.2.2.2.2.2.1.v,(zi r5.1.Cache.Age),(zi r5.1.Now),p7.2.2.2.2.2.2.2.2.2.1.v,p7.2.2.2.2.2.2.2.2.2.2.2.1.v,(zi r5.1.Spent),p7.2.2.2.2.2.2.2.2.2.2.2.2.2.1.v]) ?_
 refine aU ?_
 cases hF
 exact Er (p7.1,p7.2.1,p7.2.2.1,p7.2.2.2.1,p7.2.2.2.2.1,p7.2.2.2.2.2.1,p7.2.2.2.2.2.2.1,p7.2.2.2.2.2.2.2.1,p7.2.2.2.2.2.2.2.2.1,p7.2.2.2.2.2.2.2.2.2.1,p7.2.2.2.2.2.2.2.2.2.2.1,p7.2.2.2.2.2.2.2.2.2.2.2.1,p7.2.2.2.2.2.2.2.2.2.2.2.2.1,p7.2.2.2.2.2.2.2.2.2.2.2.2.2.1,p7.2.2.2.2.2.2.2.2.2.2.2.2.2.2)
def o_(gW:Int)(vO:Int)(xY:Int):Option (Bool):=
 some ((decide ((vO:Int)<=gW))&&(decide ((gW:Int)<=xY)))
theorem sS{gW vO xY:Int}{R:Bool}(hF:o_ gW vO xY=some R):
   Fw.Spec Tryz.prog 61 [(zi gW),(zi vO),(zi xY)] [] (fun _:Unit=>(.bool R)) (fun _=>[]):=by
 refine Se 15 Tryz.func61 [.tmp 6] ?_
 intro H0 F0
 unfold o_ at hF
 refine bi ?_
 refine fe (fun f' cs'=>∃(g:Fr),f'=aQ g [(6,(.bool ((decide ((vO:Int)<=gW))&&(decide ((gW:Int)<=xY)))))]/\aO cs' []) ?_ ?_
 · refine bi ?_
   rcases bD (decide ((vO:Int)<=gW))with hg1|hg1
   · rw[hg1]
     try rw[hg1]at hF; dsimp only[aJ,aI]at hF
     refine gF ?_
     exact⟨_,aA,ay⟩
   rw[hg1]
   try rw[hg1]at hF; dsimp only[aJ,aI]at hF
   refine bE ?_
   exact⟨_,aA,ay⟩
 rintro _ _ ⟨g2,rfl,hE⟩
 refine bu hE ?_
 exact ze hF
def U7(gW:Int):Option (Bool):=
 (o_ gW 1 3).bind fun r1=>
 some (!r1)
theorem amg{gW:Int}{R:Bool}(hF:U7 gW=some R):
   Fw.Spec Tryz.prog 142 [(zi gW)] [] (fun _:Unit=>(.bool R)) (fun _=>[]):=by
 refine Se 6 Tryz.func142 [.tmp 2] ?_
 intro H0 F0
 unfold U7 at hF
 refine aZ ?_
 refine bnd hF fun r1 hx2 hF=>bC (sS hx2) (fun _=>?_)
 exact ze hF
def KS:List Int->Nat->Option (Int)
 |[],k4=>some (-1)
 |x6::aM,k4=>(U7 x6).bind fun gu=>
   if gu then (
     some (k4:Int))
   else (
     KS aM (k4+1))
def UB(ag:List Int):Option (Int):=
 KS ag 0
theorem alj{ag:List Int}{ae:Sv}{R:Int}(hF:UB ag=some R):
   Fw.Spec Tryz.prog 81 [ae.v,(.func (.func 142) [].toArray [].toArray)] [ah ae ag] (fun _:Unit=>(zi R)) (fun _=>[]):=by
 refine Se 19 Tryz.func81 [.tmp 4] ?_
 intro H0 F0
 unfold UB at hF
 refine gF ?_
 refine bn (bU (m:=ag.length) (fun m2 f' cs'=>∃(g:Fr)(k4:Nat)(aM:List Int),m2=aM.length/\f'=aQ g [(0,ae.v),(1,(.func (.func 142) [].toArray [].toArray)),(7,(zi (ag.length:Int))),(8,(zi (k4:Int)))]/\List.drop k4 ag=aM/\aO cs' [ah ae ag]/\KS aM k4=some R) ⟨_,0,_,rfl,aA,rfl,ay,hF⟩ ?_)
 rintro m2 _ _ ⟨g3,k4,aM,rfl,rfl,hd7,hE,hF⟩
 refine Kb hE ag (fun kY=>?_)
 rcases aM with _|⟨x6,aM⟩
 · have gH:=dn hd7
   rw[KS]at hF
   refine bi ?_
   refine dL ?_
   exact ze hF
 obtain⟨gH,bZ,gG⟩:=dA hd7
 rw[KS]at hF
 refine bi ?_
 refine dK ?_
 refine kF ?_
 refine Ai bZ (fun k13 oK=>?_)
 refine Al dP ?_
 refine bnd hF fun gu hx16 hF=>l9 .nil (qL asU.h (.tmp rfl rfl) cu (amg hx16)) (fun _=>?_)
 refine au ?_
 refine Ci hF (fun wD hF=>?_) (fun wD hF=>?_)
 · exact ze hF
 refine aZ ?_
 rw[wk k4]
 exact⟨_,bY _,_,k4+1,aM,rfl,aA,gG,ay,hF⟩
def NT(ag:List Int):Option (Bool):=
 (UB ag).bind fun r1=>
 some (decide ((0:Int)<=r1))
theorem alb{ag:List Int}{ae:Sv}{R:Bool}(hF:NT ag=some R):
   Fw.Spec Tryz.prog 38 [ae.v,(.func (.func 142) [].toArray [].toArray)] [ah ae ag] (fun _:Unit=>(.bool R)) (fun _=>[]):=by
 refine Se 9 Tryz.func38 [.tmp 4] ?_
 intro H0 F0
 unfold NT at hF
 refine bE ?_
 refine bnd hF fun r1 hx2 hF=>bC (alj hx2) (fun _=>?_)
 exact ze hF
def EL(ag:List Int):Option (Bool):=
 ((o_ (ag.length:Int) 1 3).bind fun r3=>
   bif r3 then ((NT ag).bind fun r7=>
     some (!r7))
   else (some false)).bind fun o1=>
 match o1 with
 |c10=>some c10
theorem U0{ag:List Int}{ae:Sv}{R:Bool}(hF:EL ag=some R):
   Fw.Spec Tryz.prog 104 [ae.v] [ah ae ag] (fun _:Unit=>(.bool R)) (fun _=>[]):=by
 refine Se 11 Tryz.func104 [.tmp 2] ?_
 intro H0 F0
 unfold EL at hF
 refine bv ?_
 obtain⟨o1,yP,hO2⟩:=bind_some hF
 refine au ?_
 refine fe (fun f' cs'=>∃(c10:Bool)(g:Fr),c10=o1/\f'=aQ g [(2,(.bool c10))]/\aO cs' []) ?_ ?_
 · replace hF:=yP
   refine aU ?_
   refine bnd hF fun r3 hx4 hF=>bC (sS hx4) (fun _=>?_)
   refine au ?_
   rcases bD r3 with kv|kv
   · rw[kv]
     try rw[kv]at hF; dsimp only[aJ,aI]at hF
     refine bv ?_
     refine bnd hF fun r7 uD hF=>bC (alb uD) (fun _=>?_)
     exact bK hF
   rw[kv]
   try rw[kv]at hF; dsimp only[aJ,aI]at hF
   exact bK hF
 rintro _ _ ⟨c10,g11,rfl,rfl,hE⟩
 replace hF:=hO2
 try dsimp only at hF
 refine bu hE ?_
 exact ze hF
def EW(ag:List Int)(oP:Int):Option (Bool):=
 ((EL ag).bind fun r3=>
   bif r3 then ((o_ oP 0 (IntKind.i64.wrap ((ag.length:Int)-1))).bind fun r7=>
     some r7)
   else (some false)).bind fun o1=>
 match o1 with
 |c10=>some c10
theorem Va{ag:List Int}{ae:Sv}{oP:Int}{R:Bool}(hF:EW ag oP=some R):
   Fw.Spec Tryz.prog 144 [ae.v,(zi oP)] [ah ae ag] (fun _:Unit=>(.bool R)) (fun _=>[]):=by
 refine Se 14 Tryz.func144 [.tmp 4] ?_
 intro H0 F0
 unfold EW at hF
 refine bv ?_
 obtain⟨o1,yP,hO2⟩:=bind_some hF
 refine au ?_
 refine fe (fun f' cs'=>∃(c10:Bool)(g:Fr),c10=o1/\f'=aQ g [(4,(.bool c10))]/\aO cs' []) ?_ ?_
 · replace hF:=yP
   refine au ?_
   refine bnd hF fun r3 hx4 hF=>bC (U0 hx4) (fun _=>?_)
   refine au ?_
   rcases bD r3 with kv|kv
   · rw[kv]
     try rw[kv]at hF; dsimp only[aJ,aI]at hF
     refine gF ?_
     refine bnd hF fun r7 uD hF=>bC (sS uD) (fun _=>?_)
     exact bK hF
   rw[kv]
   try rw[kv]at hF; dsimp only[aJ,aI]at hF
   exact bK hF
 rintro _ _ ⟨c10,g11,rfl,rfl,hE⟩
 replace hF:=hO2
 try dsimp only at hF
 refine bu hE ?_
 exact ze hF
def G9(ai:List Int):List Int->Nat->Option (Bool)
 |[],k4=>some true
 |x6::aM,k4=>(bif (decide ((0:Int)<(k4:Int)))then ((ix ai (IntKind.i64.wrap ((k4:Int)-1))).bind fun ic=>
       some (decide ((x6:Int)<=ic)))
     else (some false)).bind fun mo=>
   match mo with
   |c24=>if c24 then (
       some false)
     else (
       G9 ai aM (k4+1))
def OX(ai:List Int):Option (Bool):=
 G9 ai ai 0
theorem amE{ai:List Int}{ae:Sv}{R:Bool}(hF:OX ai=some R):
   Fw.Spec Tryz.prog 178 [ae.v] [ah ae ai] (fun _:Unit=>(.bool R)) (fun _=>[]):=by
 refine Se 24 Tryz.func178 [.tmp 2] ?_
 intro H0 F0
 unfold OX at hF
 refine gF ?_
 refine bn (bU (m:=ai.length) (fun m2 f' cs'=>∃(g:Fr)(k4:Nat)(aM:List Int),m2=aM.length/\f'=aQ g [(0,ae.v),(5,(zi (ai.length:Int))),(6,(zi (k4:Int)))]/\List.drop k4 ai=aM/\aO cs' [ah ae ai]/\G9 ai aM k4=some R) ⟨_,0,_,rfl,aA,rfl,ay,hF⟩ ?_)
 rintro m2 _ _ ⟨g3,k4,aM,rfl,rfl,hd7,hE,hF⟩
 refine Kb hE ai (fun kY=>?_)
 rcases aM with _|⟨x6,aM⟩
 · have gH:=dn hd7
   rw[G9]at hF
   refine bi ?_
   refine dL ?_
   exact ze hF
 obtain⟨gH,bZ,gG⟩:=dA hd7
 rw[G9]at hF
 refine bi ?_
 refine dK ?_
 refine bE ?_
 obtain⟨mo,vP,wh⟩:=bind_some hF
 refine dV [0,1,2,3,4,5,6,7,8,9,10,11,12,13] [0,1,3,7,7,31,63,7,7,263,903,1927,4095,8191] [] mixed (by decide+kernel) ?_
 refine kX (fun f' cs'=>∃(c24:Bool)(g:Fr),c24=mo/\f'=aQ g [(0,ae.v),(5,(zi (ai.length:Int))),(6,(zi (k4:Int))),(22,(.bool c24))]/\aO cs' [ah ae ai]) ?_ ?_
 · replace hF:=vP
   refine dD ?_
   rcases bD (decide ((0:Int)<(k4:Int)))with jJ|jJ
   · rw[jJ]
     try rw[jJ]at hF; dsimp only[aJ,aI]at hF
     refine bX ?_
     refine Di bZ (fun k16 J7=>?_)
     refine Dl dP ?_
     refine dD ?_
     refine zI hF fun ic ajP lG hF=>?_
     refine Di lG (fun k22 j23=>?_)
     refine Dl dP ?_
     exact eD hF
   rw[jJ]
   try rw[jJ]at hF; dsimp only[aJ,aI]at hF
   exact eD hF
 rintro _ _ ⟨c24,g27,rfl,rfl,hE⟩
 replace hF:=wh
 try dsimp only at hF
 refine bu hE ?_
 refine Ci hF (fun Df hF=>?_) (fun Df hF=>?_)
 · exact ze hF
 refine aZ ?_
 rw[wk k4]
 exact⟨_,bY _,_,k4+1,aM,rfl,aA,gG,ay,hF⟩
def Ob(qg:Int)(ak:Int):Option (Bool):=
 (o_ qg 0 (IntKind.i64.wrap (ak-1))).bind fun r1=>
 some (!r1)
theorem alE{qg:Int}{bT:Nat}{ak:Int}{R:Bool}(hF:Ob qg ak=some R):
   Fw.Spec Tryz.prog 179 [(zi qg),(pz bT)] [aX bT 3 (zi ak)] (fun _:Unit=>(.bool R)) (fun _=>[]):=by
 refine Se 9 Tryz.func179 [.tmp 3] ?_
 intro H0 F0
 unfold Ob at hF
 refine bJ ?_
 refine bnd hF fun r1 hx2 hF=>bC (sS hx2) (fun _=>?_)
 exact ze hF
def KQ(ak:Int):List Int->Nat->Option (Int)
 |[],k4=>some (-1)
 |x6::aM,k4=>(Ob x6 ak).bind fun gu=>
   if gu then (
     some (k4:Int))
   else (
     KQ ak aM (k4+1))
def Uz(ag:List Int)(ak:Int):Option (Int):=
 KQ ak ag 0
theorem alh{ag:List Int}{ae:Sv}{bT:Nat}{ak R:Int}(hF:Uz ag ak=some R):
   Fw.Spec Tryz.prog 81 [ae.v,(.func (.func 179) [].toArray [(pz bT)].toArray)] [ah ae ag,aX bT 3 (zi ak)] (fun _:Unit=>(zi R)) (fun _=>[]):=by
 refine Se 19 Tryz.func81 [.tmp 4] ?_
 intro H0 F0
 unfold Uz at hF
 refine gF ?_
 refine bn (bU (m:=ag.length) (fun m2 f' cs'=>∃(g:Fr)(k4:Nat)(aM:List Int),m2=aM.length/\f'=aQ g [(0,ae.v),(1,(.func (.func 179) [].toArray [(pz bT)].toArray)),(7,(zi (ag.length:Int))),(8,(zi (k4:Int)))]/\List.drop k4 ag=aM/\aO cs' [ah ae ag,aX bT 3 (zi ak)]/\KQ ak aM k4=some R) ⟨_,0,_,rfl,aA,rfl,ay,hF⟩ ?_)
 rintro m2 _ _ ⟨g3,k4,aM,rfl,rfl,hd7,hE,hF⟩
 refine Kb hE ag (fun kY=>?_)
 rcases aM with _|⟨x6,aM⟩
 · have gH:=dn hd7
   rw[KQ]at hF
   refine bi ?_
   refine dL ?_
   exact ze hF
 obtain⟨gH,bZ,gG⟩:=dA hd7
 rw[KQ]at hF
 refine bi ?_
 refine dK ?_
 refine kF ?_
 refine Ai bZ (fun k13 oK=>?_)
 refine Al dP ?_
 refine bnd hF fun gu hx16 hF=>l9 (.rd .q2 rfl .nil) (qL asW.h (.tmp rfl rfl) cu (alE hx16)) (fun _=>?_)
 refine au ?_
 refine Ci hF (fun wD hF=>?_) (fun wD hF=>?_)
 · exact ze hF
 refine aZ ?_
 rw[wk k4]
 exact⟨_,bY _,_,k4+1,aM,rfl,aA,gG,ay,hF⟩
def NR(ag:List Int)(ak:Int):Option (Bool):=
 (Uz ag ak).bind fun r1=>
 some (decide ((0:Int)<=r1))
theorem ak8{ag:List Int}{ae:Sv}{bT:Nat}{ak:Int}{R:Bool}(hF:NR ag ak=some R):
   Fw.Spec Tryz.prog 38 [ae.v,(.func (.func 179) [].toArray [(pz bT)].toArray)] [ah ae ag,aX bT 3 (zi ak)] (fun _:Unit=>(.bool R)) (fun _=>[]):=by
 refine Se 9 Tryz.func38 [.tmp 4] ?_
 intro H0 F0
 unfold NR at hF
 refine bE ?_
 refine bnd hF fun r1 hx2 hF=>bC (alh hx2) (fun _=>?_)
 exact ze hF
def PL(gW:Int):Option (Bool):=
 (o_ gW 0 99).bind fun r1=>
 some r1
theorem agd{gW:Int}{R:Bool}(hF:PL gW=some R):
   Fw.Spec Tryz.prog 125 [(zi gW)] [] (fun _:Unit=>(.bool R)) (fun _=>[]):=by
 refine Se 5 Tryz.func125 [.tmp 2] ?_
 intro H0 F0
 unfold PL at hF
 refine aZ ?_
 refine bnd hF fun r1 hx2 hF=>bC (sS hx2) (fun _=>?_)
 exact ze hF
def U1(aa:Method)(BM:Int):Option (Bool):=
 ((OX aa.Inputs).bind fun r5=>
   bif r5 then ((NR aa.Inputs BM).bind fun r9=>
     bif (!r9)then ((o_ aa.Limit 0 9).bind fun o5=>
       bif o5 then ((PL aa.Cost).bind fun o9=>
         bif o9 then ((o_ aa.Quota 1 99).bind fun oM=>
           some oM)
         else (some false))
       else (some false))
     else (some false))
   else (some false)).bind fun o3=>
 match o3 with
 |c24=>some c24
theorem al2{aa:Method}{aP:Sv}{BM:Int}{R:Bool}(hF:U1 aa BM=some R):
   Fw.Spec Tryz.prog 145 [(zg [(zi aa.Rel),aP.v,(zi aa.Limit),(zi aa.Cost),(zi aa.Quota)]),(zi BM)] [ah aP aa.Inputs] (fun _:Unit=>(.bool R)) (fun _=>[]):=by
 refine Se 30 Tryz.func145 [.tmp 4] ?_
 intro H0 F0
 unfold U1 at hF
 refine au ?_
 refine bP (fun k1=>?_)
 refine bP (fun k2=>?_)
 refine aU ?_
 obtain⟨o3,wy,hO4⟩:=bind_some hF
 refine au ?_
 refine fe (fun f' cs'=>∃(c24:Bool)(g:Fr),c24=o3/\f'=aQ g [(4,(.bool c24))]/\aO cs' []) ?_ ?_
 · replace hF:=wy
   refine aU ?_
   refine bnd hF fun r5 hx6 hF=>bC (amE hx6) (fun _=>?_)
   refine au ?_
   rcases bD r5 with kw|kw
   · rw[kw]
     try rw[kw]at hF; dsimp only[aJ,aI]at hF
     refine aZ ?_
     refine aN (wU (fn:=.func 179) (vs:=[]) (us:=[(pz k2)]) .nil cu) ?_
     refine au ?_
     refine bnd hF fun r9 jI hF=>bC (ak8 jI) (fun _=>?_)
     refine bi ?_
     rcases bD (!r9)with lI|lI
     · rw[lI]
       try rw[lI]at hF; dsimp only[aJ,aI]at hF
       refine aZ ?_
       refine bnd hF fun o5 kr hF=>bC (sS kr) (fun _=>?_)
       refine aU ?_
       rcases bD o5 with yK|yK
       · rw[yK]
         try rw[yK]at hF; dsimp only[aJ,aI]at hF
         refine aZ ?_
         refine bnd hF fun o9 mQ hF=>bC (agd mQ) (fun _=>?_)
         refine aU ?_
         rcases bD o9 with rA|rA
         · rw[rA]
           try rw[rA]at hF; dsimp only[aJ,aI]at hF
           refine aZ ?_
           refine bnd hF fun oM ug hF=>bC (sS ug) (fun _=>?_)
           exact bK hF
         rw[rA]
         try rw[rA]at hF; dsimp only[aJ,aI]at hF
         exact bK hF
       rw[yK]
       try rw[yK]at hF; dsimp only[aJ,aI]at hF
       exact bK hF
     rw[lI]
     try rw[lI]at hF; dsimp only[aJ,aI]at hF
     exact bK hF
   rw[kw]
   try rw[kw]at hF; dsimp only[aJ,aI]at hF
   exact bK hF
 rintro _ _ ⟨c24,TE,rfl,rfl,hE⟩
 replace hF:=hO4
 try dsimp only at hF
 refine bu hE ?_
 exact ze hF
def Pj(ag:List Int)(aa:Method):Option (Bool):=
 ((EW ag aa.Rel).bind fun r4=>
   bif r4 then ((ix ag aa.Rel).bind fun x8=>
     (U1 aa x8).bind fun jY=>
     some jY)
   else (some false)).bind fun o2=>
 match o2 with
 |c17=>some c17
theorem ana{ag:List Int}{ae:Sv}{aa:Method}{aV:Sv}{R:Bool}(hF:Pj ag aa=some R):
   Fw.Spec Tryz.prog 107 [ae.v,(zg [(zi aa.Rel),aV.v,(zi aa.Limit),(zi aa.Cost),(zi aa.Quota)])] [ah ae ag,ah aV aa.Inputs] (fun _:Unit=>(.bool R)) (fun _=>[]):=by
 refine Se 18 Tryz.func107 [.tmp 4] ?_
 intro H0 F0
 unfold Pj at hF
 refine au ?_
 refine bP (fun k1=>?_)
 refine aU ?_
 obtain⟨o2,gz,hO3⟩:=bind_some hF
 refine dV [0,1,2,3,4,5,6,7,8,9,10,11,12,13] [0,0,2,7,15,31,31,31,159,479,991,2047,4095,8191] [3,11] mixed (by decide+kernel) ?_
 refine kX (fun f' cs'=>∃(c17:Bool)(g:Fr),c17=o2/\f'=aQ g [(4,(.bool c17))]/\aO cs' []) ?_ ?_
 · replace hF:=gz
   refine dD ?_
   refine bnd hF fun r4 hx5 hF=>fu (Va hx5) (fun _=>?_)
   refine du ?_
   rcases bD r4 with bq|bq
   · rw[bq]
     try rw[bq]at hF; dsimp only[aJ,aI]at hF
     refine nZ ?_
     refine zI hF fun x8 akt lg hF=>?_
     refine Di lg (fun k12 j13=>?_)
     refine Dl dP ?_
     refine bnd hF fun jY kG hF=>fu (al2 kG) (fun _=>?_)
     exact eD hF
   rw[bq]
   try rw[bq]at hF; dsimp only[aJ,aI]at hF
   exact eD hF
 rintro _ _ ⟨c17,g18,rfl,rfl,hE⟩
 replace hF:=hO3
 try dsimp only at hF
 refine bu hE ?_
 exact ze hF
def Oe(aa:Method)(ak:List Int):Option (Bool):=
 (Pj ak aa).bind fun r2=>
 some (!r2)
theorem alK{aa:Method}{aP:Sv}{bT:Nat}{ak:List Int}{gm:Sv}{R:Bool}(hF:Oe aa ak=some R):
   Fw.Spec Tryz.prog 106 [(zg [(zi aa.Rel),aP.v,(zi aa.Limit),(zi aa.Cost),(zi aa.Quota)]),(pz bT)] [ah aP aa.Inputs,aX bT 24 gm.v,ah gm ak] (fun _:Unit=>(.bool R)) (fun _=>[]):=by
 refine Se 8 Tryz.func106 [.tmp 3] ?_
 intro H0 F0
 unfold Oe at hF
 refine au ?_
 refine bP (fun k1=>?_)
 refine aZ ?_
 refine bnd hF fun r2 hx3 hF=>bC (ana hx3) (fun _=>?_)
 exact ze hF
def KF(ak:List Int):List Method->Nat->Option (Int)
 |[],k4=>some (-1)
 |x6::aM,k4=>(Oe x6 ak).bind fun r16=>
   if r16 then (
     some (k4:Int))
   else (
     KF ak aM (k4+1))
def Uo(ag:List Method)(ak:List Int):Option (Int):=
 KF ak ag 0
theorem akR{ag:List Method}{ae:Sv}{bT:Nat}{ak:List Int}{gm:Sv}{R:Int}(hF:Uo ag ak=some R):
   Fw.Spec Tryz.prog 143 [ae.v,(.func (.func 106) [].toArray [(pz bT)].toArray)] [bW ae ag,aX bT 24 gm.v,ah gm ak] (fun _:Unit=>(zi R)) (fun _=>[]):=by
 refine Se 19 Tryz.func143 [.tmp 4] ?_
 intro H0 F0
 unfold Uo at hF
 refine gF ?_
 refine bn (bU (m:=ag.length) (fun m2 f' cs'=>∃(g:Fr)(k4:Nat)(aM:List Method),m2=aM.length/\f'=aQ g [(0,ae.v),(1,(.func (.func 106) [].toArray [(pz bT)].toArray)),(7,(zi (ag.length:Int))),(8,(zi (k4:Int)))]/\List.drop k4 ag=aM/\aO cs' [bW ae ag,aX bT 24 gm.v,ah gm ak]/\KF ak aM k4=some R) ⟨_,0,_,rfl,aA,rfl,ay,hF⟩ ?_)
 rintro m2 _ _ ⟨g3,k4,aM,rfl,rfl,hd7,hE,hF⟩
 refine Kb hE ag (fun kY=>?_)
 rcases aM with _|⟨x6,aM⟩
 · have gH:=dn hd7
   rw[KF]at hF
   refine bi ?_
   refine dL ?_
   exact ze hF
 obtain⟨gH,bZ,gG⟩:=dA hd7
 rw[KF]at hF
 refine bi ?_
 refine dK ?_
 refine kF ?_
 refine Ai bZ (fun k13 oK=>?_)
 refine ni (uO x6) vH (fun nA=>?_)
 refine bnd hF fun r16 jO hF=>l9 (.rd .h rfl (.rd .q3 rfl (.rd .q4 rfl .nil))) (qL asV.h (.tmp rfl rfl) cu (alK jO)) (fun _=>?_)
 refine au ?_
 refine Ci hF (fun nK hF=>?_) (fun nK hF=>?_)
 · exact ze hF
 refine aZ ?_
 rw[wk k4]
 exact⟨_,bY _,_,k4+1,aM,rfl,aA,gG,ay,hF⟩
def NI(ag:List Method)(ak:List Int):Option (Bool):=
 (Uo ag ak).bind fun r1=>
 some (decide ((0:Int)<=r1))
theorem akH{ag:List Method}{ae:Sv}{bT:Nat}{ak:List Int}{gm:Sv}{R:Bool}(hF:NI ag ak=some R):
   Fw.Spec Tryz.prog 105 [ae.v,(.func (.func 106) [].toArray [(pz bT)].toArray)] [bW ae ag,aX bT 24 gm.v,ah gm ak] (fun _:Unit=>(.bool R)) (fun _=>[]):=by
 refine Se 9 Tryz.func105 [.tmp 4] ?_
 intro H0 F0
 unfold NI at hF
 refine bE ?_
 refine bnd hF fun r1 hx2 hF=>bC (akR hx2) (fun _=>?_)
 exact ze hF
def Ie(ag:List Int)(ai:List Method):Option (Bool):=
 ((EL ag).bind fun r4=>
   bif r4 then (bif (decide (((ai.length:Int):Int)<=5))then ((NI ai ag).bind fun r9=>
       some (!r9))
     else (some false))
   else (some false)).bind fun o2=>
 match o2 with
 |c12=>some c12
theorem YU{ag:List Int}{ae:Sv}{ai:List Method}{ax:Sv}{R:Bool}(hF:Ie ag ai=some R):
   Fw.Spec Tryz.prog 53 [ae.v,ax.v] [ah ae ag,bW ax ai] (fun _:Unit=>(.bool R)) (fun _=>[]):=by
 refine Se 18 Tryz.func53 [.tmp 4] ?_
 intro H0 F0
 unfold Ie at hF
 refine au ?_
 refine bP (fun k1=>?_)
 refine aU ?_
 obtain⟨o2,gz,hO3⟩:=bind_some hF
 refine au ?_
 refine fe (fun f' cs'=>∃(c12:Bool)(g:Fr),c12=o2/\f'=aQ g [(4,(.bool c12))]/\aO cs' []) ?_ ?_
 · replace hF:=gz
   refine au ?_
   refine bnd hF fun r4 hx5 hF=>bC (U0 hx5) (fun _=>?_)
   refine au ?_
   rcases bD r4 with bq|bq
   · rw[bq]
     try rw[bq]at hF; dsimp only[aJ,aI]at hF
     refine dN ?_
     rcases bD (decide (((ai.length:Int):Int)<=5))with kw|kw
     · rw[kw]
       try rw[kw]at hF; dsimp only[aJ,aI]at hF
       refine bv ?_
       refine aN (wU (fn:=.func 106) (vs:=[]) (us:=[(pz k1)]) .nil cu) ?_
       refine au ?_
       refine bnd hF fun r9 jI hF=>bC (akH jI) (fun _=>?_)
       exact bK hF
     rw[kw]
     try rw[kw]at hF; dsimp only[aJ,aI]at hF
     exact bK hF
   rw[bq]
   try rw[bq]at hF; dsimp only[aJ,aI]at hF
   exact bK hF
 rintro _ _ ⟨c12,g13,rfl,rfl,hE⟩
 replace hF:=hO3
 try dsimp only at hF
 refine bu hE ?_
 exact ze hF
def Oa(qg:Int)(ak:Int):Option (Bool):=
 (o_ qg 0 (IntKind.i64.wrap (ak-1))).bind fun r1=>
 some (!r1)
theorem alB{qg:Int}{bT:Nat}{ak:Int}{R:Bool}(hF:Oa qg ak=some R):
   Fw.Spec Tryz.prog 180 [(zi qg),(pz bT)] [aX bT 3 (zi ak)] (fun _:Unit=>(.bool R)) (fun _=>[]):=by
 refine Se 9 Tryz.func180 [.tmp 3] ?_
 intro H0 F0
 unfold Oa at hF
 refine bJ ?_
 refine bnd hF fun r1 hx2 hF=>bC (sS hx2) (fun _=>?_)
 exact ze hF
def KP(ak:Int):List Int->Nat->Option (Int)
 |[],k4=>some (-1)
 |x6::aM,k4=>(Oa x6 ak).bind fun gu=>
   if gu then (
     some (k4:Int))
   else (
     KP ak aM (k4+1))
def Uy(ag:List Int)(ak:Int):Option (Int):=
 KP ak ag 0
theorem ak_{ag:List Int}{ae:Sv}{bT:Nat}{ak R:Int}(hF:Uy ag ak=some R):
   Fw.Spec Tryz.prog 81 [ae.v,(.func (.func 180) [].toArray [(pz bT)].toArray)] [ah ae ag,aX bT 3 (zi ak)] (fun _:Unit=>(zi R)) (fun _=>[]):=by
 refine Se 19 Tryz.func81 [.tmp 4] ?_
 intro H0 F0
 unfold Uy at hF
 refine gF ?_
 refine bn (bU (m:=ag.length) (fun m2 f' cs'=>∃(g:Fr)(k4:Nat)(aM:List Int),m2=aM.length/\f'=aQ g [(0,ae.v),(1,(.func (.func 180) [].toArray [(pz bT)].toArray)),(7,(zi (ag.length:Int))),(8,(zi (k4:Int)))]/\List.drop k4 ag=aM/\aO cs' [ah ae ag,aX bT 3 (zi ak)]/\KP ak aM k4=some R) ⟨_,0,_,rfl,aA,rfl,ay,hF⟩ ?_)
 rintro m2 _ _ ⟨g3,k4,aM,rfl,rfl,hd7,hE,hF⟩
 refine Kb hE ag (fun kY=>?_)
 rcases aM with _|⟨x6,aM⟩
 · have gH:=dn hd7
   rw[KP]at hF
   refine bi ?_
   refine dL ?_
   exact ze hF
 obtain⟨gH,bZ,gG⟩:=dA hd7
 rw[KP]at hF
 refine bi ?_
 refine dK ?_
 refine kF ?_
 refine Ai bZ (fun k13 oK=>?_)
 refine Al dP ?_
 refine bnd hF fun gu hx16 hF=>l9 (.rd .q2 rfl .nil) (qL asY.h (.tmp rfl rfl) cu (alB hx16)) (fun _=>?_)
 refine au ?_
 refine Ci hF (fun wD hF=>?_) (fun wD hF=>?_)
 · exact ze hF
 refine aZ ?_
 rw[wk k4]
 exact⟨_,bY _,_,k4+1,aM,rfl,aA,gG,ay,hF⟩
def NQ(ag:List Int)(ak:Int):Option (Bool):=
 (Uy ag ak).bind fun r1=>
 some (decide ((0:Int)<=r1))
theorem ak6{ag:List Int}{ae:Sv}{bT:Nat}{ak:Int}{R:Bool}(hF:NQ ag ak=some R):
   Fw.Spec Tryz.prog 38 [ae.v,(.func (.func 180) [].toArray [(pz bT)].toArray)] [ah ae ag,aX bT 3 (zi ak)] (fun _:Unit=>(.bool R)) (fun _=>[]):=by
 refine Se 9 Tryz.func38 [.tmp 4] ?_
 intro H0 F0
 unfold NQ at hF
 refine bE ?_
 refine bnd hF fun r1 hx2 hF=>bC (ak_ hx2) (fun _=>?_)
 exact ze hF
def UR(ai:List Int)(BM:Int):Option (Bool):=
 (NQ ai BM).bind fun r2=>
 some (!r2)
theorem alL{ai:List Int}{ae:Sv}{BM:Int}{R:Bool}(hF:UR ai BM=some R):
   Fw.Spec Tryz.prog 147 [ae.v,(zi BM)] [ah ae ai] (fun _:Unit=>(.bool R)) (fun _=>[]):=by
 refine Se 9 Tryz.func147 [.tmp 4] ?_
 intro H0 F0
 unfold UR at hF
 refine au ?_
 refine bP (fun k1=>?_)
 refine bi ?_
 refine aN (wU (fn:=.func 180) (vs:=[]) (us:=[(pz k1)]) .nil cu) ?_
 refine bnd hF fun r2 hx3 hF=>bC (ak6 hx3) (fun _=>?_)
 exact ze hF
def PM(ag:List Int)(dm:dh):Option (Bool):=
 ((EW ag dm.From).bind fun r4=>
   bif r4 then ((EW ag dm.To).bind fun r8=>
     bif r8 then ((ix ag dm.To).bind fun ol=>
       bif (((dm.Map.length:Int):Int)==ol)then ((ix ag dm.From).bind fun NH=>
         (UR dm.Map NH).bind fun gX=>
         some gX)
       else (some false))
     else (some false))
   else (some false)).bind fun o2=>
 match o2 with
 |c28=>some c28
theorem an8{ag:List Int}{ae:Sv}{dm:dh}{nM:Sv}{R:Bool}(hF:PM ag dm=some R):
   Fw.Spec Tryz.prog 110 [ae.v,(zg [(zi dm.From),(zi dm.To),nM.v])] [ah ae ag,ah nM dm.Map] (fun _:Unit=>(.bool R)) (fun _=>[]):=by
 refine Se 36 Tryz.func110 [.tmp 4] ?_
 intro H0 F0
 unfold PM at hF
 refine au ?_
 refine bP (fun k1=>?_)
 refine aU ?_
 obtain⟨o2,gz,hO3⟩:=bind_some hF
 refine dV [0,1,2,3,4,5,6,7,8,9,10,11,12,13,14,15,16,17,18,19,20,21,22,23,24,25,26,27,28,29,30,31] [0,0,2,7,15,31,31,95,255,511,1023,2047,4095,8191,2047,2047,34815,116735,247807,524287,1048575,2097151,4194303,8388607,4194303,4194303,37748735,121634815,255852543,536870911,1073741823,2147483647] [3,8,29] mixed (by decide+kernel) ?_
 refine kX (fun f' cs'=>∃(c28:Bool)(g:Fr),c28=o2/\f'=aQ g [(4,(.bool c28))]/\aO cs' []) ?_ ?_
 · replace hF:=gz
   refine dD ?_
   refine bnd hF fun r4 hx5 hF=>fu (Va hx5) (fun _=>?_)
   refine du ?_
   rcases bD r4 with bq|bq
   · rw[bq]
     try rw[bq]at hF; dsimp only[aJ,aI]at hF
     refine dD ?_
     refine bnd hF fun r8 bZ hF=>fu (Va bZ) (fun _=>?_)
     refine bX ?_
     rcases bD r8 with dS|dS
     · rw[dS]
       try rw[dS]at hF; dsimp only[aJ,aI]at hF
       refine xn ?_
       refine zI hF fun ol Rs kG hF=>?_
       refine Di kG (fun k16 J7=>?_)
       refine Dl dP ?_
       refine dD ?_
       rcases bD (((dm.Map.length:Int):Int)==ol)with jK|jK
       · rw[jK]
         try rw[jK]at hF; dsimp only[aJ,aI]at hF
         refine t_ ?_
         refine zI hF fun NH ax_ ug hF=>?_
         refine Di ug (fun k23 Yn=>?_)
         refine Dl dP ?_
         refine bnd hF fun gX nL hF=>fu (alL nL) (fun _=>?_)
         exact eD hF
       rw[jK]
       try rw[jK]at hF; dsimp only[aJ,aI]at hF
       exact eD hF
     rw[dS]
     try rw[dS]at hF; dsimp only[aJ,aI]at hF
     exact eD hF
   rw[bq]
   try rw[bq]at hF; dsimp only[aJ,aI]at hF
   exact eD hF
 rintro _ _ ⟨c28,g29,rfl,rfl,hE⟩
 replace hF:=hO3
 try dsimp only at hF
 refine bu hE ?_
 exact ze hF
def OG(dm:dh)(ak:List Int):Option (Bool):=
 (PM ak dm).bind fun r2=>
 some (!r2)
theorem amh{dm:dh}{cz:Sv}{bT:Nat}{ak:List Int}{gm:Sv}{R:Bool}(hF:OG dm ak=some R):
   Fw.Spec Tryz.prog 109 [(zg [(zi dm.From),(zi dm.To),cz.v]),(pz bT)] [ah cz dm.Map,aX bT 24 gm.v,ah gm ak] (fun _:Unit=>(.bool R)) (fun _=>[]):=by
 refine Se 8 Tryz.func109 [.tmp 3] ?_
 intro H0 F0
 unfold OG at hF
 refine au ?_
 refine bP (fun k1=>?_)
 refine aZ ?_
 refine bnd hF fun r2 hx3 hF=>bC (an8 hx3) (fun _=>?_)
 exact ze hF
def KL(ak:List Int):List dh->Nat->Option (Int)
 |[],k4=>some (-1)
 |x6::aM,k4=>(OG x6 ak).bind fun r16=>
   if r16 then (
     some (k4:Int))
   else (
     KL ak aM (k4+1))
def Uu(ag:List dh)(ak:List Int):Option (Int):=
 KL ak ag 0
theorem ak0{ag:List dh}{ae:Sv}{bT:Nat}{ak:List Int}{gm:Sv}{R:Int}(hF:Uu ag ak=some R):
   Fw.Spec Tryz.prog 146 [ae.v,(.func (.func 109) [].toArray [(pz bT)].toArray)] [fq ae ag,aX bT 24 gm.v,ah gm ak] (fun _:Unit=>(zi R)) (fun _=>[]):=by
 refine Se 19 Tryz.func146 [.tmp 4] ?_
 intro H0 F0
 unfold Uu at hF
 refine gF ?_
 refine bn (bU (m:=ag.length) (fun m2 f' cs'=>∃(g:Fr)(k4:Nat)(aM:List dh),m2=aM.length/\f'=aQ g [(0,ae.v),(1,(.func (.func 109) [].toArray [(pz bT)].toArray)),(7,(zi (ag.length:Int))),(8,(zi (k4:Int)))]/\List.drop k4 ag=aM/\aO cs' [fq ae ag,aX bT 24 gm.v,ah gm ak]/\KL ak aM k4=some R) ⟨_,0,_,rfl,aA,rfl,ay,hF⟩ ?_)
 rintro m2 _ _ ⟨g3,k4,aM,rfl,rfl,hd7,hE,hF⟩
 refine Kb hE ag (fun kY=>?_)
 rcases aM with _|⟨x6,aM⟩
 · have gH:=dn hd7
   rw[KL]at hF
   refine bi ?_
   refine dL ?_
   exact ze hF
 obtain⟨gH,bZ,gG⟩:=dA hd7
 rw[KL]at hF
 refine bi ?_
 refine dK ?_
 refine kF ?_
 refine Ai bZ (fun k13 oK=>?_)
 refine ni (LM x6) Pv (fun nA=>?_)
 refine bnd hF fun r16 jO hF=>l9 (.rd .h rfl (.rd .q3 rfl (.rd .q4 rfl .nil))) (qL asX.h (.tmp rfl rfl) cu (amh jO)) (fun _=>?_)
 refine au ?_
 refine Ci hF (fun nK hF=>?_) (fun nK hF=>?_)
 · exact ze hF
 refine aZ ?_
 rw[wk k4]
 exact⟨_,bY _,_,k4+1,aM,rfl,aA,gG,ay,hF⟩
def NN(ag:List dh)(ak:List Int):Option (Bool):=
 (Uu ag ak).bind fun r1=>
 some (decide ((0:Int)<=r1))
theorem akW{ag:List dh}{ae:Sv}{bT:Nat}{ak:List Int}{gm:Sv}{R:Bool}(hF:NN ag ak=some R):
   Fw.Spec Tryz.prog 108 [ae.v,(.func (.func 109) [].toArray [(pz bT)].toArray)] [fq ae ag,aX bT 24 gm.v,ah gm ak] (fun _:Unit=>(.bool R)) (fun _=>[]):=by
 refine Se 9 Tryz.func108 [.tmp 4] ?_
 intro H0 F0
 unfold NN at hF
 refine bE ?_
 refine bnd hF fun r1 hx2 hF=>bC (ak0 hx2) (fun _=>?_)
 exact ze hF
def Pk(ag:List Int)(ai:List dh):Option (Bool):=
 ((EL ag).bind fun r4=>
   bif r4 then (bif (decide (((ai.length:Int):Int)<=4))then ((NN ai ag).bind fun r9=>
       some (!r9))
     else (some false))
   else (some false)).bind fun o2=>
 match o2 with
 |c12=>some c12
theorem anb{ag:List Int}{ae:Sv}{ai:List dh}{ax:Sv}{R:Bool}(hF:Pk ag ai=some R):
   Fw.Spec Tryz.prog 54 [ae.v,ax.v] [ah ae ag,fq ax ai] (fun _:Unit=>(.bool R)) (fun _=>[]):=by
 refine Se 18 Tryz.func54 [.tmp 4] ?_
 intro H0 F0
 unfold Pk at hF
 refine au ?_
 refine bP (fun k1=>?_)
 refine aU ?_
 obtain⟨o2,gz,hO3⟩:=bind_some hF
 refine au ?_
 refine fe (fun f' cs'=>∃(c12:Bool)(g:Fr),c12=o2/\f'=aQ g [(4,(.bool c12))]/\aO cs' []) ?_ ?_
 · replace hF:=gz
   refine au ?_
   refine bnd hF fun r4 hx5 hF=>bC (U0 hx5) (fun _=>?_)
   refine au ?_
   rcases bD r4 with bq|bq
   · rw[bq]
     try rw[bq]at hF; dsimp only[aJ,aI]at hF
     refine dN ?_
     rcases bD (decide (((ai.length:Int):Int)<=4))with kw|kw
     · rw[kw]
       try rw[kw]at hF; dsimp only[aJ,aI]at hF
       refine bv ?_
       refine aN (wU (fn:=.func 109) (vs:=[]) (us:=[(pz k1)]) .nil cu) ?_
       refine au ?_
       refine bnd hF fun r9 jI hF=>bC (akW jI) (fun _=>?_)
       exact bK hF
     rw[kw]
     try rw[kw]at hF; dsimp only[aJ,aI]at hF
     exact bK hF
   rw[bq]
   try rw[bq]at hF; dsimp only[aJ,aI]at hF
   exact bK hF
 rintro _ _ ⟨c12,g13,rfl,rfl,hE⟩
 replace hF:=hO3
 try dsimp only at hF
 refine bu hE ?_
 exact ze hF
def ZK(gW:Int):Option (Bool):=
 (o_ gW 0 9).bind fun r1=>
 some r1
theorem anN{gW:Int}{R:Bool}(hF:ZK gW=some R):
   Fw.Spec Tryz.prog 150 [(zi gW)] [] (fun _:Unit=>(.bool R)) (fun _=>[]):=by
 refine Se 5 Tryz.func150 [.tmp 2] ?_
 intro H0 F0
 unfold ZK at hF
 refine aZ ?_
 refine bnd hF fun r1 hx2 hF=>bC (sS hx2) (fun _=>?_)
 exact ze hF
def U2(gW:Int):Option (Bool):=
 (ZK gW).bind fun r1=>
 some (!r1)
theorem al3{gW:Int}{R:Bool}(hF:U2 gW=some R):
   Fw.Spec Tryz.prog 149 [(zi gW)] [] (fun _:Unit=>(.bool R)) (fun _=>[]):=by
 refine Se 6 Tryz.func149 [.tmp 2] ?_
 intro H0 F0
 unfold U2 at hF
 refine aZ ?_
 refine bnd hF fun r1 hx2 hF=>bC (anN hx2) (fun _=>?_)
 exact ze hF
def KR:List Int->Nat->Option (Int)
 |[],k4=>some (-1)
 |x6::aM,k4=>(U2 x6).bind fun gu=>
   if gu then (
     some (k4:Int))
   else (
     KR aM (k4+1))
def UA(ag:List Int):Option (Int):=
 KR ag 0
theorem ali{ag:List Int}{ae:Sv}{R:Int}(hF:UA ag=some R):
   Fw.Spec Tryz.prog 81 [ae.v,(.func (.func 149) [].toArray [].toArray)] [ah ae ag] (fun _:Unit=>(zi R)) (fun _=>[]):=by
 refine Se 19 Tryz.func81 [.tmp 4] ?_
 intro H0 F0
 unfold UA at hF
 refine gF ?_
 refine bn (bU (m:=ag.length) (fun m2 f' cs'=>∃(g:Fr)(k4:Nat)(aM:List Int),m2=aM.length/\f'=aQ g [(0,ae.v),(1,(.func (.func 149) [].toArray [].toArray)),(7,(zi (ag.length:Int))),(8,(zi (k4:Int)))]/\List.drop k4 ag=aM/\aO cs' [ah ae ag]/\KR aM k4=some R) ⟨_,0,_,rfl,aA,rfl,ay,hF⟩ ?_)
 rintro m2 _ _ ⟨g3,k4,aM,rfl,rfl,hd7,hE,hF⟩
 refine Kb hE ag (fun kY=>?_)
 rcases aM with _|⟨x6,aM⟩
 · have gH:=dn hd7
   rw[KR]at hF
   refine bi ?_
   refine dL ?_
   exact ze hF
 obtain⟨gH,bZ,gG⟩:=dA hd7
 rw[KR]at hF
 refine bi ?_
 refine dK ?_
 refine kF ?_
 refine Ai bZ (fun k13 oK=>?_)
 refine Al dP ?_
 refine bnd hF fun gu hx16 hF=>l9 .nil (qL asZ.h (.tmp rfl rfl) cu (al3 hx16)) (fun _=>?_)
 refine au ?_
 refine Ci hF (fun wD hF=>?_) (fun wD hF=>?_)
 · exact ze hF
 refine aZ ?_
 rw[wk k4]
 exact⟨_,bY _,_,k4+1,aM,rfl,aA,gG,ay,hF⟩
def NS(ag:List Int):Option (Bool):=
 (UA ag).bind fun r1=>
 some (decide ((0:Int)<=r1))
theorem ak'{ag:List Int}{ae:Sv}{R:Bool}(hF:NS ag=some R):
   Fw.Spec Tryz.prog 38 [ae.v,(.func (.func 149) [].toArray [].toArray)] [ah ae ag] (fun _:Unit=>(.bool R)) (fun _=>[]):=by
 refine Se 9 Tryz.func38 [.tmp 4] ?_
 intro H0 F0
 unfold NS at hF
 refine bE ?_
 refine bnd hF fun r1 hx2 hF=>bC (ali hx2) (fun _=>?_)
 exact ze hF
def Lu(ai:List Int):Option (Bool):=
 (NS ai).bind fun r1=>
 some (!r1)
theorem ae8{ai:List Int}{ae:Sv}{R:Bool}(hF:Lu ai=some R):
   Fw.Spec Tryz.prog 114 [ae.v] [ah ae ai] (fun _:Unit=>(.bool R)) (fun _=>[]):=by
 refine Se 6 Tryz.func114 [.tmp 2] ?_
 intro H0 F0
 unfold Lu at hF
 refine aZ ?_
 refine bnd hF fun r1 hx2 hF=>bC (ak' hx2) (fun _=>?_)
 exact ze hF
def PN(ag:List Int)(bF:Fact):Option (Bool):=
 ((EW ag bF.Rel).bind fun r4=>
   bif r4 then ((ix ag bF.Rel).bind fun x8=>
     bif (((bF.Values.length:Int):Int)==x8)then ((Lu bF.Values).bind fun gu=>
       some gu)
     else (some false))
   else (some false)).bind fun o2=>
 match o2 with
 |c18=>some c18
theorem an9{ag:List Int}{ae:Sv}{bF:Fact}{aV:Sv}{R:Bool}(hF:PN ag bF=some R):
   Fw.Spec Tryz.prog 148 [ae.v,(zg [(zi bF.Rel),aV.v])] [ah ae ag,ah aV bF.Values] (fun _:Unit=>(.bool R)) (fun _=>[]):=by
 refine Se 25 Tryz.func148 [.tmp 4] ?_
 intro H0 F0
 unfold PN at hF
 refine au ?_
 refine bP (fun k1=>?_)
 refine aU ?_
 obtain⟨o2,gz,hO3⟩:=bind_some hF
 refine dV [0,1,2,3,4,5,6,7,8,9,10,11,12,13,14,15,16,17,18,19,20] [0,0,2,7,15,31,63,127,31,31,543,1823,3871,8191,16383,32767,65535,131071,262143,524287,1048575] [3,18] mixed (by decide+kernel) ?_
 refine kX (fun f' cs'=>∃(c18:Bool)(g:Fr),c18=o2/\f'=aQ g [(4,(.bool c18))]/\aO cs' []) ?_ ?_
 · replace hF:=gz
   refine dD ?_
   refine bnd hF fun r4 hx5 hF=>fu (Va hx5) (fun _=>?_)
   refine du ?_
   rcases bD r4 with bq|bq
   · rw[bq]
     try rw[bq]at hF; dsimp only[aJ,aI]at hF
     refine xn ?_
     refine zI hF fun x8 akt lg hF=>?_
     refine Di lg (fun k12 j13=>?_)
     refine Dl dP ?_
     refine dD ?_
     rcases bD (((bF.Values.length:Int):Int)==x8)with yQ|yQ
     · rw[yQ]
       try rw[yQ]at hF; dsimp only[aJ,aI]at hF
       refine bX ?_
       refine bnd hF fun gu hx16 hF=>fu (ae8 hx16) (fun _=>?_)
       exact eD hF
     rw[yQ]
     try rw[yQ]at hF; dsimp only[aJ,aI]at hF
     exact eD hF
   rw[bq]
   try rw[bq]at hF; dsimp only[aJ,aI]at hF
   exact eD hF
 rintro _ _ ⟨c18,g19,rfl,rfl,hE⟩
 replace hF:=hO3
 try dsimp only at hF
 refine bu hE ?_
 exact ze hF
def Ec(aS:Int):Option (Bool):=
 some ((aS:Int)!=aS)
theorem UG{aS:Int}{R:Bool}(hF:Ec aS=some R):
   Fw.Spec Tryz.prog 152 [(zi aS)] [] (fun _:Unit=>(.bool R)) (fun _=>[]):=by
 refine Se 6 Tryz.func152 [.tmp 2] ?_
 intro H0 F0
 unfold Ec at hF
 exact ze hF
def GA(aS:Int)(qh:Int):Option (Int):=
 (Ec aS).bind fun r1=>
 (Ec qh).bind fun r4=>
 if r1 then (
   if r4 then (
     some 0)
   else (
     some (-1)))
 else (
   if r4 then (
     some 1)
   else (
     if (decide ((aS:Int)<qh))then (
       some (-1))
     else (
       if (decide ((qh:Int)<aS))then (
         some 1)
       else (
         some 0))))
theorem YL{aS qh R:Int}(hF:GA aS qh=some R):
   Fw.Spec Tryz.prog 118 [(zi aS),(zi qh)] [] (fun _:Unit=>(zi R)) (fun _=>[]):=by
 refine Se 20 Tryz.func118 [.tmp 4] ?_
 intro H0 F0
 unfold GA at hF
 refine aZ ?_
 refine bnd hF fun r1 hx2 hF=>bC (UG hx2) (fun _=>?_)
 refine bi ?_
 refine bnd hF fun r4 hx5 hF=>bC (UG hx5) (fun _=>?_)
 refine bE ?_
 refine Ci hF (fun ab_ hF=>?_) (fun ab_ hF=>?_)
 · refine bi ?_
   refine Ci hF (fun hb7 hF=>?_) (fun hb7 hF=>?_)
   · exact ze hF
   exact ze hF
 refine aZ ?_
 refine Ci hF (fun ayu hF=>?_) (fun ayu hF=>?_)
 · exact ze hF
 refine bJ ?_
 refine Ci hF (fun hb9 hF=>?_) (fun hb9 hF=>?_)
 · exact ze hF
 refine bJ ?_
 refine Ci hF (fun hb8 hF=>?_) (fun hb8 hF=>?_)
 · exact ze hF
 exact ze hF
def DU(j6:List Int)(kH:List Int):List Int->Nat->Option (Int)
 |[],k4=>if (decide (((j6.length:Int):Int)<(kH.length:Int)))then (
     some (-1))
   else (
     some 0)
 |x6::aM,k4=>if (decide (((kH.length:Int):Int)<=(k4:Int)))then (
     some 1)
   else (
     (ix kH (k4:Int)).bind fun oh=>
     (GA x6 oh).bind fun lh=>
     if ((lh:Int)!=0)then (
       some lh)
     else (
       DU j6 kH aM (k4+1)))
def KW(j6:List Int)(kH:List Int):Option (Int):=
 DU j6 kH j6 0
theorem adR{j6:List Int}{ae:Sv}{kH:List Int}{ax:Sv}{R:Int}(hF:KW j6 kH=some R):
   Fw.Spec Tryz.prog 119 [ae.v,ax.v] [ah ae j6,ah ax kH] (fun _:Unit=>(zi R)) (fun _=>[]):=by
 refine Se 36 Tryz.func119 [.tmp 4] ?_
 intro H0 F0
 unfold KW at hF
 refine gF ?_
 refine bn (bU (m:=j6.length) (fun m2 f' cs'=>∃(g:Fr)(k4:Nat)(aM:List Int),m2=aM.length/\f'=aQ g [(0,ae.v),(1,ax.v),(9,ae.v),(10,(zi (j6.length:Int))),(11,(zi (k4:Int)))]/\List.drop k4 j6=aM/\aO cs' [ah ae j6,ah ax kH]/\DU j6 kH aM k4=some R) ⟨_,0,_,rfl,aA,rfl,ay,hF⟩ ?_)
 rintro m2 _ _ ⟨g3,k4,aM,rfl,rfl,hd7,hE,hF⟩
 refine Kb hE j6 (fun kY=>?_)
 rcases aM with _|⟨x6,aM⟩
 · have gH:=dn hd7
   rw[DU]at hF
   refine bi ?_
   refine dL ?_
   refine Fs ?_
   refine Ci hF (fun ayv hF=>?_) (fun ayv hF=>?_)
   · exact ze hF
   exact ze hF
 obtain⟨gH,bZ,gG⟩:=dA hd7
 rw[DU]at hF
 refine bi ?_
 refine dK ?_
 refine bi ?_
 refine Ai bZ (fun k14 TL=>?_)
 refine Al dP ?_
 refine kF ?_
 refine Ci hF (fun JF hF=>?_) (fun JF hF=>?_)
 · exact ze hF
 refine bi ?_
 refine zI hF fun oh M9 kR hF=>?_
 refine Ai kR (fun k20 DF=>?_)
 refine Al dP ?_
 refine aZ ?_
 refine bnd hF fun lh uf hF=>bC (YL uf) (fun _=>?_)
 refine bE ?_
 refine Ci hF (fun Df hF=>?_) (fun Df hF=>?_)
 · exact ze hF
 refine aZ ?_
 rw[wk k4]
 exact⟨_,bY _,_,k4+1,aM,rfl,aA,gG,ay,hF⟩
def KY:List Int->Nat->Option (Int)
 |[],k4=>some 0
 |x6::aM,k4=>if ((x6:Int)!=0)then (
     some x6)
   else (
     KY aM (k4+1))
def Lg(Cr:List Int):Option (Int):=
 KY Cr 0
theorem aeQ{Cr:List Int}{ae:Sv}{R:Int}(hF:Lg Cr=some R):
   Fw.Spec Tryz.prog 117 [ae.v] [ah ae Cr] (fun _:Unit=>(zi R)) (fun _=>[]):=by
 refine Se 18 Tryz.func117 [.tmp 2] ?_
 intro H0 F0
 unfold Lg at hF
 refine Fs ?_
 refine bn (bU (m:=Cr.length) (fun m2 f' cs'=>∃(g:Fr)(k4:Nat)(aM:List Int),m2=aM.length/\f'=aQ g [(3,(zi 0)),(6,ae.v),(7,(zi (Cr.length:Int))),(8,(zi (k4:Int)))]/\List.drop k4 Cr=aM/\aO cs' [ah ae Cr]/\KY aM k4=some R) ⟨_,0,_,rfl,aA,rfl,ay,hF⟩ ?_)
 rintro m2 _ _ ⟨g3,k4,aM,rfl,rfl,hd7,hE,hF⟩
 refine Kb hE Cr (fun kY=>?_)
 rcases aM with _|⟨x6,aM⟩
 · have gH:=dn hd7
   rw[KY]at hF
   refine bi ?_
   refine dL ?_
   exact ze hF
 obtain⟨gH,bZ,gG⟩:=dA hd7
 rw[KY]at hF
 refine bi ?_
 refine dK ?_
 refine bv ?_
 refine Ai bZ (fun k13 oK=>?_)
 refine Al dP ?_
 refine bJ ?_
 refine Ci hF (fun C8 hF=>?_) (fun C8 hF=>?_)
 · exact ze hF
 refine aZ ?_
 rw[wk k4]
 exact⟨_,bY _,_,k4+1,aM,rfl,aA,gG,ay,hF⟩
def Ee(aB:Fact)(aR:Fact):Option (Int):=
 (GA aB.Rel aR.Rel).bind fun r3=>
 (KW aB.Values aR.Values).bind fun r6=>
 (Lg ([r3,r6]:List Int)).bind fun lX=>
 some lX
theorem UI{aB:Fact}{aP:Sv}{aR:Fact}{aV:Sv}{R:Int}(hF:Ee aB aR=some R):
   Fw.Spec Tryz.prog 64 [(zg [(zi aB.Rel),aP.v]),(zg [(zi aR.Rel),aV.v])] [ah aP aB.Values,ah aV aR.Values] (fun _:Unit=>(zi R)) (fun _=>[]):=by
 refine Se 17 Tryz.func64 [.tmp 4] ?_
 intro H0 F0
 unfold Ee at hF
 refine au ?_
 refine bP (fun k1=>?_)
 refine bP (fun k2=>?_)
 refine aU ?_
 refine dV [0,1,2,3,5,6,7,8,4,9,10,11,12] [0,1,0,4,15,0,32,0,128,511,1023,2047,4095] [4,9,11] mixed (by decide+kernel) ?_
 refine ab6 ?_
 refine bnd hF fun r3 hx4 hF=>fu (YL hx4) (fun _=>?_)
 refine bnd hF fun r6 hx7 hF=>fu (adR hx7) (fun _=>?_)
 refine iy rfl .no rfl (fun ha=>bQ (g:=true) (len:=2) (parts:=[(0,.tmp 9),(1,.tmp 14)]) di.h dx.h (.cons (EN ha (.tmp rfl rfl) rfl) (.cons (EN ha (.tmp rfl rfl) rfl) .nil)) (vs:=[(zi r3),(zi r6)]) rfl rfl rfl (by intro v hv; simp at hv; rcases hv with rfl|rfl<;>rfl)) (fun k9=>?_)
 refine jk (.cons .h .nil) (bS (Ro:=(aC az)) (E:=3) (F:=([]++([]++[]))) (xs:=([r3,r6]:List Int)) (ed (jF (fun _=>rfl)) (ed (jF (fun _=>rfl)) bR cK) cK) rfl rfl) ?_
 refine bnd hF fun lX lg hF=>cO rfl rfl .no (.cons .h .nil) (.dep rfl .nil) (fun ha=>jV aG (fun _=>.nil) (bV aiu.h (.cons (EN ha (.tmp rfl rfl) rfl) .nil) (@aeQ ([r3,r6]:List Int) (⟨(some ⟨k9,0,none⟩),2,1⟩) _ lg))) (fun _=>?_)
 refine bX ?_
 exact ze hF
def AX(ag:List Int)(ai:List Fact):List Fact->Nat->Option (Bool)
 |[],k4=>((EL ag).bind fun gu=>
     bif gu then (some (decide (((ai.length:Int):Int)<=24)))
     else (some false)).bind fun mo=>
   match mo with
   |c19=>some c19
 |x6::aM,k4=>((PN ag x6).bind fun wS=>
     bif (!wS)then (some true)
     else (bif (decide ((0:Int)<(k4:Int)))then ((ix ai (IntKind.i64.wrap ((k4:Int)-1))).bind fun x32=>
         (Ee x32 x6).bind fun wR=>
         some (decide ((0:Int)<=wR)))
       else (some false))).bind fun Gm=>
   match Gm with
   |uJ=>if uJ then (
       some false)
     else (
       AX ag ai aM (k4+1))
def Pm(ag:List Int)(ai:List Fact):Option (Bool):=
 AX ag ai ai 0
theorem afn{ag:List Int}{ae:Sv}{ai:List Fact}{ax:Sv}{R:Bool}(hF:Pm ag ai=some R):
   Fw.Spec Tryz.prog 111 [ae.v,ax.v] [ah ae ag,bH ax ai] (fun _:Unit=>(.bool R)) (fun _=>[]):=by
 refine Se 40 Tryz.func111 [.tmp 4] ?_
 intro H0 F0
 unfold Pm at hF
 refine gF ?_
 refine bn (bU (m:=ai.length) (fun m2 f' cs'=>∃(g:Fr)(k4:Nat)(aM:List Fact),m2=aM.length/\f'=aQ g [(0,ae.v),(1,ax.v),(7,ax.v),(8,(zi (ai.length:Int))),(9,(zi (k4:Int)))]/\List.drop k4 ai=aM/\aO cs' [ah ae ag,bH ax ai]/\AX ag ai aM k4=some R) ⟨_,0,_,rfl,aA,rfl,ay,hF⟩ ?_)
 rintro m2 _ _ ⟨g3,k4,aM,rfl,rfl,hd7,hE,hF⟩
 refine Kb hE ai (fun kY=>?_)
 rcases aM with _|⟨x6,aM⟩
 · have gH:=dn hd7
   rw[AX]at hF
   refine bi ?_
   refine dL ?_
   refine bi ?_
   obtain⟨mo,vP,wh⟩:=bind_some hF
   refine au ?_
   refine fe (fun f' cs'=>∃(c19:Bool)(g:Fr),c19=mo/\f'=aQ g [(4,(.bool c19))]/\aO cs' []) ?_ ?_
   · replace hF:=vP
     refine au ?_
     refine bnd hF fun gu hx16 hF=>bC (U0 hx16) (fun _=>?_)
     refine au ?_
     rcases bD gu with jK|jK
     · rw[jK]
       try rw[jK]at hF; dsimp only[aJ,aI]at hF
       exact bK hF
     rw[jK]
     try rw[jK]at hF; dsimp only[aJ,aI]at hF
     exact bK hF
   rintro _ _ ⟨c19,g20,rfl,rfl,hE⟩
   replace hF:=wh
   try dsimp only at hF
   refine bu hE ?_
   exact ze hF
 obtain⟨gH,bZ,gG⟩:=dA hd7
 rw[AX]at hF
 refine bi ?_
 refine dK ?_
 refine bi ?_
 refine Ai bZ (fun k21 NB=>?_)
 refine ni (lZ x6) mq (fun o6=>?_)
 refine d_ (fun k24=>?_)
 refine au ?_
 refine As (zg [(zi x6.Rel),o6.v]) ?_
 refine au ?_
 obtain⟨Gm,aaU,Rz⟩:=bind_some hF
 refine dV [0,1,2,3,4,5,6,7,8,9,10,11,12,13,14,15,16,17] [0,0,3,7,15,31,63,127,255,255,767,2047,4095,255,16383,32767,65535,131071] [2,14] mixed (by decide+kernel) ?_
 refine kX (fun f' cs'=>∃(uJ:Bool)(g:Fr),uJ=Gm/\f'=aQ g [(0,ae.v),(1,ax.v),(7,ax.v),(8,(zi (ai.length:Int))),(9,(zi (k4:Int))),(31,(.bool uJ))]/\aO cs' [ah ae ag,bH ax ai]) ?_ ?_
 · replace hF:=aaU
   refine du ?_
   refine dO rfl .no .h (fun ha hp=>fP vX.h dZ.h.sz rfl (EN ha (.tmp rfl rfl) rfl) hp.2 rfl) ?_
   refine bnd hF fun wS hx28 hF=>fu (an9 hx28) (fun _=>?_)
   refine bX ?_
   rcases bD (!wS)with yA|yA
   · rw[yA]
     try rw[yA]at hF; dsimp only[aJ,aI]at hF
     exact eD hF
   rw[yA]
   try rw[yA]at hF; dsimp only[aJ,aI]at hF
   refine dD ?_
   rcases bD (decide ((0:Int)<(k4:Int)))with Ti|Ti
   · rw[Ti]
     try rw[Ti]at hF; dsimp only[aJ,aI]at hF
     refine dD ?_
     refine zI hF fun x32 ayw yC hF=>?_
     refine Di yC (fun nE T_=>?_)
     refine jR (lZ x32) mq (fun p38=>?_)
     refine dO rfl (.on 21 rfl rfl rfl) .q2 (fun ha hp=>fP vX.h dZ.h.sz rfl (EN ha (.tmp rfl rfl) rfl) hp.2 rfl) ?_
     refine bnd hF fun wR uh hF=>fu (UI uh) (fun _=>?_)
     exact eD hF
   rw[Ti]
   try rw[Ti]at hF; dsimp only[aJ,aI]at hF
   exact eD hF
 rintro _ _ ⟨uJ,g45,rfl,rfl,hE⟩
 replace hF:=Rz
 try dsimp only at hF
 refine bu hE ?_
 refine Ci hF (fun Jz hF=>?_) (fun Jz hF=>?_)
 · exact ze hF
 refine aZ ?_
 rw[wk k4]
 exact⟨_,bY _,_,k4+1,aM,rfl,aA,gG,ay,hF⟩
def Pn(ag:List Int)(aS:Source):Option (Bool):=
 ((Pm ag aS.Facts).bind fun r4=>
   bif r4 then ((o_ aS.Version 0 1000).bind fun r8=>
     some r8)
   else (some false)).bind fun o2=>
 match o2 with
 |c11=>some c11
theorem anc{ag:List Int}{ae:Sv}{aS:Source}{ax:Sv}{R:Bool}(hF:Pn ag aS=some R):
   Fw.Spec Tryz.prog 55 [ae.v,(zg [ax.v,(zi aS.Version)])] [ah ae ag,bH ax aS.Facts] (fun _:Unit=>(.bool R)) (fun _=>[]):=by
 refine Se 14 Tryz.func55 [.tmp 4] ?_
 intro H0 F0
 unfold Pn at hF
 refine au ?_
 refine bP (fun k1=>?_)
 refine aU ?_
 obtain⟨o2,gz,hO3⟩:=bind_some hF
 refine au ?_
 refine fe (fun f' cs'=>∃(c11:Bool)(g:Fr),c11=o2/\f'=aQ g [(4,(.bool c11))]/\aO cs' []) ?_ ?_
 · replace hF:=gz
   refine bv ?_
   refine bnd hF fun r4 hx5 hF=>bC (afn hx5) (fun _=>?_)
   refine au ?_
   rcases bD r4 with bq|bq
   · rw[bq]
     try rw[bq]at hF; dsimp only[aJ,aI]at hF
     refine aZ ?_
     refine bnd hF fun r8 bZ hF=>bC (sS bZ) (fun _=>?_)
     exact bK hF
   rw[bq]
   try rw[bq]at hF; dsimp only[aJ,aI]at hF
   exact bK hF
 rintro _ _ ⟨c11,g12,rfl,rfl,hE⟩
 replace hF:=hO3
 try dsimp only at hF
 refine bu hE ?_
 exact ze hF
def LF(ag:List Int)(ai:List Method)(aB:Access):Option (Bool):=
 ((Ie ag ai).bind fun r4=>
   bif r4 then ((o_ aB.Method 0 (IntKind.i64.wrap ((ai.length:Int)-1))).bind fun r8=>
     bif r8 then ((ix ai aB.Method).bind fun ol=>
       bif (((aB.Values.length:Int):Int)==(ol.Inputs.length:Int))then ((Lu aB.Values).bind fun jP=>
         some jP)
       else (some false))
     else (some false))
   else (some false)).bind fun o2=>
 match o2 with
 |c23=>some c23
theorem afo{ag:List Int}{ae:Sv}{ai:List Method}{ax:Sv}{aB:Access}{dJ:Sv}{R:Bool}(hF:LF ag ai aB=some R):
   Fw.Spec Tryz.prog 59 [ae.v,ax.v,(zg [(zi aB.Method),dJ.v])] [ah ae ag,bW ax ai,ah dJ aB.Values] (fun _:Unit=>(.bool R)) (fun _=>[]):=by
 refine Se 36 Tryz.func59 [.tmp 6] ?_
 intro H0 F0
 unfold LF at hF
 refine au ?_
 refine bP (fun k1=>?_)
 refine aU ?_
 obtain⟨o2,gz,hO3⟩:=bind_some hF
 refine dV [0,1,2,3,4,5,6,7,8,9,10,11,12,13,14,15,16,17,18,19,20,21,22,23,24,25,26,27,28,29] [0,0,3,7,15,31,15,79,207,511,1023,2047,4095,8191,16383,4095,4095,69631,233471,495615,1019903,2068479,4194303,8388607,16777215,33554431,67108863,134217727,268435455,536870911] [2,9,27] mixed (by decide+kernel) ?_
 refine kX (fun f' cs'=>∃(c23:Bool)(g:Fr),c23=o2/\f'=aQ g [(6,(.bool c23))]/\aO cs' []) ?_ ?_
 · replace hF:=gz
   refine bX ?_
   refine bnd hF fun r4 hx5 hF=>fu (YU hx5) (fun _=>?_)
   refine du ?_
   rcases bD r4 with bq|bq
   · rw[bq]
     try rw[bq]at hF; dsimp only[aJ,aI]at hF
     refine t_ ?_
     refine bnd hF fun r8 bZ hF=>fu (sS bZ) (fun _=>?_)
     refine bX ?_
     rcases bD r8 with dS|dS
     · rw[dS]
       try rw[dS]at hF; dsimp only[aJ,aI]at hF
       refine xn ?_
       refine zI hF fun ol Rs kG hF=>?_
       refine Di kG (fun k16 J7=>?_)
       refine du ?_
       refine oz (R':=(aD 3 az)) iC.h rfl (.on 18 rfl rfl rfl) (.tmp rfl rfl) rfl .h P6 (fun w18=>?_)
       refine nZ ?_
       rcases bD (((aB.Values.length:Int):Int)==(ol.Inputs.length:Int))with iN|iN
       · rw[iN]
         try rw[iN]at hF; dsimp only[aJ,aI]at hF
         refine bX ?_
         refine bnd hF fun jP lG hF=>fu (ae8 lG) (fun _=>?_)
         exact eD hF
       rw[iN]
       try rw[iN]at hF; dsimp only[aJ,aI]at hF
       exact eD hF
     rw[dS]
     try rw[dS]at hF; dsimp only[aJ,aI]at hF
     exact eD hF
   rw[bq]
   try rw[bq]at hF; dsimp only[aJ,aI]at hF
   exact eD hF
 rintro _ _ ⟨c23,g24,rfl,rfl,hE⟩
 replace hF:=hO3
 try dsimp only at hF
 refine bu hE ?_
 exact ze hF
def KX(ag:List Int):Option ((List Int)):=
 (app ([]:List Int) ag).bind fun z5=>
 some z5
theorem adS{ag:List Int}{ae:Sv}{R:(List Int)}(hF:KX ag=some R):
   Fw.Spec Tryz.prog 68 [ae.v] [ah ae ag] (fun p:Sv×List Nat=>p.1.v) (fun p=>[bI p.2 p.1 R]):=by
 refine Se 8 Tryz.func68 [.tmp 2] ?_
 intro H0 F0
 unfold KX at hF
 refine bE ?_
 refine apw (xs:=ag) di.h (.tmp rfl rfl) .h ao_ (fun bn1 hn2=>?_)
 refine au ?_
 refine Cc (fun hb3=>?_) (fun hb3=>?_)
 · have hnil:=hn2 hb3
   replace hF:some []=some R:=by rw[hnil]at hF; simpa[app]using hF
   refine bi ?_
   cases hF
   exact gU (⟨none,0,0⟩,[]) (.tmp rfl rfl .nil) rfl (.conv .nil (gV (Ro:=(aC az)) (E:=3)) (.cons .nil) (.sel (.cons .h .nil)))
 refine aU ?_
 refine dH rfl (bQ (g:=true) di.h dx.h .nil (vs:=[]) rfl rfl rfl (by simp)) (fun k4=>?_)
 refine dR (.cons .h .nil) (bS (Ro:=(aC az)) (E:=3) (F:=[]) (xs:=([]:List Int)) bR rfl rfl) ?_
 refine au ?_
 refine bnd hF fun z5 hx6 hF=>ek (.cons .h (.rd .h rfl .nil)) (dX (Ro:=(aC az)) di.h jc dx.h rfl rfl rfl (.tmp rfl rfl) (.tmp rfl rfl) hx6 mr) (fun p7=>?_)
 refine bv ?_
 cases hF
 exact Er (p7.1,p7.2)
def IP(bF:Fact):Option (Fact):=
 (KX bF.Values).bind fun r3=>
 some (⟨bF.Rel,r3⟩:Fact)
theorem Zb{bF:Fact}{aP:Sv}{R:Fact}(hF:IP bF=some R):
   Fw.Spec Tryz.prog 121 [(zg [(zi bF.Rel),aP.v])] [ah aP bF.Values] (fun p:Sv×List Nat=>(zg [(zi R.Rel),p.1.v])) (fun p=>[bI p.2 p.1 R.Values]):=by
 refine Se 9 Tryz.func121 [.cell 2 70] ?_
 intro H0 F0
 unfold IP at hF
 refine au ?_
 refine bP (fun k1=>?_)
 refine d_ (fun k2=>?_)
 refine au ?_
 refine dV [0,1,2,3,4,5,6] [0,1,0,4,12,31,63] [4,6] mixed (by decide+kernel) ?_
 refine nZ ?_
 refine bnd hF fun r3 hx4 hF=>qE (adS hx4) (fun p5=>?_)
 refine bN rfl .no (fun ha=>iD dZ.h rfl (vs:=[(zi bF.Rel),p5.1.v]) (.cons (EN ha (.tmp rfl rfl) rfl) (.cons (EN ha (.tmp rfl rfl) rfl) .nil)) (cells:=[(zi bF.Rel),p5.1.v]) rfl) ?_
 refine cO rfl rfl .no (.cons (.t .h) .nil) .nil (fun ha=>gD (e':=(zg [(zi bF.Rel),p5.1.v])) (v:=(zg [(zi bF.Rel),p5.1.v])) dZ.h.sz (EN ha (.tmp rfl rfl) rfl) (EN ha (.tmp rfl rfl) rfl) rfl rfl rfl rfl rfl) (fun _=>?_)
 refine du ?_
 refine au ?_
 cases hF
 exact Er (p5.1,p5.2)
def G_:List Fact->Nat->(List Fact)->Option ((List Fact))
 |[],k8,c2=>some c2
 |eY::fO,k8,c2=>(IP eY).bind fun oM=>
   (app c2 ([oM]:List Fact)).bind fun z25=>
   G_ fO (k8+1) z25
def Vb(ai:List Fact):Option ((List Fact)):=
 G_ ai 0 ([]:List Fact)
theorem amF{ai:List Fact}{ae:Sv}{R:(List Fact)}(hF:Vb ai=some R):
   Fw.Spec Tryz.prog 66 [ae.v] [bH ae ai] (fun p:Sv×List Nat=>p.1.v) (fun p=>[eP p.2 p.1 R]):=by
 refine Se 20 Tryz.func66 [.tmp 2] ?_
 intro H0 F0
 unfold Vb at hF
 refine bi ?_
 refine dH rfl (bQ (g:=true) gq.h dZ.h .nil (vs:=[]) rfl rfl rfl (by simp)) (fun k1=>?_)
 refine dR (.cons .h .nil) (bS (Ro:=gQ) (E:=70) (F:=[]) (xs:=([]:List Fact)) bR rfl rfl) ?_
 refine dN ?_
 refine bn (bU (m:=ai.length) (fun m6 f' cs'=>∃(g:Fr)(k8:Nat)(fO c2:List Fact)(v3:Sv)(F4:List Nat),m6=fO.length/\f'=aQ g [(3,v3.v),(7,ae.v),(8,(zi (ai.length:Int))),(9,(zi (k8:Int)))]/\List.drop k8 ai=fO/\aO cs' [eP F4 v3 c2,bH ae ai]/\G_ fO k8 c2=some R) ⟨_,0,_,_,⟨(some ⟨k1,0,none⟩),0,1⟩,(k1::[]),rfl,aA,rfl,ay,hF⟩ ?_)
 rintro m6 _ _ ⟨g7,k8,fO,c2,v3,F4,rfl,rfl,j5,hE,hF⟩
 refine Kb hE ai (fun MJ=>?_)
 rcases fO with _|⟨eY,fO⟩
 · have v_:=dn j5
   rw[G_]at hF
   refine bi ?_
   refine dL ?_
   refine gF ?_
   cases hF
   exact Er (v3,F4)
 obtain⟨v_,iJ,sG⟩:=dA j5
 rw[G_]at hF
 refine bi ?_
 refine dK ?_
 refine bv ?_
 refine Ai iJ (fun k17 J5=>?_)
 refine ni (lZ eY) mq (fun p19=>?_)
 refine d_ (fun k20=>?_)
 refine As (zg [(zi eY.Rel),p19.v]) ?_
 refine bi ?_
 refine bnd hF fun oM ug hF=>gB (Zb ug) (fun o6=>?_)
 refine dH rfl (bQ (g:=true) gq.h dZ.h cu (vs:=[(zg [(zi oM.Rel),o6.1.v])]) rfl rfl rfl (by intro v hv; simp at hv; rcases hv with rfl<;>rfl)) (fun k24=>?_)
 refine dR (.cons .h (.cons .h .nil)) (bS (Ro:=gQ) (E:=70) (F:=(o6.2++[])) (xs:=([oM]:List Fact)) (ed yn bR cK) rfl rfl) ?_
 refine bnd hF fun z25 nL hF=>ek (.cons .q4 (.cons .h .nil)) (dX (Ro:=gQ) gq.h yo dZ.h rfl rfl rfl (.tmp rfl rfl) (.tmp rfl rfl) nL fU) (fun p27=>?_)
 refine bE ?_
 rw[wk k8]
 exact⟨_,bY _,_,k8+1,fO,_,p27.1,p27.2,rfl,aA,sG,ay,hF⟩
def Ha(bF:Fact)(jq:Access):List Int->Nat->Option (Bool)
 |[],k5=>some false
 |x7::eQ,k5=>(ix bF.Values x7).bind fun oh=>
   (ix jq.Values (k5:Int)).bind fun j3=>
   if ((oh:Int)!=j3)then (
     some true)
   else (
     Ha bF jq eQ (k5+1))
def xP(bF:Fact)(ak:Method)(jq:Access):Option (Bool):=
 if ((bF.Rel:Int)!=ak.Rel)then (
   some true)
 else (
   Ha bF jq ak.Inputs 0)
theorem ae9{bF:Fact}{aP:Sv}{bT:Nat}{ak:Method}{dW:Sv}{oq:Nat}{jq:Access}{oQ:Sv}{R:Bool}(hF:xP bF ak jq=some R):
   Fw.Spec Tryz.prog 67 [(zg [(zi bF.Rel),aP.v]),(pz bT),(pz oq)] [ah aP bF.Values,aX bT 57 (zg [(zi ak.Rel),dW.v,(zi ak.Limit),(zi ak.Cost),(zi ak.Quota)]),ah dW ak.Inputs,aX oq 45 (zg [(zi jq.Method),oQ.v]),ah oQ jq.Values] (fun _:Unit=>(.bool R)) (fun _=>[]):=by
 refine Se 32 Tryz.func67 [.tmp 4] ?_
 intro H0 F0
 unfold xP at hF
 refine au ?_
 refine bP (fun k1=>?_)
 refine kF ?_
 refine Ci hF (fun JB hF=>?_) (fun JB hF=>?_)
 · exact ze hF
 refine dN ?_
 refine bn (bU (m:=ak.Inputs.length) (fun m3 f' cs'=>∃(g:Fr)(k5:Nat)(eQ:List Int),m3=eQ.length/\f'=aQ g [(2,(pz oq)),(3,(pz k1)),(13,dW.v),(14,(zi (ak.Inputs.length:Int))),(15,(zi (k5:Int)))]/\List.drop k5 ak.Inputs=eQ/\aO cs' [aX oq 45 (zg [(zi jq.Method),oQ.v]),ah oQ jq.Values,aX k1 70 (zg [(zi bF.Rel),aP.v]),ah aP bF.Values,ah dW ak.Inputs]/\Ha bF jq eQ k5=some R) ⟨_,0,_,rfl,aA,rfl,ay,hF⟩ ?_)
 rintro m3 _ _ ⟨g4,k5,eQ,rfl,rfl,nQ,hE,hF⟩
 refine Kb hE ak.Inputs (fun Jk=>?_)
 rcases eQ with _|⟨x7,eQ⟩
 · have uG:=dn nQ
   rw[Ha]at hF
   refine bi ?_
   refine dL ?_
   exact ze hF
 obtain⟨uG,jI,j5⟩:=dA nQ
 rw[Ha]at hF
 refine bi ?_
 refine dK ?_
 refine bi ?_
 refine Ai jI (fun k14 TL=>?_)
 refine Al dP ?_
 refine bv ?_
 refine dV [0,1,2,3,4,5,6,7,8,9,10] [0,1,0,7,15,0,32,0,224,480,1023] [] mixed (by decide+kernel) ?_
 refine dD ?_
 refine zI hF fun oh M9 kR hF=>?_
 refine Di kR (fun k20 DF=>?_)
 refine Dl dP ?_
 refine dD ?_
 refine zI hF fun j3 acR hx25 hF=>?_
 refine Di hx25 (fun k26 TU=>?_)
 refine Dl dP ?_
 refine bX ?_
 refine Ci hF (fun Dg hF=>?_) (fun Dg hF=>?_)
 · exact ze hF
 refine aZ ?_
 rw[wk k5]
 exact⟨_,bY _,_,k5+1,eQ,rfl,aA,j5,ay,hF⟩
def KM(ak:Method)(jq:Access):List Fact->Nat->Option (Int)
 |[],k4=>some (-1)
 |x6::aM,k4=>(xP x6 ak jq).bind fun r16=>
   if r16 then (
     some (k4:Int))
   else (
     KM ak jq aM (k4+1))
def YJ(ag:List Fact)(ak:Method)(jq:Access):Option (Int):=
 KM ak jq ag 0
theorem ak3{ag:List Fact}{ae:Sv}{bT:Nat}{ak:Method}{dW:Sv}{oq:Nat}{jq:Access}{oQ:Sv}{R:Int}(hF:YJ ag ak jq=some R):
   Fw.Spec Tryz.prog 120 [ae.v,(.func (.func 67) [].toArray [(pz bT),(pz oq)].toArray)] [bH ae ag,aX bT 57 (zg [(zi ak.Rel),dW.v,(zi ak.Limit),(zi ak.Cost),(zi ak.Quota)]),ah dW ak.Inputs,aX oq 45 (zg [(zi jq.Method),oQ.v]),ah oQ jq.Values] (fun _:Unit=>(zi R)) (fun _=>[]):=by
 refine Se 19 Tryz.func120 [.tmp 4] ?_
 intro H0 F0
 unfold YJ at hF
 refine gF ?_
 refine bn (bU (m:=ag.length) (fun m2 f' cs'=>∃(g:Fr)(k4:Nat)(aM:List Fact),m2=aM.length/\f'=aQ g [(0,ae.v),(1,(.func (.func 67) [].toArray [(pz bT),(pz oq)].toArray)),(7,(zi (ag.length:Int))),(8,(zi (k4:Int)))]/\List.drop k4 ag=aM/\aO cs' [bH ae ag,aX bT 57 (zg [(zi ak.Rel),dW.v,(zi ak.Limit),(zi ak.Cost),(zi ak.Quota)]),ah dW ak.Inputs,aX oq 45 (zg [(zi jq.Method),oQ.v]),ah oQ jq.Values]/\KM ak jq aM k4=some R) ⟨_,0,_,rfl,aA,rfl,ay,hF⟩ ?_)
 rintro m2 _ _ ⟨g3,k4,aM,rfl,rfl,hd7,hE,hF⟩
 refine Kb hE ag (fun kY=>?_)
 rcases aM with _|⟨x6,aM⟩
 · have gH:=dn hd7
   rw[KM]at hF
   refine bi ?_
   refine dL ?_
   exact ze hF
 obtain⟨gH,bZ,gG⟩:=dA hd7
 rw[KM]at hF
 refine bi ?_
 refine dK ?_
 refine kF ?_
 refine Ai bZ (fun k13 oK=>?_)
 refine ni (lZ x6) mq (fun nA=>?_)
 refine bnd hF fun r16 jO hF=>l9 (.rd .h rfl (.rd .q3 rfl (.rd .q4 rfl (.rd .q5 rfl (.rd .q6 rfl .nil))))) (qL ajz.h (.tmp rfl rfl) cu (ae9 jO)) (fun _=>?_)
 refine au ?_
 refine Ci hF (fun nK hF=>?_) (fun nK hF=>?_)
 · exact ze hF
 refine aZ ?_
 rw[wk k4]
 exact⟨_,bY _,_,k4+1,aM,rfl,aA,gG,ay,hF⟩
def Uv(ag:List Fact)(ak:Method)(jq:Access):Option (List Fact):=
 M0 (fun aK=>xP aK ak jq) ag
theorem ak1(qs:List (Value×Fact))(v:Sv)(F:List Nat)(bT:Nat)(ak:Method)(dW:Sv)(oq:Nat)(jq:Access)(oQ:Sv)(p:Value×Fact->Bool)(hcl:∀q∈qs,xP q.2 ak jq=some (p q))(hidx:YJ (qs.map Prod.snd) ak jq=some (nu p qs 0))(hbd:qs.length<4611686018427387904):
   Fw.Spec Tryz.prog 65 [v.v,(.func (.func 67) [].toArray [(.pointer (some ⟨bT,0,some 0⟩)),(.pointer (some ⟨oq,0,some 0⟩))].toArray)] [aT (aF 70 (aC (rq mP))) F v.v qs,aX bT 57 (.agg [(.int .i64 ak.Rel),dW.v,(.int .i64 ak.Limit),(.int .i64 ak.Cost),(.int .i64 ak.Quota)].toArray),bB (aD 3 az) dW.v ak.Inputs,aX oq 45 (.agg [(.int .i64 jq.Method),oQ.v].toArray),bB (aD 3 az) oQ.v jq.Values] (fun q:Sv×List Nat=>q.1.v) (fun q=>[aT (aF 70 (aC (rq mP))) q.2 q.1.v (qs.filter fun a=>!p a)]):=by
 refine Iz (n:=42) Tryz.func65 rfl rfl (rs:=[.tmp 4]) rfl rfl rfl ?_
 intro H0 F0
 refine dC ?_
 refine aN (jW (v:=(.slice none 0 0)) EV.nilSlice) ?_
 refine df ?_
 refine dC ?_
 refine aN (fQ (v:=v.v) (.tmp rfl rfl)) ?_
 refine aN (fQ (v:=(.func (.func 67) [].toArray [(.pointer (some ⟨bT,0,some 0⟩)),(.pointer (some ⟨oq,0,some 0⟩))].toArray)) (.tmp rfl rfl)) ?_
 refine ek (.cons .h (.rd .h rfl (.rd (.t .h) rfl (.rd (.t (.t .h)) rfl (.rd (.t (.t (.t .h))) rfl .nil))))) (apu ap_ (fun _=>.nil) (jm (.rd (.t (.t (.t (.t .h)))) rfl (.rd .h rfl (.rd (.t .h) rfl (.rd (.t (.t .h)) rfl (.rd (.t (.t (.t .h))) rfl .nil))))) (bV aiv.h (.cons (.tmp rfl rfl) (.cons (.tmp rfl rfl) .nil)) (@ak3 (qs.map Prod.snd) v bT ak dW oq jq oQ _ hidx)))) (fun _=>?_)
 generalize hR:nu p qs 0=R0
 refine aN (jW (v:=(.int .i64 R0)) (.tmp rfl rfl)) ?_
 refine df ?_
 refine j4 ?_
 refine dC ?_
 refine aN (fQ (v:=(.int .i64 R0)) (.tmp rfl rfl)) ?_
 refine aN (tH (i:=R0) (j:=(-1)) (.tmp rfl rfl) (.int _ _)) ?_
 refine df ?_
 refine kg (b:=(R0==(-1:Int))) (.tmp rfl rfl) (fun hb=>?_) (fun hb=>?_)
 · refine dC ?_
   refine aN (fQ (v:=v.v) (.tmp rfl rfl)) ?_
   refine aN (jW (v:=v.v) (.tmp rfl rfl)) ?_
   refine df ?_
   refine qN ?_
   have e:qs.filter (fun q=>!p q)=qs:=ahd (k:=0) (by rw[hR]; simpa using hb)
   rw[e]
   exact gU (v,F) (.tmp rfl rfl .nil) rfl (.sel (.cons .h .nil))
 refine nU ?_
 obtain⟨i0,hi0,hi1⟩:∃i:Nat,R0=(i:Int)/\i<qs.length:=by
   rcases agN p qs 0 with h|⟨i,h,hi⟩
   · rw[hR]at h; subst h; simp at hb
   · exact⟨i,by rw[←hR,h],by omega⟩
 subst hi0
 refine j4 ?_
 refine dC ?_
 refine aN (fQ (v:=(.int .i64 (i0:Int))) (.tmp rfl rfl)) ?_
 refine aN (nW (i:=(i0:Int)) (j:=1) (.tmp rfl rfl) (.int _ _)) ?_
 rw[show IntKind.i64.wrap ((i0:Int)+1)=((i0+1:Nat):Int)from by rw[eU (by omega) (by omega)]; rfl]
 refine aN (jW (v:=(.int .i64 ((i0+1:Nat):Int))) (.tmp rfl rfl)) ?_
 refine df ?_
 refine bn ?_
 refine bU (m:=qs.length-(i0+1)) (fun m f' cs'=>∃(g:Fr)(cur:List (Value×Fact))(i j:Nat)(F':List Nat),m=qs.length-j/\f'=aQ g [(0,v.v),(1,(.func (.func 67) [].toArray [(.pointer (some ⟨bT,0,some 0⟩)),(.pointer (some ⟨oq,0,some 0⟩))].toArray)),(5,(.int .i64 (i:Int))),(6,(.int .i64 (j:Int)))]/\u6 p qs cur i j/\aO cs' [aT (aF 70 (aC (rq mP))) F' v.v cur,aX bT 57 (.agg [(.int .i64 ak.Rel),dW.v,(.int .i64 ak.Limit),(.int .i64 ak.Cost),(.int .i64 ak.Quota)].toArray),bB (aD 3 az) dW.v ak.Inputs,aX oq 45 (.agg [(.int .i64 jq.Method),oQ.v].toArray),bB (aD 3 az) oQ.v jq.Values]) ⟨_,qs,i0,i0+1,F,rfl,(b_.cons rfl (b_.cons rfl (b_.cons rfl (b_.cons rfl (b_.nil))))).eq,u6.init (by rw[hR]),.sel (.cons .h (.rd .h rfl (.rd (.t .h) rfl (.rd (.t (.t .h)) rfl (.rd (.t (.t (.t .h))) rfl .nil)))))⟩ ?_
 rintro m _ _ ⟨g,cur,i,j,F',rfl,rfl,hI,hE⟩
 refine bu hE ?_
 clear hE
 refine j4 ?_
 refine dC ?_
 refine aN (fQ (v:=(.int .i64 (j:Int))) (.tmp rfl rfl)) ?_
 refine aN (fQ (v:=v.v) (.tmp rfl rfl)) ?_
 refine eu .h (fun hp=>rZ (l:=cur.length) gq.h (.tmp rfl rfl) (L6 hp)) ?_
 refine aN (Fg (i:=(j:Int)) (j:=(cur.length:Int)) (.tmp rfl rfl) (.tmp rfl rfl)) ?_
 refine df ?_
 have hlen:=hI.len
 have hij:=hI.lt
 have hjl:=hI.le
 refine kg (b:=(decide ((j:Int)<(cur.length:Int)))) (.tmp rfl rfl) (fun hb2=>?_) (fun hb2=>?_)
 · refine nU ?_
   have hj:j<qs.length:=by simp at hb2; omega
   obtain⟨x,hx1,hx2⟩:=hI.at hj
   refine PQ ?_
   refine dC ?_
   refine aN (fQ (v:=v.v) (.tmp rfl rfl)) ?_
   refine aN (fQ (v:=(.int .i64 (j:Int))) (.tmp rfl rfl)) ?_
   refine PV gq.h dZ.h.sz (.tmp rfl rfl) (.tmp rfl rfl) .h (by simp; omega) (fun k hk=>?_)
   refine ap9 (a:=x) (ul:=fun i:Sv=>[(.int .i64 x.2.Rel),i.v]) (cc:=fun i=>[bB (aD 3 az) i.v x.2.Values]) vX.h dZ.h.sz rfl (.tmp rfl rfl) .h hk (by simpa using hx1) (fun H e h=>by obtain⟨-,v0,h1,h0⟩:=h; exact⟨v0,h1,rfl,by simp[bB,h0]⟩) (fun w=>?_)
   refine dH rfl (rY (g:=true) dZ.h rfl rfl) (fun k1=>?_)
   refine ek (.cons .h .nil) (gD (e:=(.agg [(.int .i64 0),(.slice none 0 0)].toArray)) (e':=(.agg [(.int .i64 x.2.Rel),w.v].toArray)) (v:=(.agg [(.int .i64 x.2.Rel),w.v].toArray)) dZ.h.sz (.tmp rfl rfl) (.tmp rfl rfl) rfl rfl rfl rfl rfl) (fun _=>?_)
   refine df ?_
   refine dC ?_
   refine aN (fQ (v:=(.func (.func 67) [].toArray [(.pointer (some ⟨bT,0,some 0⟩)),(.pointer (some ⟨oq,0,some 0⟩))].toArray)) (.tmp rfl rfl)) ?_
   refine eu .h (fun hp=>fP vX.h dZ.h.sz rfl (.tmp rfl rfl) hp.2 rfl) ?_
   refine l9 (.rd (.t (.t .h)) rfl (.rd (.t (.t (.t (.t .h)))) rfl (.rd (.t (.t (.t (.t (.t .h))))) rfl (.rd (.t (.t (.t (.t (.t (.t .h)))))) rfl (.rd (.t (.t (.t (.t (.t (.t (.t .h))))))) rfl .nil))))) (qL ajz.h (.tmp rfl rfl) (.cons (.tmp rfl rfl) .nil) (@ae9 x.2 w bT ak dW oq jq oQ _ (hcl x (List.mem_of_getElem? hx2)))) (fun _=>?_)
   refine aN (Jf (b:=p x) (.tmp rfl rfl)) ?_
   refine df ?_
   refine kg (b:=(!p x)) (.tmp rfl rfl) (fun hb3=>?_) (fun hb3=>?_)
   · refine dC ?_
     refine aN (fQ (v:=v.v) (.tmp rfl rfl)) ?_
     refine aN (fQ (v:=(.int .i64 (i:Int))) (.tmp rfl rfl)) ?_
     refine eu .h (fun hp=>fP vX.h dZ.h.sz rfl (.tmp rfl rfl) hp.2 rfl) ?_
     have hii:(decide ((0:Int)<=(i:Int))&&decide ((i:Int)<(cur.length:Int)))=true:=by simp; omega
     refine PV gq.h dZ.h.sz (.tmp rfl rfl) (.tmp rfl rfl) (.t (.t (.t .h))) hii (fun k2 hk2=>?_)
     refine ek (.cons (.t (.t (.t .h))) (.rd (.t .h) rfl .nil)) (ao7 (Ro:=aC (rq mP)) (a:=x) (i:=(i:Int)) dZ.h.sz rfl (.tmp rfl rfl) (.tmp rfl rfl) hk2 hii arH (fun _ _ _ _ h=>by obtain⟨-,-,v0,rfl,_⟩:=h; rfl)) (fun F2=>?_)
     refine df ?_
     refine kT ?_
     refine aN (fQ (v:=(.int .i64 (i:Int))) (.tmp rfl rfl)) ?_
     refine aN (nW (i:=(i:Int)) (j:=1) (.tmp rfl rfl) (.int _ _)) ?_
     rw[show IntKind.i64.wrap ((i:Int)+1)=((i+1:Nat):Int)from by rw[eU (by omega) (by omega)]; rfl]
     refine aN (jW (v:=(.int .i64 ((i+1:Nat):Int))) (.tmp rfl rfl)) ?_
     refine df ?_
     refine kT ?_
     refine aN (fQ (v:=(.int .i64 (j:Int))) (.tmp rfl rfl)) ?_
     refine aN (nW (i:=(j:Int)) (j:=1) (.tmp rfl rfl) (.int _ _)) ?_
     rw[show IntKind.i64.wrap ((j:Int)+1)=((j+1:Nat):Int)from by rw[eU (by omega) (by omega)]; rfl]
     refine aN (jW (v:=(.int .i64 ((j+1:Nat):Int))) (.tmp rfl rfl)) ?_
     refine df ?_
     exact⟨_,by omega,_,cur.set i x,i+1,j+1,F2,rfl,(b_.cons rfl (b_.cons rfl (b_.cons rfl (b_.cons rfl (b_.nil))))).eq,hI.no hx2 (by simpa using hb3),.sel (.cons .h (.rd (.t (.t (.t .h))) rfl (.rd (.t (.t (.t (.t .h)))) rfl (.rd (.t (.t (.t (.t (.t .h))))) rfl (.rd (.t (.t (.t (.t (.t (.t .h)))))) rfl .nil)))))⟩
   · refine nU ?_
     refine kT ?_
     refine aN (fQ (v:=(.int .i64 (j:Int))) (.tmp rfl rfl)) ?_
     refine aN (nW (i:=(j:Int)) (j:=1) (.tmp rfl rfl) (.int _ _)) ?_
     rw[show IntKind.i64.wrap ((j:Int)+1)=((j+1:Nat):Int)from by rw[eU (by omega) (by omega)]; rfl]
     refine aN (jW (v:=(.int .i64 ((j+1:Nat):Int))) (.tmp rfl rfl)) ?_
     refine df ?_
     exact⟨_,by omega,_,cur,i,j+1,F',rfl,(b_.cons rfl (b_.cons rfl (b_.cons rfl (b_.cons rfl (b_.nil))))).eq,hI.yes hx2 (by simpa using hb3),.sel (.cons (.t (.t (.t .h))) (.rd (.t (.t (.t .h))) rfl (.rd (.t (.t (.t (.t .h)))) rfl (.rd (.t (.t (.t (.t (.t .h))))) rfl (.rd (.t (.t (.t (.t (.t (.t .h)))))) rfl .nil)))))⟩
 · refine EZ ?_
   refine Bb ?_
   refine Bb ?_
   refine ER ?_
   have hj:qs.length<=j:=by simp at hb2; omega
   refine PS .h (ZX (by intro e; rw[e]at hlen; simp at hlen; omega)) (fun hv=>?_)
   obtain⟨k0,m0,rfl,hm0⟩:=hv
   refine dC ?_
   refine aN (fQ (v:=(.slice (some ⟨k0,0,none⟩) cur.length m0)) (.tmp rfl rfl)) ?_
   refine aN (fQ (v:=(.int .i64 (i:Int))) (.tmp rfl rfl)) ?_
   refine aoS gq.h dZ.h.sz (.tmp rfl rfl) (.tmp rfl rfl) .h (by omega) (by omega) ?_
   refine ek (.cons .h .nil) (apx (l:=cur.length) (m:=m0) (k:=k0) (i:=i) (j:=cur.length-i) gq.h dZ.h rfl rfl rfl rfl rfl (by omega) (.tmp rfl rfl)) (fun _=>?_)
   refine df ?_
   refine dC ?_
   refine aN (fQ (v:=(.slice (some ⟨k0,0,none⟩) cur.length m0)) (.tmp rfl rfl)) ?_
   refine aN (fQ (v:=(.int .i64 (i:Int))) (.tmp rfl rfl)) ?_
   refine aoT gq.h dZ.h.sz (.tmp rfl rfl) hm0 (.tmp rfl rfl) .h rfl (by omega) (by omega) (by omega) ?_
   refine aN (jW (v:=(.slice (some ⟨k0,0,none⟩) i 2)) (.tmp rfl rfl)) ?_
   refine df ?_
   refine qN ?_
   rw[←hI.fin hj]
   exact gU (⟨some ⟨k0,0,none⟩,i,2⟩,F') (.tmp rfl rfl .nil) rfl (.sel (.cons .h .nil))
theorem ak2{ag:List Fact}{ae:Sv}{xw:List Nat}{bT:Nat}{ak:Method}{dW:Sv}{oq:Nat}{jq:Access}{oQ:Sv}{R:List Fact}(hF:Uv ag ak jq=some R):
   Fw.Spec Tryz.prog 65 [ae.v,(.func (.func 67) [].toArray [(.pointer (some ⟨bT,0,some 0⟩)),(.pointer (some ⟨oq,0,some 0⟩))].toArray)] [aT (aF 70 gQ) xw ae.v ag,aX bT 57 (.agg [(.int .i64 ak.Rel),dW.v,(.int .i64 ak.Limit),(.int .i64 ak.Cost),(.int .i64 ak.Quota)].toArray),bB (aD 3 az) dW.v ak.Inputs,aX oq 45 (.agg [(.int .i64 jq.Method),oQ.v].toArray),bB (aD 3 az) oQ.v jq.Values] (fun p:Sv×List Nat=>p.1.v) (fun p=>[aT (aF 70 gQ) p.2 p.1.v R]):=by
 unfold Uv at hF
 obtain⟨h1,h2⟩:=agM hF
 refine aoU aol (fun hb=>?_)
 refine aoR (R:=mP) rfl (fun es F1 hel=>⟨(es.zip ag).filter (fun a=>!(xP a.2 ak jq).getD false),List.filter_sublist,by rw[h2]; exact aoo (fun a=>(xP a ak jq).getD false) es ag hel,?_⟩)
 refine ak1 (es.zip ag) ae F1 bT ak dW oq jq oQ (fun a=>(xP a.2 ak jq).getD false) (fun q hq=>h1 q.2 (List.of_mem_zip hq).2) ?_ (by simp; omega)
 rw[List.map_snd_zip (Nat.le_of_eq hel.symm),←ahA Prod.snd (fun a=>(xP a ak jq).getD false),List.map_snd_zip (Nat.le_of_eq hel.symm)]
 exact rW (L:=KM ak jq) (fun _=>rfl) (fun _ _ _=>rfl) ag 0 h1
def LX(ai:List Method)(bO:List Fact)(aB:Access):Option ((List Fact)):=
 (ix ai aB.Method).bind fun x2=>
 (Vb bO).bind fun o5=>
 (Uv o5 x2 aB).bind fun r16=>
 some r16
theorem afK{ai:List Method}{ae:Sv}{bO:List Fact}{ax:Sv}{aB:Access}{dJ:Sv}{R:(List Fact)}(hF:LX ai bO aB=some R):
   Fw.Spec Tryz.prog 28 [ae.v,ax.v,(zg [(zi aB.Method),dJ.v])] [bW ae ai,bH ax bO,ah dJ aB.Values] (fun p:Sv×List Nat=>p.1.v) (fun p=>[eP p.2 p.1 R]):=by
 refine Se 17 Tryz.func28 [.tmp 6] ?_
 intro H0 F0
 unfold LX at hF
 refine au ?_
 refine bP (fun k1=>?_)
 refine bE ?_
 refine zI hF fun x2 hp4 hx5 hF=>?_
 refine Ai hx5 (fun k6 j7=>?_)
 refine ni (uO x2) vH (fun p8=>?_)
 refine d_ (fun k9=>?_)
 refine As (zg [(zi x2.Rel),p8.v,(zi x2.Limit),(zi x2.Cost),(zi x2.Quota)]) ?_
 refine au ?_
 refine iG .h apq ?_
 refine aU ?_
 refine bnd hF fun o5 kr hF=>gB (amF kr) (fun nA=>?_)
 refine aN (wU (fn:=.func 67) (vs:=[]) (us:=[(pz k9),(pz k1)]) .nil cu) ?_
 refine bnd hF fun r16 jO hF=>gB (ak2 jO) (fun DJ=>?_)
 refine bv ?_
 cases hF
 exact Er (DJ.1,DJ.2)
def Mm(iQ:Int):Option (Bool):=
 (o_ iQ 0 10000).bind fun r1=>
 some r1
theorem Zp{iQ:Int}{R:Bool}(hF:Mm iQ=some R):
   Fw.Spec Tryz.prog 57 [(zi iQ)] [] (fun _:Unit=>(.bool R)) (fun _=>[]):=by
 refine Se 5 Tryz.func57 [.tmp 2] ?_
 intro H0 F0
 unfold Mm at hF
 refine aZ ?_
 refine bnd hF fun r1 hx2 hF=>bC (sS hx2) (fun _=>?_)
 exact ze hF
def Po(ag:List Int)(ai:List Method)(aS:cB):Option (Bool):=
 ((LF ag ai aS.Access).bind fun r4=>
   bif r4 then ((Pm ag aS.Facts).bind fun r8=>
     bif r8 then ((LX ai aS.Facts aS.Access).bind fun dz=>
       bif (((dz.length:Int):Int)==(aS.Facts.length:Int))then ((Mm aS.At).bind fun r16=>
         some r16)
       else (some false))
     else (some false))
   else (some false)).bind fun o2=>
 match o2 with
 |c19=>some c19
theorem ane{ag:List Int}{ae:Sv}{ai:List Method}{ax:Sv}{aS:cB}{dJ uj:Sv}{R:Bool}(hF:Po ag ai aS=some R):
   Fw.Spec Tryz.prog 112 [ae.v,ax.v,(zg [(zi aS.Access.Method),dJ.v,uj.v,(zi aS.At)])] [ah ae ag,bW ax ai,ah dJ aS.Access.Values,bH uj aS.Facts] (fun _:Unit=>(.bool R)) (fun _=>[]):=by
 refine Se 36 Tryz.func112 [.tmp 6] ?_
 intro H0 F0
 unfold Po at hF
 refine au ?_
 refine bP (fun k1=>?_)
 refine aU ?_
 obtain⟨o2,gz,hO3⟩:=bind_some hF
 refine dV [0,1,2,3,4,5,6,7,8,9,10,11,12,13,14,15,16,19,20,21,17,18,22,23,24,25,26,27,28,29] [0,0,0,4,15,31,63,63,191,511,1023,2047,4095,4095,12287,4095,36863,131071,262143,4095,528383,1576959,4194303,8388607,16777215,33554431,67108863,134217727,268435455,536870911] [4,9,17,27] mixed (by decide+kernel) ?_
 refine kX (fun f' cs'=>∃(c19:Bool)(g:Fr),c19=o2/\f'=aQ g [(6,(.bool c19))]/\aO cs' []) ?_ ?_
 · replace hF:=gz
   refine dD ?_
   refine xm rfl .no .h rfl (fun ha hp=>j_ (s:=2) (l:=[(zi aS.Access.Method),dJ.v]) vY.h ky.h.sz (EN ha (.tmp rfl rfl) rfl) hp.2 rfl (by decide) (Nat.le_of_ble_eq_true rfl) rfl) ?_
   refine bnd hF fun r4 hx5 hF=>fu (afo hx5) (fun _=>?_)
   refine du ?_
   rcases bD r4 with bq|bq
   · rw[bq]
     try rw[bq]at hF; dsimp only[aJ,aI]at hF
     refine dD ?_
     refine bnd hF fun r8 bZ hF=>fu (afn bZ) (fun _=>?_)
     refine bX ?_
     rcases bD r8 with dS|dS
     · rw[dS]
       try rw[dS]at hF; dsimp only[aJ,aI]at hF
       refine nZ ?_
       refine xm rfl (.on 18 rfl rfl rfl) .h rfl (fun ha hp=>j_ (s:=2) (l:=[(zi aS.Access.Method),dJ.v]) vY.h ky.h.sz (EN ha (.tmp rfl rfl) rfl) hp.2 rfl (by decide) (Nat.le_of_ble_eq_true rfl) rfl) ?_
       refine dD ?_
       refine bnd hF fun dz iJ hF=>qE (afK iJ) (fun mh=>?_)
       refine dO rfl (.on 18 rfl rfl rfl) .h (fun ha hp=>rZ (l:=dz.length) gq.h (EN ha (.tmp rfl rfl) rfl) (L6 hp)) ?_
       refine dD ?_
       rcases bD (((dz.length:Int):Int)==(aS.Facts.length:Int))with jJ|jJ
       · rw[jJ]
         try rw[jJ]at hF; dsimp only[aJ,aI]at hF
         refine bX ?_
         refine bnd hF fun r16 jO hF=>fu (Zp jO) (fun _=>?_)
         exact eD hF
       rw[jJ]
       try rw[jJ]at hF; dsimp only[aJ,aI]at hF
       exact eD hF
     rw[dS]
     try rw[dS]at hF; dsimp only[aJ,aI]at hF
     exact eD hF
   rw[bq]
   try rw[bq]at hF; dsimp only[aJ,aI]at hF
   exact eD hF
 rintro _ _ ⟨c19,g20,rfl,rfl,hE⟩
 replace hF:=hO3
 try dsimp only at hF
 refine bu hE ?_
 exact ze hF
def N8(aB:Access)(aR:Access):Option (Int):=
 (GA aB.Method aR.Method).bind fun r3=>
 (KW aB.Values aR.Values).bind fun r6=>
 (Lg ([r3,r6]:List Int)).bind fun lX=>
 some lX
theorem aly{aB:Access}{aP:Sv}{aR:Access}{aV:Sv}{R:Int}(hF:N8 aB aR=some R):
   Fw.Spec Tryz.prog 113 [(zg [(zi aB.Method),aP.v]),(zg [(zi aR.Method),aV.v])] [ah aP aB.Values,ah aV aR.Values] (fun _:Unit=>(zi R)) (fun _=>[]):=by
 refine Se 17 Tryz.func113 [.tmp 4] ?_
 intro H0 F0
 unfold N8 at hF
 refine au ?_
 refine bP (fun k1=>?_)
 refine bP (fun k2=>?_)
 refine aU ?_
 refine dV [0,1,2,3,5,6,7,8,4,9,10,11,12] [0,1,0,4,15,0,32,0,128,511,1023,2047,4095] [4,9,11] mixed (by decide+kernel) ?_
 refine ab6 ?_
 refine bnd hF fun r3 hx4 hF=>fu (YL hx4) (fun _=>?_)
 refine bnd hF fun r6 hx7 hF=>fu (adR hx7) (fun _=>?_)
 refine iy rfl .no rfl (fun ha=>bQ (g:=true) (len:=2) (parts:=[(0,.tmp 9),(1,.tmp 14)]) di.h dx.h (.cons (EN ha (.tmp rfl rfl) rfl) (.cons (EN ha (.tmp rfl rfl) rfl) .nil)) (vs:=[(zi r3),(zi r6)]) rfl rfl rfl (by intro v hv; simp at hv; rcases hv with rfl|rfl<;>rfl)) (fun k9=>?_)
 refine jk (.cons .h .nil) (bS (Ro:=(aC az)) (E:=3) (F:=([]++([]++[]))) (xs:=([r3,r6]:List Int)) (ed (jF (fun _=>rfl)) (ed (jF (fun _=>rfl)) bR cK) cK) rfl rfl) ?_
 refine bnd hF fun lX lg hF=>cO rfl rfl .no (.cons .h .nil) (.dep rfl .nil) (fun ha=>jV aG (fun _=>.nil) (bV aiu.h (.cons (EN ha (.tmp rfl rfl) rfl) .nil) (@aeQ ([r3,r6]:List Int) (⟨(some ⟨k9,0,none⟩),2,1⟩) _ lg))) (fun _=>?_)
 refine bX ?_
 exact ze hF
def A8(ag:List Int)(ai:List Method)(aj:Cache):List cB->Nat->Option (Bool)
 |[],k5=>((Ie ag ai).bind fun r16=>
     bif r16 then ((o_ aj.Age 0 100).bind fun jP=>
       bif jP then (some (decide (((aj.Entries.length:Int):Int)<=100)))
       else (some false))
     else (some false)).bind fun zl=>
   match zl with
   |c24=>some c24
 |x7::eQ,k5=>((Po ag ai x7).bind fun r32=>
     bif (!r32)then (some true)
     else (bif (decide ((0:Int)<(k5:Int)))then ((ix aj.Entries (IntKind.i64.wrap ((k5:Int)-1))).bind fun xD=>
         (N8 xD.Access x7.Access).bind fun jS=>
         some (decide ((0:Int)<=jS)))
       else (some false))).bind fun Kh=>
   match Kh with
   |kN=>if kN then (
       some false)
     else (
       A8 ag ai aj eQ (k5+1))
def Vq(ag:List Int)(ai:List Method)(aj:Cache):Option (Bool):=
 A8 ag ai aj aj.Entries 0
theorem anO{ag:List Int}{ae:Sv}{ai:List Method}{ax:Sv}{aj:Cache}{bM:Sv}{R:Bool}(hF:Vq ag ai aj=some R):
   Fw.Spec Tryz.prog 56 [ae.v,ax.v,(zg [bM.v,(zi aj.Age)])] [ah ae ag,bW ax ai,dM bM aj.Entries] (fun _:Unit=>(.bool R)) (fun _=>[]):=by
 refine Se 54 Tryz.func56 [.tmp 6] ?_
 intro H0 F0
 unfold Vq at hF
 refine au ?_
 refine bP (fun k1=>?_)
 refine gF ?_
 refine bn (bU (m:=aj.Entries.length) (fun m3 f' cs'=>∃(g:Fr)(k5:Nat)(eQ:List cB),m3=eQ.length/\f'=aQ g [(0,ae.v),(1,ax.v),(5,(pz k1)),(10,bM.v),(11,(zi (aj.Entries.length:Int))),(12,(zi (k5:Int)))]/\List.drop k5 aj.Entries=eQ/\aO cs' [ah ae ag,bW ax ai,aX k1 32 (zg [bM.v,(zi aj.Age)]),dM bM aj.Entries]/\A8 ag ai aj eQ k5=some R) ⟨_,0,_,rfl,aA,rfl,ay,hF⟩ ?_)
 rintro m3 _ _ ⟨g4,k5,eQ,rfl,rfl,nQ,hE,hF⟩
 refine Kb hE aj.Entries (fun Jk=>?_)
 rcases eQ with _|⟨x7,eQ⟩
 · have uG:=dn nQ
   rw[A8]at hF
   refine bi ?_
   refine dL ?_
   refine bi ?_
   obtain⟨zl,Qw,Sl⟩:=bind_some hF
   refine au ?_
   refine fe (fun f' cs'=>∃(c24:Bool)(g:Fr),c24=zl/\f'=aQ g [(6,(.bool c24))]/\aO cs' []) ?_ ?_
   · replace hF:=Qw
     refine aU ?_
     refine bnd hF fun r16 jO hF=>bC (YU jO) (fun _=>?_)
     refine au ?_
     rcases bD r16 with iN|iN
     · rw[iN]
       try rw[iN]at hF; dsimp only[aJ,aI]at hF
       refine aZ ?_
       refine bnd hF fun jP lG hF=>bC (sS lG) (fun _=>?_)
       refine aU ?_
       rcases bD jP with ku|ku
       · rw[ku]
         try rw[ku]at hF; dsimp only[aJ,aI]at hF
         exact bK hF
       rw[ku]
       try rw[ku]at hF; dsimp only[aJ,aI]at hF
       exact bK hF
     rw[iN]
     try rw[iN]at hF; dsimp only[aJ,aI]at hF
     exact bK hF
   rintro _ _ ⟨c24,TE,rfl,rfl,hE⟩
   replace hF:=Sl
   try dsimp only at hF
   refine bu hE ?_
   exact ze hF
 obtain⟨uG,jI,j5⟩:=dA nQ
 rw[A8]at hF
 refine bi ?_
 refine dK ?_
 refine bi ?_
 refine Ai jI (fun k26 TU=>?_)
 refine yj (wV x7) xQ (fun p28=>?_)
 refine d_ (fun sP=>?_)
 refine au ?_
 refine As (zg [(zi x7.Access.Method),p28.1.v,p28.2.v,(zi x7.At)]) ?_
 refine au ?_
 obtain⟨Kh,aaV,acC⟩:=bind_some hF
 refine dV [0,1,2,3,4,5,6,7,8,9,10,11,12,13,14,15,16,17,18,19,20,21] [0,0,0,7,15,31,63,127,255,511,1023,511,2559,8191,16383,32767,511,66047,262143,524287,1048575,2097151] [3,18] mixed (by decide+kernel) ?_
 refine kX (fun f' cs'=>∃(kN:Bool)(g:Fr),kN=Kh/\f'=aQ g [(0,ae.v),(1,ax.v),(5,(pz k1)),(10,bM.v),(11,(zi (aj.Entries.length:Int))),(12,(zi (k5:Int))),(38,(.bool kN))]/\aO cs' [ah ae ag,bW ax ai,aX k1 32 (zg [bM.v,(zi aj.Age)]),dM bM aj.Entries]) ?_ ?_
 · replace hF:=aaV
   refine bX ?_
   refine dO rfl .no .h (fun ha hp=>fP awg.h qz.h.sz rfl (EN ha (.tmp rfl rfl) rfl) hp.2 rfl) ?_
   refine bnd hF fun r32 wm hF=>fu (ane wm) (fun _=>?_)
   refine bX ?_
   rcases bD (!r32)with Tj|Tj
   · rw[Tj]
     try rw[Tj]at hF; dsimp only[aJ,aI]at hF
     exact eD hF
   rw[Tj]
   try rw[Tj]at hF; dsimp only[aJ,aI]at hF
   refine dD ?_
   rcases bD (decide ((0:Int)<(k5:Int)))with ry|ry
   · rw[ry]
     try rw[ry]at hF; dsimp only[aJ,aI]at hF
     refine nZ ?_
     refine zI hF fun xD aw4 uh hF=>?_
     refine Di uh (fun xE j42=>?_)
     refine du ?_
     refine jR (Pw xD) Vo (fun p43=>?_)
     refine du ?_
     refine dO rfl (.on 25 rfl rfl rfl) .q2 (fun ha hp=>j_ (s:=2) (l:=[(zi x7.Access.Method),p28.1.v]) vY.h ky.h.sz (EN ha (.tmp rfl rfl) rfl) hp.2 rfl (by decide) (Nat.le_of_ble_eq_true rfl) rfl) ?_
     refine bnd hF fun jS wu hF=>fu (aly wu) (fun _=>?_)
     exact eD hF
   rw[ry]
   try rw[ry]at hF; dsimp only[aJ,aI]at hF
   exact eD hF
 rintro _ _ ⟨kN,g50,rfl,rfl,hE⟩
 replace hF:=acC
 try dsimp only at hF
 refine bu hE ?_
 refine Ci hF (fun ayx hF=>?_) (fun ayx hF=>?_)
 · exact ze hF
 refine aZ ?_
 rw[wk k5]
 exact⟨_,bY _,_,k5+1,eQ,rfl,aA,j5,ay,hF⟩
def Og(aB:Access)(ak:aY):Option (Bool):=
 (LF ak.Schema ak.Methods aB).bind fun r2=>
 some (!r2)
theorem alM{aB:Access}{aP:Sv}{bT:Nat}{ak:aY}{gm dW jw jy jo jA jB jr:Sv}{R:Bool}(hF:Og aB ak=some R):
   Fw.Spec Tryz.prog 58 [(zg [(zi aB.Method),aP.v]),(pz bT)] [ah aP aB.Values,aX bT 36 (zg [gm.v,dW.v,jw.v,jy.v,(zi ak.Source.Version),jo.v,(zi ak.Cache.Age),(zi ak.Now),jA.v,jB.v,(zi ak.Spent),jr.v]),ah gm ak.Schema,bW dW ak.Methods,fq jw ak.Rules,bH jy ak.Source.Facts,dM jo ak.Cache.Entries,eH jA ak.Log,ah jB ak.Times,bB (aD 152 (aD 24 (aD 3 az))) jr.v ak.Results] (fun _:Unit=>(.bool R)) (fun _=>[]):=by
 refine Se 11 Tryz.func58 [.tmp 3] ?_
 intro H0 F0
 unfold Og at hF
 refine au ?_
 refine bP (fun k1=>?_)
 refine dN ?_
 refine bnd hF fun r2 hx3 hF=>bC (afo hx3) (fun _=>?_)
 exact ze hF
def KG(ak:aY):List Access->Nat->Option (Int)
 |[],k4=>some (-1)
 |x6::aM,k4=>(Og x6 ak).bind fun r16=>
   if r16 then (
     some (k4:Int))
   else (
     KG ak aM (k4+1))
def Uq(ag:List Access)(ak:aY):Option (Int):=
 KG ak ag 0
theorem akS{ag:List Access}{ae:Sv}{bT:Nat}{ak:aY}{gm dW jw jy jo jA jB jr:Sv}{R:Int}(hF:Uq ag ak=some R):
   Fw.Spec Tryz.prog 80 [ae.v,(.func (.func 58) [].toArray [(pz bT)].toArray)] [eH ae ag,aX bT 36 (zg [gm.v,dW.v,jw.v,jy.v,(zi ak.Source.Version),jo.v,(zi ak.Cache.Age),(zi ak.Now),jA.v,jB.v,(zi ak.Spent),jr.v]),ah gm ak.Schema,bW dW ak.Methods,fq jw ak.Rules,bH jy ak.Source.Facts,dM jo ak.Cache.Entries,eH jA ak.Log,ah jB ak.Times,bB (aD 152 (aD 24 (aD 3 az))) jr.v ak.Results] (fun _:Unit=>(zi R)) (fun _=>[]):=by
 refine Se 19 Tryz.func80 [.tmp 4] ?_
 intro H0 F0
 unfold Uq at hF
 refine gF ?_
 refine bn (bU (m:=ag.length) (fun m2 f' cs'=>∃(g:Fr)(k4:Nat)(aM:List Access),m2=aM.length/\f'=aQ g [(0,ae.v),(1,(.func (.func 58) [].toArray [(pz bT)].toArray)),(7,(zi (ag.length:Int))),(8,(zi (k4:Int)))]/\List.drop k4 ag=aM/\aO cs' [eH ae ag,aX bT 36 (zg [gm.v,dW.v,jw.v,jy.v,(zi ak.Source.Version),jo.v,(zi ak.Cache.Age),(zi ak.Now),jA.v,jB.v,(zi ak.Spent),jr.v]),ah gm ak.Schema,bW dW ak.Methods,fq jw ak.Rules,bH jy ak.Source.Facts,dM jo ak.Cache.Entries,eH jA ak.Log,ah jB ak.Times,bB (aD 152 (aD 24 (aD 3 az))) jr.v ak.Results]/\KG ak aM k4=some R) ⟨_,0,_,rfl,aA,rfl,ay,hF⟩ ?_)
 rintro m2 _ _ ⟨g3,k4,aM,rfl,rfl,hd7,hE,hF⟩
 refine Kb hE ag (fun kY=>?_)
 rcases aM with _|⟨x6,aM⟩
 · have gH:=dn hd7
   rw[KG]at hF
   refine bi ?_
   refine dL ?_
   exact ze hF
 obtain⟨gH,bZ,gG⟩:=dA hd7
 rw[KG]at hF
 refine bi ?_
 refine dK ?_
 refine kF ?_
 refine Ai bZ (fun k13 oK=>?_)
 refine ni (xR x6) zu (fun nA=>?_)
 refine bnd hF fun r16 jO hF=>l9 (.rd .h rfl (.rd .q3 rfl (.rd .q4 rfl (.rd .q5 rfl (.rd .q6 rfl (.rd .q7 rfl (.rd .q8 rfl (.rd .q9 rfl (.rd .q10 rfl (.rd .q11 rfl .nil)))))))))) (qL awE.h (.tmp rfl rfl) cu (alM jO)) (fun _=>?_)
 refine au ?_
 refine Ci hF (fun nK hF=>?_) (fun nK hF=>?_)
 · exact ze hF
 refine aZ ?_
 rw[wk k4]
 exact⟨_,bY _,_,k4+1,aM,rfl,aA,gG,ay,hF⟩
def NJ(ag:List Access)(ak:aY):Option (Bool):=
 (Uq ag ak).bind fun r1=>
 some (decide ((0:Int)<=r1))
theorem akI{ag:List Access}{ae:Sv}{bT:Nat}{ak:aY}{gm dW jw jy jo jA jB jr:Sv}{R:Bool}(hF:NJ ag ak=some R):
   Fw.Spec Tryz.prog 36 [ae.v,(.func (.func 58) [].toArray [(pz bT)].toArray)] [eH ae ag,aX bT 36 (zg [gm.v,dW.v,jw.v,jy.v,(zi ak.Source.Version),jo.v,(zi ak.Cache.Age),(zi ak.Now),jA.v,jB.v,(zi ak.Spent),jr.v]),ah gm ak.Schema,bW dW ak.Methods,fq jw ak.Rules,bH jy ak.Source.Facts,dM jo ak.Cache.Entries,eH jA ak.Log,ah jB ak.Times,bB (aD 152 (aD 24 (aD 3 az))) jr.v ak.Results] (fun _:Unit=>(.bool R)) (fun _=>[]):=by
 refine Se 9 Tryz.func36 [.tmp 4] ?_
 intro H0 F0
 unfold NJ at hF
 refine bE ?_
 refine bnd hF fun r1 hx2 hF=>bC (akS hx2) (fun _=>?_)
 exact ze hF
def Oh(aS:Int)(qh:Int):Option (Bool):=
 ((Ec aS).bind fun r3=>
   bif r3 then ((Ec qh).bind fun r7=>
     bif (!r7)then (some true)
     else (some (decide ((aS:Int)<qh))))
   else (some (decide ((aS:Int)<qh)))).bind fun o1=>
 match o1 with
 |c11=>some c11
theorem alN{aS qh:Int}{R:Bool}(hF:Oh aS qh=some R):
   Fw.Spec Tryz.prog 151 [(zi aS),(zi qh)] [] (fun _:Unit=>(.bool R)) (fun _=>[]):=by
 refine Se 17 Tryz.func151 [.tmp 4] ?_
 intro H0 F0
 unfold Oh at hF
 refine bv ?_
 obtain⟨o1,yP,hO2⟩:=bind_some hF
 refine au ?_
 refine fe (fun f' cs'=>∃(c11:Bool)(g:Fr),c11=o1/\f'=aQ g [(4,(.bool c11))]/\aO cs' []) ?_ ?_
 · replace hF:=yP
   refine au ?_
   refine bnd hF fun r3 hx4 hF=>bC (UG hx4) (fun _=>?_)
   refine au ?_
   rcases bD r3 with kv|kv
   · rw[kv]
     try rw[kv]at hF; dsimp only[aJ,aI]at hF
     refine bv ?_
     refine bnd hF fun r7 uD hF=>bC (UG uD) (fun _=>?_)
     refine bi ?_
     rcases bD (!r7)with ru|ru
     · rw[ru]
       try rw[ru]at hF; dsimp only[aJ,aI]at hF
       exact bK hF
     rw[ru]
     try rw[ru]at hF; dsimp only[aJ,aI]at hF
     exact bK hF
   rw[kv]
   try rw[kv]at hF; dsimp only[aJ,aI]at hF
   exact bK hF
 rintro _ _ ⟨c11,g12,rfl,rfl,hE⟩
 replace hF:=hO2
 try dsimp only at hF
 refine bu hE ?_
 exact ze hF
def DT(aS:List Int):Nat->Int->Option (Bool)
 |0,_=>none
 |m2+1,c1=>if (decide ((0:Int)<c1))then (
     (ix aS c1).bind fun eY=>
     (ix aS (IntKind.i64.wrap (c1-1))).bind fun oh=>
     (Oh eY oh).bind fun lh=>
     if lh then (
       some false)
     else (
       DT aS m2 (IntKind.i64.wrap (c1-1))))
   else (
     some true)
def NW(aS:List Int):Option (Bool):=
 DT aS (((IntKind.i64.wrap ((aS.length:Int)-1))-0).toNat+2) (IntKind.i64.wrap ((aS.length:Int)-1))
theorem alo{aS:List Int}{ae:Sv}{R:Bool}(hF:NW aS=some R):
   Fw.Spec Tryz.prog 115 [ae.v] [ah ae aS] (fun _:Unit=>(.bool R)) (fun _=>[]):=by
 refine Se 21 Tryz.func115 [.tmp 2] ?_
 intro H0 F0
 unfold NW at hF
 refine kF ?_
 refine bn (bU (m:=(((IntKind.i64.wrap ((aS.length:Int)-1))-0).toNat+2)) (fun m2 f' cs'=>∃(g:Fr)(c1:Int),f'=aQ g [(0,ae.v),(3,(zi c1))]/\aO cs' [ah ae aS]/\DT aS m2 c1=some R) ⟨_,_,aA,ay,hF⟩ ?_)
 rintro m2 _ _ ⟨g3,c1,rfl,hE,hF⟩
 refine bu hE ?_
 rcases m2 with _|m2
 · rw[DT]at hF
   exact absurd hF (by simp)
 rw[DT]at hF
 refine aZ ?_
 refine Ci hF (fun Df hF=>?_) (fun Df hF=>?_)
 · refine aU ?_
   refine dV [0,1,2,3,4,5,6,7,8,9] [0,0,3,7,0,0,32,112,240,511] [9] mixed (by decide+kernel) ?_
   refine bX ?_
   refine zI hF fun eY aEo iJ hF=>?_
   refine Di iJ (fun k14 TL=>?_)
   refine Dl dP ?_
   refine dD ?_
   refine zI hF fun oh M9 kR hF=>?_
   refine Di kR (fun k20 DF=>?_)
   refine Dl dP ?_
   refine bnd hF fun lh uf hF=>fu (alN uf) (fun _=>?_)
   refine du ?_
   refine Ci hF (fun ac5 hF=>?_) (fun ac5 hF=>?_)
   · exact ze hF
   refine bE ?_
   exact⟨m2,bY _,_,_,aA,ay,hF⟩
 exact ze hF
def U8(iQ:Int):Option (Bool):=
 (Mm iQ).bind fun r1=>
 some (!r1)
theorem ami{iQ:Int}{R:Bool}(hF:U8 iQ=some R):
   Fw.Spec Tryz.prog 116 [(zi iQ)] [] (fun _:Unit=>(.bool R)) (fun _=>[]):=by
 refine Se 6 Tryz.func116 [.tmp 2] ?_
 intro H0 F0
 unfold U8 at hF
 refine aZ ?_
 refine bnd hF fun r1 hx2 hF=>bC (Zp hx2) (fun _=>?_)
 exact ze hF
def KT:List Int->Nat->Option (Int)
 |[],k4=>some (-1)
 |x6::aM,k4=>(U8 x6).bind fun gu=>
   if gu then (
     some (k4:Int))
   else (
     KT aM (k4+1))
def UC(ag:List Int):Option (Int):=
 KT ag 0
theorem alk{ag:List Int}{ae:Sv}{R:Int}(hF:UC ag=some R):
   Fw.Spec Tryz.prog 81 [ae.v,(.func (.func 116) [].toArray [].toArray)] [ah ae ag] (fun _:Unit=>(zi R)) (fun _=>[]):=by
 refine Se 19 Tryz.func81 [.tmp 4] ?_
 intro H0 F0
 unfold UC at hF
 refine gF ?_
 refine bn (bU (m:=ag.length) (fun m2 f' cs'=>∃(g:Fr)(k4:Nat)(aM:List Int),m2=aM.length/\f'=aQ g [(0,ae.v),(1,(.func (.func 116) [].toArray [].toArray)),(7,(zi (ag.length:Int))),(8,(zi (k4:Int)))]/\List.drop k4 ag=aM/\aO cs' [ah ae ag]/\KT aM k4=some R) ⟨_,0,_,rfl,aA,rfl,ay,hF⟩ ?_)
 rintro m2 _ _ ⟨g3,k4,aM,rfl,rfl,hd7,hE,hF⟩
 refine Kb hE ag (fun kY=>?_)
 rcases aM with _|⟨x6,aM⟩
 · have gH:=dn hd7
   rw[KT]at hF
   refine bi ?_
   refine dL ?_
   exact ze hF
 obtain⟨gH,bZ,gG⟩:=dA hd7
 rw[KT]at hF
 refine bi ?_
 refine dK ?_
 refine kF ?_
 refine Ai bZ (fun k13 oK=>?_)
 refine Al dP ?_
 refine bnd hF fun gu hx16 hF=>l9 .nil (qL as0.h (.tmp rfl rfl) cu (ami hx16)) (fun _=>?_)
 refine au ?_
 refine Ci hF (fun wD hF=>?_) (fun wD hF=>?_)
 · exact ze hF
 refine aZ ?_
 rw[wk k4]
 exact⟨_,bY _,_,k4+1,aM,rfl,aA,gG,ay,hF⟩
def NU(ag:List Int):Option (Bool):=
 (UC ag).bind fun r1=>
 some (decide ((0:Int)<=r1))
theorem alc{ag:List Int}{ae:Sv}{R:Bool}(hF:NU ag=some R):
   Fw.Spec Tryz.prog 38 [ae.v,(.func (.func 116) [].toArray [].toArray)] [ah ae ag] (fun _:Unit=>(.bool R)) (fun _=>[]):=by
 refine Se 9 Tryz.func38 [.tmp 4] ?_
 intro H0 F0
 unfold NU at hF
 refine bE ?_
 refine bnd hF fun r1 hx2 hF=>bC (alk hx2) (fun _=>?_)
 exact ze hF
def Pp(ai:List Int):Option (Bool):=
 ((NW ai).bind fun r3=>
   bif r3 then ((NU ai).bind fun r7=>
     some (!r7))
   else (some false)).bind fun o1=>
 match o1 with
 |c10=>some c10
theorem anf{ai:List Int}{ae:Sv}{R:Bool}(hF:Pp ai=some R):
   Fw.Spec Tryz.prog 60 [ae.v] [ah ae ai] (fun _:Unit=>(.bool R)) (fun _=>[]):=by
 refine Se 10 Tryz.func60 [.tmp 2] ?_
 intro H0 F0
 unfold Pp at hF
 refine bv ?_
 obtain⟨o1,yP,hO2⟩:=bind_some hF
 refine au ?_
 refine fe (fun f' cs'=>∃(c10:Bool)(g:Fr),c10=o1/\f'=aQ g [(2,(.bool c10))]/\aO cs' []) ?_ ?_
 · replace hF:=yP
   refine au ?_
   refine bnd hF fun r3 hx4 hF=>bC (alo hx4) (fun _=>?_)
   refine au ?_
   rcases bD r3 with kv|kv
   · rw[kv]
     try rw[kv]at hF; dsimp only[aJ,aI]at hF
     refine bv ?_
     refine bnd hF fun r7 uD hF=>bC (alc uD) (fun _=>?_)
     exact bK hF
   rw[kv]
   try rw[kv]at hF; dsimp only[aJ,aI]at hF
   exact bK hF
 rintro _ _ ⟨c10,g11,rfl,rfl,hE⟩
 replace hF:=hO2
 try dsimp only at hF
 refine bu hE ?_
 exact ze hF
end Go.Proofs.YtfcjmpkenaiomaaGreat
