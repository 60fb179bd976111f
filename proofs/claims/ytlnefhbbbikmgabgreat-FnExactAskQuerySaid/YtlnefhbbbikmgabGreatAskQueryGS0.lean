/-
  Functions of the program as Lean functions, and that the calls return what these say. No conditions.
-/
import Derived.Test.YtlnefhbbbikmgabGreatAskQueryG
set_option maxRecDepth 100000
set_option maxHeartbeats 4000000
set_option linter.unusedVariables false
namespace Go.Proofs.YtlnefhbbbikmgabGreat
open Go Go.Fw
def xk(TQ:Int)(vX:List Int):Option (aj):=
 (app ([]:List Int) vX).bind fun z3=>
 some ({aD:=TQ,Values:=z3}:aj)
instance aKK:I2 171 t1 t0 u6 xk:=⟨by
 intro _ _ _ _ hF
 refine' en Tryz.func171 (xk.eq_1 ..)⟩
def QS:List aj->Nat->(List aj)->Option ((List aj))
 |[],k8,c2=>some c2
 |kS::qA,k8,c2=>(xk kS.aD kS.Values).bind fun mq=>
   (app c2 ([mq]:List aj)).bind fun z26=>
   QS qA (k8+1) z26
def Na(aG:List aj):Option ((List aj)):=
 QS aG 0 ([]:List aj)
instance avi:I1 152 t20 u7 Na:=⟨by
 intro _ _ _ hF
 refine' en Tryz.func152 (Na.eq_1 ..)
 refine' Gb dV []
 refine' ed (q1 3 (tO 164 dV)) 4 [0]<;>rw[QS]at hF<;>refine' go⟩
def R3(aT:Source):Option (Source):=
 (Na aT.Facts).bind fun r3=>
 some ({Facts:=r3,Version:=aT.Version}:Source)
instance auB:I1 72 t21 u8 R3:=⟨by
 intro _ _ _ hF
 have hD:=True.intro
 refine' en Tryz.func72 (R3.eq_1 ..)
 refine' KD [0,1,3,4,2,5,6] [0,1,3,0,8,31,63] [2,6] mixed ?_
 refine' go⟩
def ET(aF:Int)(vX:List Int):Option (ag):=
 (app ([]:List Int) vX).bind fun z3=>
 some ({Method:=aF,Values:=z3}:ag)
instance aj1:I2 28 t1 t0 u9 ET:=⟨by
 intro _ _ _ _ hF
 refine' en Tryz.func28 (ET.eq_1 ..)⟩
def Mt(uQ:aS):Option (aS):=
 (ET uQ.ag.Method uQ.ag.Values).bind fun r3=>
 (Na uQ.Facts).bind fun r6=>
 some ({ag:=r3,Facts:=r6,At:=uQ.At}:aS)
instance atF:I1 153 t22 u10 Mt:=⟨by
 intro uQ _ _ _ hF
 have hD:=True.intro
 refine' en Tryz.func153 (Mt.eq_1 ..)
 refine' KD [0,1,2,3,4,5,7,8,10,11,6,9,12,13] [0,1,3,0,8,24,63,0,128,511,0,1024,4095,8191] [6,9,13] mixed ?_
 refine' go
 rename_i r3 p5 _ p8
 refine' dw rfl .no (fun ha=>iy jl.h rfl (vs:=[(.agg [(.int .i64 r3.Method),p5.1.v].toArray),p8.1.v,(.int .i64 uQ.At)]) (.cons (EN ha (.tmp rfl rfl) rfl) (.cons (EN ha (.tmp rfl rfl) rfl) (.cons (EN ha (.tmp rfl rfl) rfl) .nil))) (cells:=[(.int .i64 r3.Method),p5.1.v,p8.1.v,(.int .i64 uQ.At)]) rfl) ?_
 refine' go⟩
def Qq(bG:Cache):List aS->Nat->(List aS)->Option (Cache)
 |[],Ws,jA=>some ({Entries:=jA,Age:=bG.Age}:Cache)
 |x35::ae7,Ws,jA=>(Mt x35).bind fun zG=>
   (app jA ([zG]:List aS)).bind fun z50=>
   Qq bG ae7 (Ws+1) z50
def R4(bG:Cache):Option (Cache):=
 Qq bG bG.Entries 0 ([]:List aS)
instance akd:I1 73 t23 u12 R4:=⟨by
 intro bG _ _ hF
 refine' en Tryz.func73 (R4.eq_1 ..)
 refine' aP (iy p_.h rfl (vs:=[(.int .i64 bG.Age)]) (.cons (.tmp rfl rfl) .nil) (cells:=[(.slice none 0 0),(.int .i64 bG.Age)]) rfl) ?_
 refine' go
 rename_i k3
 refine' ed (.mk (β:=(List aS)) (ι:=Sv×List Nat) (fun jA i1=>[]) (fun jA i1=>[aW k3 47 (.agg [i1.1.v,(.int .i64 bG.Age)].toArray),ah (aa 201 g_) i1.2 i1.1.v jA]) [] [pz k3]) 4 [1,2,3]<;>rw[Qq]at hF<;>refine' go⟩
def Rq:List ag->Nat->(List ag)->Option ((List ag))
 |[],k8,c2=>some c2
 |kS::qA,k8,c2=>(ET kS.Method kS.Values).bind fun mq=>
   (app c2 ([mq]:List ag)).bind fun z26=>
   Rq qA (k8+1) z26
def Z5(aG:List ag):Option ((List ag)):=
 Rq aG 0 ([]:List ag)
instance avT:I1 74 t24 u13 Z5:=⟨by
 intro _ _ _ hF
 refine' en Tryz.func74 (Z5.eq_1 ..)
 refine' ed (q1 3 (tO 85 ji)) 4 [0]<;>rw[Rq]at hF<;>refine' go⟩
def PO:List (List Int)->Nat->(List (List Int))->Option ((List (List Int)))
 |[],k8,c2=>some c2
 |kS::qA,k8,c2=>(app ([]:List Int) kS).bind fun z21=>
   (app c2 ([z21]:List (List Int))).bind fun z25=>
   PO qA (k8+1) z25
def QT(aG:List (List Int)):Option ((List (List Int))):=
 PO aG 0 ([]:List (List Int))
instance ajH:I1 29 A8 Kn QT:=⟨by
 intro _ _ _ hF
 refine' en Tryz.func29 (QT.eq_1 ..)
 refine' ed (q1 3 (tO 22 (aa 3 (az ax)))) 4 [0]<;>rw[PO]at hF<;>refine' go⟩
def QU(aT:Method):Option (Method):=
 (app ([]:List Int) aT.bg).bind fun z4=>
 some ({aD:=aT.aD,bg:=z4,Limit:=aT.Limit,bK:=aT.bK,gW:=aT.gW}:Method)
instance as7:I1 75 t2 u2 QU:=⟨by
 intro _ _ _ hF
 have hD:=True.intro
 refine' en Tryz.func75 (QU.eq_1 ..)
 refine' KD [0,1,2,3,4,6,7,8,9,10,11,5,12,13] [0,1,0,0,8,28,0,64,0,256,0,1024,4095,8191] [5,13] mixed ?_
 refine' go⟩
def EL(aF:bU)(z6:List Int)(r9:Source)(gL:Cache)(fu:(List ag))(sS:List Int)(c198:List Method)(xK:List bO):List (List (List Int))->Nat->(List (List (List Int)))->Option (bU)
 |[],DF,JZ=>some (⟨z6,c198,xK,r9,gL,aF.Now,fu,sS,aF.bI,JZ⟩:bU)
 |aqo::BV,DF,JZ=>(QT aqo).bind fun ahf=>
   (app JZ ([ahf]:List (List (List Int)))).bind fun aqp=>
   EL aF z6 r9 gL fu sS c198 xK BV (DF+1) aqp
def EM(aF:bU)(z6:List Int)(r9:Source)(gL:Cache)(fu:(List ag))(sS:List Int)(c198:List Method):List bO->Nat->(List bO)->Option (bU)
 |[],DI,xK=>EL aF z6 r9 gL fu sS c198 xK aF.bX 0 ([]:List (List (List Int)))
 |vN::BX,DI,xK=>(app ([]:List Int) vN.Map).bind fun abA=>
   (app xK ([(⟨vN.From,vN.To,abA⟩:bO)]:List bO)).bind fun aqr=>
   EM aF z6 r9 gL fu sS c198 BX (DI+1) aqr
def HV(aF:bU)(z6:List Int)(r9:Source)(gL:Cache)(fu:(List ag))(sS:List Int):List Method->Nat->(List Method)->Option (bU)
 |[],xL,c198=>EM aF z6 r9 gL fu sS c198 aF.bV 0 ([]:List bO)
 |ahg::BZ,xL,c198=>(QU ahg).bind fun yZ=>
   (app c198 ([yZ]:List Method)).bind fun aqs=>
   HV aF z6 r9 gL fu sS BZ (xL+1) aqs
def MQ(aF:bU):Option (bU):=
 (app ([]:List Int) aF.bA).bind fun z6=>
 (R3 aF.Source).bind fun r9=>
 (R4 aF.Cache).bind fun gL=>
 (Z5 aF.bD).bind fun fu=>
 (app ([]:List Int) aF.dh).bind fun sS=>
 HV aF z6 r9 gL fu sS aF.Methods 0 ([]:List Method)
theorem atG{aF:bU}{aA bB eG f_ iL jq jr iX:Sv}{R:bU}(hF:MQ aF=some R):
   Fw.Spec Tryz.prog 23 [(zg [aA.v,bB.v,eG.v,f_.v,(zi aF.Source.Version),iL.v,(zi aF.Cache.Age),(zi aF.Now),jq.v,jr.v,(zi aF.bI),iX.v])] [bi aA aF.bA,dY bB aF.Methods,wu eG aF.bV,iK f_ aF.Source.Facts,ku iL aF.Cache.Entries,sN jq aF.bD,bi jr aF.dh,aI (ak 79 (ak 22 (ak 3 ax))) iX.v aF.bX] (fun p:Sv×List Nat×Sv×List Nat×Sv×List Nat×Sv×List Nat×Sv×List Nat×Sv×List Nat×Sv×List Nat×Sv×List Nat=>(zg [p.1.v,p.2.2.1.v,p.2.2.2.2.1.v,p.2.2.2.2.2.2.1.v,(zi R.Source.Version),p.2.2.2.2.2.2.2.2.1.v,(zi R.Cache.Age),(zi R.Now),p.2.2.2.2.2.2.2.2.2.2.1.v,p.2.2.2.2.2.2.2.2.2.2.2.2.1.v,(zi R.bI),p.2.2.2.2.2.2.2.2.2.2.2.2.2.2.1.v])) (fun p=>[dW p.2.1 p.1 R.bA,qz p.2.2.2.1 p.2.2.1 R.Methods,qY p.2.2.2.2.2.1 p.2.2.2.2.1 R.bV,ik p.2.2.2.2.2.2.2.1 p.2.2.2.2.2.2.1 R.Source.Facts,jK p.2.2.2.2.2.2.2.2.2.1 p.2.2.2.2.2.2.2.2.1 R.Cache.Entries,oL p.2.2.2.2.2.2.2.2.2.2.2.1 p.2.2.2.2.2.2.2.2.2.2.1 R.bD,dW p.2.2.2.2.2.2.2.2.2.2.2.2.2.1 p.2.2.2.2.2.2.2.2.2.2.2.2.1 R.dh,ah (aa 79 (aa 22 (aa 3 (az ax)))) p.2.2.2.2.2.2.2.2.2.2.2.2.2.2.2 p.2.2.2.2.2.2.2.2.2.2.2.2.2.2.1.v R.bX]):=by
 refine Se 103 Tryz.func23 [.cell 2 50] ?_
 intro H0 F0
 unfold MQ at hF
 refine au ?_
 refine j6 (fun k1=>?_)
 refine gI (fun k2=>?_)
 refine au ?_
 refine iQ [0,1,2,4,5,7,8,10,11,12,13,15,16,17,19,20,22,3,6,9,14,18,21,23] [0,0,2,7,0,16,63,0,128,511,0,1024,0,4096,13311,0,0,65536,259071,0,524288,2097151,0,8388607] [3,6,9,14,18,23] mixed (by decide+kernel) ?_
 refine jw rfl .no rfl (fun ha=>gq (g:=true) (len:=0) (parts:=[]) jO.h gP.h .nil (vs:=[]) rfl rfl rfl (by simp)) (fun k3=>?_)
 refine lQ (.cons .h .nil) (gu (Ro:=(az ax)) (E:=3) (F:=[]) (xs:=([]:List Int)) fU rfl rfl) ?_
 refine pu ?_
 refine Ar rfl .no .q2 rfl (fun ha hp=>pO (s:=2) (l:=[f_.v,(zi aF.Source.Version)]) ap7.h ap6.h.sz (EN ha (.tmp rfl rfl) rfl) hp.2 rfl (by decide) (aQS rfl) rfl) ?_
 refine du ?_
 refine Ar rfl .no .q2 rfl (fun ha hp=>pO (s:=2) (l:=[iL.v,(zi aF.Cache.Age)]) wD.h p_.h.sz (EN ha (.tmp rfl rfl) rfl) hp.2 rfl (by decide) (aQS rfl) rfl) ?_
 refine Az ?_
 refine jw rfl .no rfl (fun ha=>gq (g:=true) (len:=0) (parts:=[]) jO.h gP.h .nil (vs:=[]) rfl rfl rfl (by simp)) (fun k4=>?_)
 refine lQ (.cons .h .nil) (gu (Ro:=(az ax)) (E:=3) (F:=[]) (xs:=([]:List Int)) fU rfl rfl) ?_
 refine Az ?_
 refine jw rfl .no rfl (fun ha=>vW (g:=true) qE.h rfl rfl) (fun k5=>?_)
 refine bnd hF fun z6 hx7 hF=>dx rfl rfl .no (.cons .q2 (.rd .q4 rfl .nil)) (.own .h (fun _ h=>h) (.own (.t .h) (by simp[ah]) (.aV rfl .nil))) (fun ha=>iU (Ro:=(az ax)) jO.h yT gP.h rfl rfl rfl (EN ha (.tmp rfl rfl) rfl) (EN ha (.tmp rfl rfl) rfl) hx7 zX) (fun p8=>?_)
 refine bnd hF fun r9 DJ hF=>dx rfl rfl .no (.rd .q8 rfl .nil) (.own (.t .h) (fun _ h=>h) (.own .q2 (by simp[ah]) (.aV rfl .nil))) (fun ha=>cK aGc.h (.cons (EN ha (.tmp rfl rfl) rfl) .nil) (auB.h DJ)) (fun gm=>?_)
 refine bnd hF fun gL U8 hF=>dx rfl rfl .no (.rd .q10 rfl .nil) (.own .q2 (fun _ h=>h) (.own .q3 (by simp[ah]) (.aV rfl .nil))) (fun ha=>cK aGd.h (.cons (EN ha (.tmp rfl rfl) rfl) .nil) (akd.h U8)) (fun oP=>?_)
 refine bnd hF fun fu hx16 hF=>dx rfl rfl .no (.rd .q12 rfl .nil) (.own .q3 (fun _ h=>h) (.own .q4 (by simp[ah]) (.aV rfl .nil))) (fun ha=>cK aGe.h (.cons (EN ha (.tmp rfl rfl) rfl) .nil) (avT.h hx16)) (fun oQ=>?_)
 refine bnd hF fun sS U9 hF=>dx rfl rfl .no (.cons .q5 (.rd .q13 rfl .nil)) (.own .q4 (fun _ h=>h) (.aV rfl (.aV rfl .nil))) (fun ha=>iU (Ro:=(az ax)) jO.h yT gP.h rfl rfl rfl (EN ha (.tmp rfl rfl) rfl) (EN ha (.tmp rfl rfl) rfl) U9 zX) (fun nU=>?_)
 refine dw rfl .no (fun ha=>iy qE.h rfl (vs:=[p8.1.v,(zg [gm.1.v,(zi r9.Version)]),(zg [oP.1.v,(zi gL.Age)]),(zi aF.Now),oQ.1.v,nU.1.v,(zi aF.bI)]) (.cons (EN ha (.tmp rfl rfl) rfl) (.cons (EN ha (.tmp rfl rfl) rfl) (.cons (EN ha (.tmp rfl rfl) rfl) (.cons (EN ha (.tmp rfl rfl) rfl) (.cons (EN ha (.tmp rfl rfl) rfl) (.cons (EN ha (.tmp rfl rfl) rfl) (.cons (EN ha (.tmp rfl rfl) rfl) .nil))))))) (cells:=[p8.1.v,(.slice none 0 0),(.slice none 0 0),gm.1.v,(zi r9.Version),oP.1.v,(zi gL.Age),(zi aF.Now),oQ.1.v,nU.1.v,(zi aF.bI),(.slice none 0 0)]) (by kernel_rfl)) ?_
 refine dx rfl rfl .no (.cons .q5 .nil) (.aV rfl (.aV rfl (.aV rfl .nil))) (fun ha=>iO (e':=(zg [p8.1.v,(.slice none 0 0),(.slice none 0 0),gm.1.v,(zi r9.Version),oP.1.v,(zi gL.Age),(zi aF.Now),oQ.1.v,nU.1.v,(zi aF.bI),(.slice none 0 0)])) (v:=(zg [p8.1.v,(.slice none 0 0),(.slice none 0 0),gm.1.v,(zi r9.Version),oP.1.v,(zi gL.Age),(zi aF.Now),oQ.1.v,nU.1.v,(zi aF.bI),(.slice none 0 0)])) qE.h.sz (EN ha (.tmp rfl rfl) rfl) (EN ha (.tmp rfl rfl) rfl) rfl rfl rfl rfl rfl) (fun _=>?_)
 refine du ?_
 refine dO ?_
 refine gU (kI (m:=aF.Methods.length) (fun aqt f' cs'=>∃(g:Fr)(xL:Nat)(BZ c198:List Method)(y5:Sv)(U_:List Nat),aqt=BZ.length/\f'=dm g [(1,(pz k1)),(2,(pz k2)),(3,(pz k5)),(4,(zi (xL:Int)))]/\List.drop xL aF.Methods=BZ/\bL cs' [bC k1 50 (zg [aA.v,bB.v,eG.v,f_.v,(zi aF.Source.Version),iL.v,(zi aF.Cache.Age),(zi aF.Now),jq.v,jr.v,(zi aF.bI),iX.v]),bi aA aF.bA,dY bB aF.Methods,wu eG aF.bV,iK f_ aF.Source.Facts,ku iL aF.Cache.Entries,sN jq aF.bD,bi jr aF.dh,aI (ak 79 (ak 22 (ak 3 ax))) iX.v aF.bX,aW k2 50 (.agg ([(.slice none 0 0),(.slice none 0 0),(.slice none 0 0),(.slice none 0 0),(zi 0),(.slice none 0 0),(zi 0),(zi 0),(.slice none 0 0),(.slice none 0 0),(zi 0),(.slice none 0 0)]:List Value).toArray),aW k5 50 (zg [p8.1.v,y5.v,(.slice none 0 0),gm.1.v,(zi r9.Version),oP.1.v,(zi gL.Age),(zi aF.Now),oQ.1.v,nU.1.v,(zi aF.bI),(.slice none 0 0)]),dW p8.2 p8.1 z6,qz U_ y5 c198,ik gm.2 gm.1 r9.Facts,jK oP.2 oP.1 gL.Entries,oL oQ.2 oQ.1 fu,dW nU.2 nU.1 sS]/\HV aF z6 r9 gL fu sS BZ xL c198=some R) ⟨_,0,_,_,⟨none,0,0⟩,[],rfl,df,rfl,(.conv .nil (jJ (Ro:=iT) (E:=127)) (.cons .nil) bT),hF⟩ ?_)
 rintro aqt _ _ ⟨aPj,xL,BZ,c198,y5,U_,rfl,rfl,aoL,hE,hF⟩
 refine Kb hE aF.Methods (fun aMm=>?_)
 rcases BZ with _|⟨ahg,BZ⟩
 · have aDe:=dn aoL
   rw[HV]at hF
   refine kP ?_
   refine mQ ?_
   refine kP ?_
   refine gU (kI (m:=aF.bV.length) (fun aqu f' cs'=>∃(g:Fr)(DI:Nat)(BX xK:List bO)(DK:Sv)(abB:List Nat),aqu=BX.length/\f'=dm g [(1,(pz k1)),(2,(pz k2)),(3,(pz k5)),(6,(zi (DI:Int)))]/\List.drop DI aF.bV=BX/\bL cs' [bC k1 50 (zg [aA.v,bB.v,eG.v,f_.v,(zi aF.Source.Version),iL.v,(zi aF.Cache.Age),(zi aF.Now),jq.v,jr.v,(zi aF.bI),iX.v]),bi aA aF.bA,dY bB aF.Methods,wu eG aF.bV,iK f_ aF.Source.Facts,ku iL aF.Cache.Entries,sN jq aF.bD,bi jr aF.dh,aI (ak 79 (ak 22 (ak 3 ax))) iX.v aF.bX,aW k2 50 (.agg ([(.slice none 0 0),(.slice none 0 0),(.slice none 0 0),(.slice none 0 0),(zi 0),(.slice none 0 0),(zi 0),(zi 0),(.slice none 0 0),(.slice none 0 0),(zi 0),(.slice none 0 0)]:List Value).toArray),aW k5 50 (zg [p8.1.v,y5.v,DK.v,gm.1.v,(zi r9.Version),oP.1.v,(zi gL.Age),(zi aF.Now),oQ.1.v,nU.1.v,(zi aF.bI),(.slice none 0 0)]),dW p8.2 p8.1 z6,qz U_ y5 c198,qY abB DK xK,ik gm.2 gm.1 r9.Facts,jK oP.2 oP.1 gL.Entries,oL oQ.2 oQ.1 fu,dW nU.2 nU.1 sS]/\EM aF z6 r9 gL fu sS c198 BX DI xK=some R) ⟨_,0,_,_,⟨none,0,0⟩,[],rfl,df,rfl,(.conv .nil (jJ (Ro:=jX) (E:=129)) (.cons .nil) bT),hF⟩ ?_)
   rintro aqu _ _ ⟨aPk,DI,BX,xK,DK,abB,rfl,rfl,aoM,hE,hF⟩
   refine Kb hE aF.bV (fun aMn=>?_)
   rcases BX with _|⟨vN,BX⟩
   · have aDf:=dn aoM
     rw[EM]at hF
     refine kP ?_
     refine mQ ?_
     refine kP ?_
     refine gU (kI (m:=aF.bX.length) (fun aqv f' cs'=>∃(g:Fr)(DF:Nat)(BV JZ:List (List (List Int)))(Va:Sv)(ahh:List Nat),aqv=BV.length/\f'=dm g [(1,(pz k1)),(2,(pz k2)),(3,(pz k5)),(7,(zi (DF:Int)))]/\List.drop DF aF.bX=BV/\bL cs' [bC k1 50 (zg [aA.v,bB.v,eG.v,f_.v,(zi aF.Source.Version),iL.v,(zi aF.Cache.Age),(zi aF.Now),jq.v,jr.v,(zi aF.bI),iX.v]),bi aA aF.bA,dY bB aF.Methods,wu eG aF.bV,iK f_ aF.Source.Facts,ku iL aF.Cache.Entries,sN jq aF.bD,bi jr aF.dh,aI (ak 79 (ak 22 (ak 3 ax))) iX.v aF.bX,aW k2 50 (.agg ([(.slice none 0 0),(.slice none 0 0),(.slice none 0 0),(.slice none 0 0),(zi 0),(.slice none 0 0),(zi 0),(zi 0),(.slice none 0 0),(.slice none 0 0),(zi 0),(.slice none 0 0)]:List Value).toArray),aW k5 50 (zg [p8.1.v,y5.v,DK.v,gm.1.v,(zi r9.Version),oP.1.v,(zi gL.Age),(zi aF.Now),oQ.1.v,nU.1.v,(zi aF.bI),Va.v]),dW p8.2 p8.1 z6,qz U_ y5 c198,qY abB DK xK,ik gm.2 gm.1 r9.Facts,jK oP.2 oP.1 gL.Entries,oL oQ.2 oQ.1 fu,dW nU.2 nU.1 sS,ah (aa 79 (aa 22 (aa 3 (az ax)))) ahh Va.v JZ]/\EL aF z6 r9 gL fu sS c198 xK BV DF JZ=some R) ⟨_,0,_,_,⟨none,0,0⟩,[],rfl,df,rfl,(.conv .nil (jJ (Ro:=(aa 22 (aa 3 (az ax)))) (E:=79)) (.cons .nil) bT),hF⟩ ?_)
     rintro aqv _ _ ⟨aPl,DF,BV,JZ,Va,ahh,rfl,rfl,aoN,hE,hF⟩
     refine Kb hE aF.bX (fun aMo=>?_)
     rcases BV with _|⟨aqo,BV⟩
     · have aDg:=dn aoN
       rw[EL]at hF
       refine kP ?_
       refine mQ ?_
       refine lN ?_
       refine As (zg [p8.1.v,y5.v,DK.v,gm.1.v,(zi r9.Version),oP.1.v,(zi gL.Age),(zi aF.Now),oQ.1.v,nU.1.v,(zi aF.bI),Va.v]) ?_
       refine eu ?_
       cases hF
       exact Er (p8.1,p8.2,y5,U_,DK,abB,gm.1,gm.2,oP.1,oP.2,oQ.1,oQ.2,nU.1,nU.2,Va,ahh)
     obtain⟨aDg,aDh,aDi⟩:=kH aoN
     rw[EL]at hF
     refine kP ?_
     refine mP ?_
     refine lN ?_
     refine Ai aDh (fun aPm aPn=>?_)
     refine Tz (R':=(ak 22 (ak 3 ax))) abp.h (.tmp rfl rfl) .h ae4 (fun aPo=>?_)
     refine bnd hF fun ahf aDj hF=>qM (ajH.h aDj) (fun aqw=>?_)
     refine lN ?_
     refine lJ rfl (gq (g:=true) Aw.h xG.h fG (vs:=[aqw.1.v]) rfl rfl rfl (by intro v hv; simp at hv; rcases hv with rfl<;>rfl)) (fun aPp=>?_)
     refine mo (.cons .h (.cons .h .nil)) (gu (Ro:=(aa 22 (aa 3 (az ax)))) (E:=79) (F:=(aqw.2++[])) (xs:=([ahf]:List (List (List Int)))) (iV yA fU dS) rfl rfl) ?_
     refine bnd hF fun aqp aDk hF=>iZ (.cons (.t (.t (.t (.t (.t (.t (.t (.t (.t (.t (.t (.t (.t (.t (.t (.t (.t (.t (.t (.t (.t .h))))))))))))))))))))) (.cons .h .nil)) (iU (Ro:=(aa 22 (aa 3 (az ax)))) Aw.h UW xG.h rfl rfl rfl (.tmp rfl rfl) (.tmp rfl rfl) aDk kJ) (fun J2=>?_)
     refine au ?_
     refine As (zg [p8.1.v,y5.v,DK.v,gm.1.v,(zi r9.Version),oP.1.v,(zi gL.Age),(zi aF.Now),oQ.1.v,nU.1.v,(zi aF.bI),J2.1.v]) ?_
     refine lN ?_
     rw[wk DF]
     exact⟨_,lT _,_,DF+1,BV,_,J2.1,J2.2,rfl,df,aDi,bT,hF⟩
   obtain⟨aDf,afW,aDl⟩:=kH aoM
   rw[EM]at hF
   refine kP ?_
   refine mP ?_
   refine eu ?_
   refine qP [0,1,2,3,4,5,6,7,8,9,10,11,12,13,14,15,16,17,18,19,20,21,22,23,24,25,26] [0,1,0,4,0,28,60,124,0,256,0,1792,3840,7936,0,0,32768,0,229376,491520,1015808,2080768,4194300,8388604,16777215,33554431,67108863] [21,24,26] mixed (by decide+kernel) ?_
   refine du ?_
   refine dF rfl .no .q10 (fun ha hp=>gy (v:=DK.v) ap'.h (EN ha (.tmp rfl rfl) rfl) hp.2 rfl rfl) ?_
   refine pu ?_
   refine Di afW (fun aPq aPr=>?_)
   refine du ?_
   refine Dl amV ?_
   refine pu ?_
   refine Di afW (fun aGH aPs=>?_)
   refine du ?_
   refine Dl amW ?_
   refine jw rfl .no rfl (fun ha=>gq (g:=true) (len:=0) (parts:=[]) jO.h gP.h .nil (vs:=[]) rfl rfl rfl (by simp)) (fun aPt=>?_)
   refine lQ (.cons .h .nil) (gu (Ro:=(az ax)) (E:=3) (F:=[]) (xs:=([]:List Int)) fU rfl rfl) ?_
   refine pu ?_
   refine Di afW (fun aPu aPv=>?_)
   refine du ?_
   refine afh (R':=(ak 3 ax)) ry.h rfl .no (.tmp rfl rfl) rfl .h amX (fun aPw=>?_)
   refine bnd hF fun abA aDm hF=>dx rfl rfl .no (.cons .q2 (.rd .h rfl .nil)) (.aV rfl (.own .q14 (fun _ h=>h) .nil)) (fun ha=>iU (Ro:=(az ax)) jO.h yT gP.h rfl rfl rfl (EN ha (.tmp rfl rfl) rfl) (EN ha (.tmp rfl rfl) rfl) aDm zX) (fun abC=>?_)
   refine dw rfl .no (fun ha=>iy yL.h rfl (vs:=[(zi vN.From),(zi vN.To),abC.1.v]) (.cons (EN ha (.tmp rfl rfl) rfl) (.cons (EN ha (.tmp rfl rfl) rfl) (.cons (EN ha (.tmp rfl rfl) rfl) .nil))) (cells:=[(zi vN.From),(zi vN.To),abC.1.v]) rfl) ?_
   refine jw rfl .no rfl (fun ha=>gq (g:=true) (len:=1) (parts:=[(0,.tmp 79)]) F9.h yL.h (.cons (EN ha (.tmp rfl rfl) rfl) .nil) (vs:=[(zg [(zi vN.From),(zi vN.To),abC.1.v])]) rfl rfl rfl (by intro v hv; simp at hv; rcases hv with rfl<;>rfl)) (fun aPx=>?_)
   refine lQ (.cons .h (.cons .h .nil)) (gu (Ro:=jX) (E:=129) (F:=(abC.2++[])) (xs:=([(⟨vN.From,vN.To,abA⟩:bO)]:List bO)) (iV (TJ (a:=(⟨vN.From,vN.To,abA⟩:bO))) fU dS) rfl rfl) ?_
   refine bnd hF fun aqr aDn hF=>dx rfl rfl .no (.cons (.t (.t (.t (.t (.t (.t (.t (.t (.t (.t (.t (.t (.t (.t (.t (.t (.t (.t .h)))))))))))))))))) (.cons .h .nil)) (.aV rfl (.aV rfl (.aV rfl .nil))) (fun ha=>iU (Ro:=jX) F9.h agX yL.h rfl rfl rfl (EN ha (.tmp rfl rfl) rfl) (EN ha (.tmp rfl rfl) rfl) aDn kJ) (fun ahi=>?_)
   refine du ?_
   refine dx rfl rfl .no (.cons (.t (.t (.t (.t (.t (.t (.t (.t (.t (.t (.t (.t (.t (.t (.t .h))))))))))))))) .nil) (.aV rfl (.aV rfl (.aV rfl .nil))) (fun ha=>iO (e':=(zg [p8.1.v,y5.v,ahi.1.v,gm.1.v,(zi r9.Version),oP.1.v,(zi gL.Age),(zi aF.Now),oQ.1.v,nU.1.v,(zi aF.bI),(.slice none 0 0)])) ap5.h.sz (EN ha (.tmp rfl rfl) rfl) (EN ha (.tmp rfl rfl) rfl) rfl rfl rfl rfl rfl) (fun _=>?_)
   refine du ?_
   refine fI ?_
   rw[wk DI]
   exact⟨_,lT _,_,DI+1,BX,_,ahi.1,ahi.2,rfl,df,aDl,bT,hF⟩
 obtain⟨aDe,afX,aDo⟩:=kH aoL
 rw[HV]at hF
 refine kP ?_
 refine mP ?_
 refine lN ?_
 refine Ai afX (fun aPy aPz=>?_)
 refine NV (Ie ahg) Ig (fun aPA=>?_)
 refine bnd hF fun yZ TS hF=>qM (as7.h TS) (fun ahj=>?_)
 refine gI (fun aGI=>?_)
 refine As (zg [(zi yZ.aD),ahj.1.v,(zi yZ.Limit),(zi yZ.bK),(zi yZ.gW)]) ?_
 refine fI ?_
 refine lJ rfl (gq (g:=true) yS.h xu.h fG (vs:=[(zg [(zi yZ.aD),ahj.1.v,(zi yZ.Limit),(zi yZ.bK),(zi yZ.gW)])]) rfl rfl rfl (by intro v hv; simp at hv; rcases hv with rfl<;>rfl)) (fun aPB=>?_)
 refine mo (.cons .h (.cons (.t .h) .nil)) (gu (Ro:=iT) (E:=127) (F:=(ahj.2++[])) (xs:=([yZ]:List Method)) (iV aaq fU dS) rfl rfl) ?_
 refine bnd hF fun aqs aDp hF=>iZ (.cons (.t (.t (.t (.t (.t (.t (.t (.t (.t (.t (.t (.t (.t (.t (.t (.t .h)))))))))))))))) (.cons .h .nil)) (iU (Ro:=iT) yS.h aqb xu.h rfl rfl rfl (.tmp rfl rfl) (.tmp rfl rfl) aDp kJ) (fun ahk=>?_)
 refine au ?_
 refine As (zg [p8.1.v,ahk.1.v,(.slice none 0 0),gm.1.v,(zi r9.Version),oP.1.v,(zi gL.Age),(zi aF.Now),oQ.1.v,nU.1.v,(zi aF.bI),(.slice none 0 0)]) ?_
 refine lN ?_
 rw[wk xL]
 exact⟨_,lT _,_,xL+1,BZ,_,ahk.1,ahk.2,rfl,df,aDo,bT,hF⟩
instance auC:I1 23 t25 u16 MQ:=⟨fun h=>atG h⟩
def iR(aT:Int)(Js:Int)(Jf:Int):Option (Bool):=
 some ((decide ((Js:Int)<=aT))&&(decide ((aT:Int)<=Jf)))
instance awG:I3 82 t1 t1 t1 u20 iR:=⟨by
 intro aT Js Jf _ hF
 refine' en Tryz.func82 (iR.eq_1 ..)
 refine' zA [(6,(.bool ((decide ((Js:Int)<=aT))&&(decide ((aT:Int)<=Jf)))))] [] (fun _=>?_)
 refine' go⟩
def P9(aC:List Int):List Int->Nat->Option (Bool)
 |[],k4=>(iR (aC.length:Int) 1 3).bind fun gQ=>
   some gQ
 |x6::dH,k4=>(iR x6 1 3).bind fun A_=>
   if (!A_)then (
     some false)
   else (
     P9 aC dH (k4+1))
def vU(aC:List Int):Option (Bool):=
 P9 aC aC 0
instance aJx:I1 76 t0 u20 vU:=⟨by
 intro _ _ _ hF
 refine' en Tryz.func76 (vU.eq_1 ..)
 refine' eP q0 3 [0]<;>rw[P9]at hF<;>refine' go⟩
def Hr(aC:List Int)(aF:Method):List Int->Nat->Option (Bool)
 |[],k27=>some true
 |x29::Tm,k27=>((ix aC aF.aD).bind fun x40=>
     (iR x29 0 (IntKind.i64.wrap (x40-1))).bind fun Ku=>
     bif (!Ku)then (some true)
     else (bif (decide ((0:Int)<(k27:Int)))then ((ix aF.bg (IntKind.i64.wrap ((k27:Int)-1))).bind fun x53=>
         some (decide ((x29:Int)<=x53)))
       else (some false))).bind fun o36=>
   match o36 with
   |c59=>if c59 then (
       some false)
     else (
       Hr aC aF Tm (k27+1))
def Mv(aC:List Int)(aF:Method):Option (Bool):=
 ((vU aC).bind fun r4=>
   bif (!r4)then (some true)
   else ((iR aF.aD 0 (IntKind.i64.wrap ((aC.length:Int)-1))).bind fun r8=>
     bif (!r8)then (some true)
     else ((iR aF.Limit 0 9).bind fun gL=>
       bif (!gL)then (some true)
       else ((iR aF.bK 0 99).bind fun r16=>
         bif (!r16)then (some true)
         else ((iR aF.gW 1 99).bind fun kR=>
           some (!kR)))))).bind fun o2=>
 match o2 with
 |c23=>if c23 then (
     some false)
   else (
     Hr aC aF aF.bg 0)
instance aJy:I2 154 t0 t2 u20 Mv:=⟨by
 intro _ _ _ _ _ hF
 refine' en Tryz.func154 (Mv.eq_1 ..)
 refine' rc (q1 35 tB) [0,3]
 refine' eP q0 5 [0,3]<;>rw[Hr]at hF<;>refine' go
 refine' qj ?_
 refine' go
 refine' dc (q1 73 tB) [0,3,5]⟩
def Px(aC:List Int)(aG:List Method):List Method->Nat->Option (Bool)
 |[],k4=>((vU aC).bind fun fu=>
     bif fu then (some (decide (((aG.length:Int):Int)<=5)))
     else (some false)).bind fun wQ=>
   match wQ with
   |c19=>some c19
 |x6::dH,k4=>(Mv aC x6).bind fun qO=>
   if (!qO)then (
     some false)
   else (
     Px aC aG dH (k4+1))
def EO(aC:List Int)(aG:List Method):Option (Bool):=
 Px aC aG aG 0
instance aIQ:I2 77 t0 t26 u20 EO:=⟨by
 intro _ _ _ _ _ hF
 refine' en Tryz.func77 (EO.eq_1 ..)
 refine' eP q0 5 [0,1]<;>rw[Px]at hF<;>refine' go
 refine' rc (q1 4 tB) []⟩
def L9(aC:List Int)(mR:bO):List Int->Nat->Option (Bool)
 |[],k26=>some true
 |x28::ae8,k26=>(ix aC mR.From).bind fun Ej=>
   (iR x28 0 (IntKind.i64.wrap (Ej-1))).bind fun r43=>
   if (!r43)then (
     some false)
   else (
     L9 aC mR ae8 (k26+1))
def Nb(aC:List Int)(mR:bO):Option (Bool):=
 ((vU aC).bind fun r4=>
   bif (!r4)then (some true)
   else ((iR mR.From 0 (IntKind.i64.wrap ((aC.length:Int)-1))).bind fun r8=>
     bif (!r8)then (some true)
     else ((iR mR.To 0 (IntKind.i64.wrap ((aC.length:Int)-1))).bind fun gL=>
       bif (!gL)then (some true)
       else ((ix aC mR.To).bind fun nI=>
         some (((mR.Map.length:Int):Int)!=nI))))).bind fun o2=>
 match o2 with
 |x9=>if x9 then (
     some false)
   else (
     L9 aC mR mR.Map 0)
instance aKp:I2 155 t0 t4 u20 Nb:=⟨by
 intro _ _ _ _ _ hF
 refine' en Tryz.func155 (Nb.eq_1 ..)
 refine' dc (q1 37 tB) [0,3]
 refine' eP q0 5 [0,3]<;>rw[L9]at hF<;>refine' go⟩
def P_(aC:List Int)(aG:List bO):List bO->Nat->Option (Bool)
 |[],k4=>((vU aC).bind fun fu=>
     bif fu then (some (decide (((aG.length:Int):Int)<=4)))
     else (some false)).bind fun wQ=>
   match wQ with
   |c19=>some c19
 |x6::dH,k4=>(Nb aC x6).bind fun qO=>
   if (!qO)then (
     some false)
   else (
     P_ aC aG dH (k4+1))
def Rs(aC:List Int)(aG:List bO):Option (Bool):=
 P_ aC aG aG 0
instance aJz:I2 78 t0 t27 u20 Rs:=⟨by
 intro _ _ _ _ _ hF
 refine' en Tryz.func78 (Rs.eq_1 ..)
 refine' eP q0 5 [0,1]<;>rw[P_]at hF<;>refine' go
 refine' rc (q1 4 tB) []⟩
def QV:List Int->Nat->Option (Bool)
 |[],k22=>some true
 |x24::Tn,k22=>(iR x24 0 9).bind fun zH=>
   if (!zH)then (
     some false)
   else (
     QV Tn (k22+1))
def SC(aC:List Int)(dC:aj):Option (Bool):=
 ((vU aC).bind fun r4=>
   bif (!r4)then (some true)
   else ((iR dC.aD 0 (IntKind.i64.wrap ((aC.length:Int)-1))).bind fun r8=>
     bif (!r8)then (some true)
     else ((ix aC dC.aD).bind fun uR=>
       some (((dC.Values.length:Int):Int)!=uR)))).bind fun o2=>
 match o2 with
 |c18=>if c18 then (
     some false)
   else (
     QV dC.Values 0)
instance aKq:I2 165 t0 t6 u20 SC:=⟨by
 intro _ _ _ _ _ hF
 refine' en Tryz.func165 (SC.eq_1 ..)
 refine' dc (q1 28 tB) [3]
 refine' eP q0 5 [3]<;>rw[QV]at hF<;>refine' go⟩
def K5(ae:aj)(aM:aj):Nat->Int->Option (Int)
 |0,_=>none
 |m5+1,c4=>if ((decide ((c4:Int)<(ae.Values.length:Int)))&&(decide ((c4:Int)<(aM.Values.length:Int))))then (
     (ix ae.Values c4).bind fun wN=>
     (ix aM.Values c4).bind fun x21=>
     if (decide ((wN:Int)<x21))then (
       some (-1))
     else (
       (ix ae.Values c4).bind fun x27=>
       (ix aM.Values c4).bind fun x33=>
       if (decide ((x33:Int)<x27))then (
         some 1)
       else (
         K5 ae aM m5 (IntKind.i64.wrap (c4+1)))))
   else (
     if (decide (((ae.Values.length:Int):Int)<(aM.Values.length:Int)))then (
       some (-1))
     else (
       if (decide (((aM.Values.length:Int):Int)<(ae.Values.length:Int)))then (
         some 1)
       else (
         some 0)))
def Hg(ae:aj)(aM:aj):Option (Int):=
 if ((ae.aD:Int)!=aM.aD)then (
   if (decide ((ae.aD:Int)<aM.aD))then (
     some (-1))
   else (
     some 1))
 else (
   K5 ae aM (((ae.Values.length:Int)-0).toNat+2) 0)
instance aIv:I2 166 t6 t6 u0 Hg:=⟨by
 intro ae _ aM _ _ hF
 refine' en Tryz.func166 (Hg.eq_1 ..)
 refine' Ou (q1 5 tI) [2,3]<;>rw[K5]at hF<;>refine' go
 rename_i c4 _ _
 refine' zA [(27,(.bool ((decide ((c4:Int)<(ae.Values.length:Int)))&&(decide ((c4:Int)<(aM.Values.length:Int))))))] [2,3,5] (fun _=>?_)
 refine' go⟩
def Ht(aC:List Int)(aG:List aj):List aj->Nat->Option (Bool)
 |[],k4=>((vU aC).bind fun fu=>
     bif fu then (some (decide (((aG.length:Int):Int)<=24)))
     else (some false)).bind fun wQ=>
   match wQ with
   |c19=>some c19
 |x6::dH,k4=>((SC aC x6).bind fun r26=>
     bif (!r26)then (some true)
     else (bif (decide ((0:Int)<(k4:Int)))then ((ix aG (IntKind.i64.wrap ((k4:Int)-1))).bind fun x31=>
         (Hg x31 x6).bind fun Ox=>
         some (decide ((0:Int)<=Ox)))
       else (some false))).bind fun o21=>
   match o21 with
   |wO=>if wO then (
       some false)
     else (
       Ht aC aG dH (k4+1))
def Mw(aC:List Int)(aG:List aj):Option (Bool):=
 Ht aC aG aG 0
instance atH:I2 95 t0 t20 u20 Mw:=⟨by
 intro _ _ _ _ _ hF
 refine' en Tryz.func95 (Mw.eq_1 ..)
 refine' eP q0 5 [0,1]<;>rw[Ht]at hF<;>refine' go
 refine' rc (q1 4 tB) []
 refine' qj ?_
 refine' go
 refine' dc (q1 35 tB) [0,1,5]⟩
def Rt(aC:List Int)(aT:Source):Option (Bool):=
 ((Mw aC aT.Facts).bind fun r4=>
   bif r4 then ((iR aT.Version 0 1000).bind fun r8=>
     some r8)
   else (some false)).bind fun o2=>
 match o2 with
 |c11=>some c11
instance aJA:I2 79 t0 t21 u20 Rt:=⟨by
 intro _ _ _ _ _ hF
 refine' en Tryz.func79 (Rt.eq_1 ..)
 refine' rc (q1 4 tB) []⟩
def Qa:List Int->Nat->Option (Bool)
 |[],k23=>some true
 |x25::oW,k23=>(iR x25 0 9).bind fun Wu=>
   if (!Wu)then (
     some false)
   else (
     Qa oW (k23+1))
def EU(aC:List Int)(aG:List Method)(ae:ag):Option (Bool):=
 ((EO aC aG).bind fun r4=>
   bif (!r4)then (some true)
   else ((iR ae.Method 0 (IntKind.i64.wrap ((aG.length:Int)-1))).bind fun r8=>
     bif (!r8)then (some true)
     else ((ix aG ae.Method).bind fun uR=>
       some (((ae.Values.length:Int):Int)!=(uR.bg.length:Int))))).bind fun o2=>
 match o2 with
 |c19=>if c19 then (
     some false)
   else (
     Qa ae.Values 0)
instance aJB:I3 81 t0 t26 t9 u20 EU:=⟨by
 intro _ _ _ _ _ _ _ hF
 refine' en Tryz.func81 (EU.eq_1 ..)
 refine' dc (q1 33 tB) [5]
 refine' eP q0 7 [5]<;>rw[Qa]at hF<;>refine' go⟩
def QW(ae:List Int)(aM:List Int):Nat->Int->Option (Bool)
 |0,_=>none
 |m2+1,c1=>if ((decide ((c1:Int)<(ae.length:Int)))&&(decide ((c1:Int)<(aM.length:Int))))then (
     (ix ae c1).bind fun uR=>
     (ix aM c1).bind fun sU=>
     if ((uR:Int)!=sU)then (
       (ix ae c1).bind fun x24=>
       (ix aM c1).bind fun x30=>
       some (decide ((x24:Int)<x30)))
     else (
       QW ae aM m2 (IntKind.i64.wrap (c1+1))))
   else (
     some (decide (((ae.length:Int):Int)<(aM.length:Int))))
def Nc(ae:List Int)(aM:List Int):Option (Bool):=
 QW ae aM (((ae.length:Int)-0).toNat+2) 0
instance aKr:I2 216 t0 t0 u20 Nc:=⟨by
 intro ae _ aM _ _ hF
 refine' en Tryz.func216 (Nc.eq_1 ..)
 refine' Ou (q1 5 tI) [0,1]<;>rw[QW]at hF<;>refine' go
 rename_i c1 _ _
 refine' zA [(15,(.bool ((decide ((c1:Int)<(ae.length:Int)))&&(decide ((c1:Int)<(aM.length:Int))))))] [0,1,5] (fun _=>?_)
 refine' go⟩
def MR(ae:ag)(aM:ag):Option (Bool):=
 if ((ae.Method:Int)!=aM.Method)then (
   some (decide ((ae.Method:Int)<aM.Method)))
 else (
   (Nc ae.Values aM.Values).bind fun r3=>
   some r3)
instance auD:I2 156 t9 t9 u20 MR:=⟨by
 intro _ _ _ _ _ hF
 refine' en Tryz.func156 (MR.eq_1 ..)⟩
def QX(vX:List Int)(dC:aj):List Int->Nat->Option (Bool)
 |[],k6=>some true
 |x8::C9,k6=>(ix dC.Values x8).bind fun Wv=>
   (ix vX (k6:Int)).bind fun x23=>
   if ((Wv:Int)!=x23)then (
     some false)
   else (
     QX vX dC C9 (k6+1))
def Nf(aF:Method)(vX:List Int)(dC:aj):Option (Bool):=
 if ((dC.aD:Int)!=aF.aD)then (
   some false)
 else (
   QX vX dC aF.bg 0)
instance aKs:I3 157 t2 t0 t6 u20 Nf:=⟨by
 intro _ _ _ _ _ _ _ hF
 refine' en Tryz.func157 (Nf.eq_1 ..)
 refine' eP q0 7 [1,3,5]<;>rw[QX]at hF<;>refine' go⟩
def LJ(aG:List Method)(sU:aS):List aj->Nat->Option (Sum (Bool) (Unit))
 |[],k60=>some (.inr ())
 |Ww::azY,k60=>(ix aG sU.ag.Method).bind fun x69=>
   (Nf x69 sU.ag.Values Ww).bind fun r79=>
   if (!r79)then (
     some (.inl false))
   else (
     LJ aG sU azY (k60+1))
def HY(aC:List Int)(aG:List Method)(bG:Cache):List aS->Nat->Option (Bool)
 |[],k16=>some true
 |sU::azZ,k16=>((((EU aC aG sU.ag).bind fun zH=>
       bif (!zH)then (some true)
       else ((Mw aC sU.Facts).bind fun r37=>
         bif (!r37)then (some true)
         else ((iR sU.At 0 10000).bind fun Ox=>
           bif (!Ox)then (some true)
           else (bif (decide ((0:Int)<(k16:Int)))then ((ix bG.Entries (IntKind.i64.wrap ((k16:Int)-1))).bind fun x46=>
               (MR x46.ag sU.ag).bind fun El=>
               some (!El))
             else (some false))))).bind fun Wx=>
     match Wx with
     |Wy=>if Wy then (
         some (.inl false))
       else (
         LJ aG sU sU.Facts 0)):Option (Sum (Bool) (Unit))).bind fun o25=>
   match o25 with
   | .inl r=>some r
   | .inr _=>HY aC aG bG azZ (k16+1)
def IE(aC:List Int)(aG:List Method)(bG:Cache):Option (Bool):=
 ((EO aC aG).bind fun r4=>
   bif (!r4)then (some true)
   else ((iR bG.Age 0 100).bind fun r8=>
     bif (!r8)then (some true)
     else (some (decide ((100:Int)<(bG.Entries.length:Int)))))).bind fun o2=>
 match o2 with
 |c12=>if c12 then (
     some false)
   else (
     HY aC aG bG bG.Entries 0)
instance auE:I3 80 t0 t26 t23 u20 IE:=⟨by
 intro _ _ _ _ _ _ _ hF
 refine' en Tryz.func80 (IE.eq_1 ..)
 refine' rc (q1 25 tB) [0,1,5]
 refine' eP q0 7 [0,1,5]<;>rw[HY]at hF<;>refine' go
 refine' cuS q0 [0,1,5,7]
 refine' dc (q1 73 tB) [0,1,5,7,8]
 refine' eP q0 9 [0,1,5,7,8]<;>rw[LJ]at hF<;>refine' go⟩
def Ls(Nw:List Int):List Int->Nat->Option (Bool)
 |[],k4=>some (decide (((Nw.length:Int):Int)<=1000))
 |x6::dH,k4=>((iR x6 0 10000).bind fun fC=>
     bif (!fC)then (some true)
     else (bif (decide ((0:Int)<(k4:Int)))then ((ix Nw (IntKind.i64.wrap ((k4:Int)-1))).bind fun x24=>
         some (decide ((x6:Int)<x24)))
       else (some false))).bind fun wQ=>
   match wQ with
   |Wz=>if Wz then (
       some false)
     else (
       Ls Nw dH (k4+1))
def Ru(Nw:List Int):Option (Bool):=
 Ls Nw Nw 0
instance aJC:I1 83 t0 u20 Ru:=⟨by
 intro _ _ _ hF
 refine' en Tryz.func83 (Ru.eq_1 ..)
 refine' eP q0 3 [0]<;>rw[Ls]at hF<;>refine' go
 refine' qj ?_
 refine' go
 refine' dc (q1 31 tB) [0,3]⟩
def Li(aF:bU):List ag->Nat->Option (Bool)
 |[],k27=>((iR aF.Now 0 10000).bind fun Oy=>
     bif Oy then (bif (decide (((aF.bD.length:Int):Int)<=1000))then (bif (((aF.dh.length:Int):Int)==(aF.bD.length:Int))then ((Ru aF.dh).bind fun pI=>
           bif pI then ((iR aF.bI 0 1000000).bind fun iH=>
             bif iH then (some (decide (((aF.bX.length:Int):Int)<=100)))
             else (some false))
           else (some false))
         else (some false))
       else (some false))
     else (some false)).bind fun o36=>
   match o36 with
   |WA=>some WA
 |x29::Tm,k27=>(EU aF.bA aF.Methods x29).bind fun WB=>
   if (!WB)then (
     some false)
   else (
     Li aF Tm (k27+1))
def Qr(aF:bU):Option (Bool):=
 ((vU aF.bA).bind fun r4=>
   bif (!r4)then (some true)
   else ((EO aF.bA aF.Methods).bind fun r8=>
     bif (!r8)then (some true)
     else ((Rs aF.bA aF.bV).bind fun gL=>
       bif (!gL)then (some true)
       else ((Rt aF.bA aF.Source).bind fun r16=>
         bif (!r16)then (some true)
         else ((IE aF.bA aF.Methods aF.Cache).bind fun kR=>
           some (!kR)))))).bind fun o2=>
 match o2 with
 |c23=>if c23 then (
     some false)
   else (
     Li aF aF.bD 0)
instance asH:I1 24 t25 u20 Qr:=⟨by
 intro _ _ _ _ _ _ _ _ _ _ hF
 refine' en Tryz.func24 (Qr.eq_1 ..)
 refine' rc (q1 41 tB) [1]
 refine' eP q0 3 [1]<;>rw[Li]at hF<;>refine' go
 refine' rc (q1 2 tB) []⟩
def B_(gT:Int):Option (Bool):=
 (iR gT 10 17).bind fun r1=>
 some r1
instance aKL:I1 159 t1 u20 B_:=⟨by
 intro _ _ hF
 refine' en Tryz.func159 (B_.eq_1 ..)⟩
def Zr(aT:Int):List Int->Nat->Option (Bool)
 |[],k4=>some false
 |x6::dH,k4=>if ((x6:Int)==aT)then (
     some true)
   else (
     Zr aT dH (k4+1))
def Ca(aG:List Int)(aT:Int):Option (Bool):=
 Zr aT aG 0
instance aKM:I2 86 t0 t1 u20 Ca:=⟨by
 intro _ _ _ _ hF
 refine' en Tryz.func86 (Ca.eq_1 ..)
 refine' eP q0 5 [0,1]<;>rw[Zr]at hF<;>refine' go⟩
end Go.Proofs.YtlnefhbbbikmgabGreat
