/-
  Functions of the program as Lean functions, and that the calls return what these say. No conditions.
-/
import Derived.Test.YtlnefhbbbikmgabGreatAskQueryGI3
set_option maxRecDepth 100000
set_option maxHeartbeats 4000000
set_option linter.unusedVariables false
namespace Go.Proofs.YtlnefhbbbikmgabGreat
open Go Go.Fw
def KY(aC:List Int)(aK:Query)(c8:List Query)(c11:Int)(mq:(List Int))(fuel:Nat):List aJ->Nat->(List aJ)->Option ((List Query))
 |[],WU,lh=>(Qh fuel aC ({a_:=mq,aL:=lh}:Query) aK).bind fun Wn=>
   if Wn then (
     (app c8 ([({a_:=mq,aL:=lh}:Query)]:List Query)).bind fun z84=>
     some z84)
   else (
     some c8)
 |x73::aAP,WU,lh=>((NW .i64 c11 (WU:Int)).bind fun x94=>
     if (((UR .i64 x94 1):Int)==1)then (
       (Zt x73).bind fun WH=>
       (app lh ([WH]:List aJ)).bind fun U4=>
       some U4)
     else (
       some lh)).bind fun o88=>
   match o88 with
   |abW=>KY aC aK c8 c11 mq fuel aAP (WU+1) abW
def KZ(aC:List Int)(aK:Query)(x6:Int)(fuel:Nat):Nat->(List Query)->Int->Option ((List Query))
 |0,_,_=>none
 |m12+1,c8,c11=>if (decide ((c11:Int)<x6))then (
     ((rT aK.a_).bind fun mq=>
       KY aC aK c8 c11 mq fuel aK.aL 0 ([]:List aJ)).bind fun WC=>
     match WC with
     |c109=>KZ aC aK x6 fuel m12 c109 (IntKind.i64.wrap (c11+1)))
   else (
     some c8)
def Pf(fuel:Nat)(aC:List Int)(aK:Query):Option ((List Query)):=
 (E9 aC aK).bind fun r3=>
 if (!r3)then (
   some ([]:List Query))
 else (
   (UQ .i64 1 (aK.aL.length:Int)).bind fun x6=>
   KZ aC aK x6 fuel ((x6-0).toNat+2) ([]:List Query) 0)
instance arY:GL 131 t0 t29 u26 Pf:=⟨by
 intro _ _ _ aK _ _ _ hF
 refine' en Tryz.func131 (Pf.eq_1 ..)
 replace hF:=bind_some hF
 obtain⟨x6,hx7,hF⟩:=hF
 refine aP (aoq (i:=1) (j:=(aK.aL.length:Int)) (.int _ _) (.tmp rfl rfl) hx7) ?_
 refine' go
 refine' Km (qq 5 (tO 56 xH) (q1 20 tI)) [0,3,19]<;>rw[KZ]at hF<;>refine' go
 refine' cu (q1 5 (tO 56 xH)) [0,3,19,20]
 rename_i uS
 refine' aP (iy F_.h rfl (vs:=[uS.1.v]) (.cons (.tmp rfl rfl) .nil) (cells:=[uS.1.v,(.slice none 0 0)]) rfl) ?_
 refine' go
 rename_i k25
 refine' ed (.mk (β:=(List aJ)) (ι:=Sv×List Nat) (fun lh i3=>[]) (fun lh i3=>[aW k25 56 (.agg [uS.1.v,i3.1.v].toArray),ah (aa 138 jZ) i3.2 i3.1.v lh]) [] [pz k25]) 30 [0,3,5,6,7,19,20,28,29]<;>rw[KY]at hF<;>refine' go
 rename_i i3 _ _ _ _
 refine' cu ((Dq.mk (β:=(List aJ)) (ι:=Sv×List Nat) (fun abW i4=>[]) (fun abW i4=>[aW k25 56 (.agg [uS.1.v,i4.1.v].toArray),ah (aa 138 jZ) i4.2 i4.1.v abW]) [] [pz k25]).dr [i3.1.v]) [0,3,5,6,7,19,20,28,29,30]
 replace hF:=bind_some hF
 obtain⟨x94,hx95,hF⟩:=hF
 rename_i c11 _ _ _ _ _ _ _ _ WU _ _ _ _ _ _ _ _ _ _
 refine aP (aor (i:=c11) (j:=(WU:Int)) (.tmp rfl rfl) (.tmp rfl rfl) hx95) ?_
 refine' go
 refine aP (aos (i:=x94) (j:=1) (.tmp rfl rfl) (.int _ _)) ?_
 refine' go⟩
def KN(aC:List Step):Option ((List Step)):=
 (app ([]:List Step) aC).bind fun z5=>
 some z5
instance arM:I1 200 t32 u34 KN:=⟨by
 intro aC _ R hF
 refine' en Tryz.func200 (KN.eq_1 ..)
 refine aen (xs:=aC) sM.h aU bQ ad8 (fun WN hn2=>?_)
 refine eQ ?_
 refine nY (b:=WN) (.tmp rfl rfl) (fun hb3=>?_) (fun hb3=>?_)
 have hnil:=hn2 hb3
 replace hF:some []=some R:=by rw[hnil]at hF; simpa[app]using hF
 refine' go
 refine' go⟩
theorem arL{aC:List Step}{aA:Sv}{R:(List Step)}(hF:KN aC=some R):
   Fw.Spec Tryz.prog 200 [aA.v] [aI (ak 155 fZ) aA.v aC] (fun p:Sv×List Nat=>p.1.v) (fun p=>[ah (aa 155 (az fZ)) p.2 p.1.v R]):=arM.h hF
def Mj(jd:Int)(aH:aJ)(fJ:List Int):Option (Bool):=
 ((mG jd 0 (IntKind.i64.wrap ((aH.Terms.length:Int)-1))).bind fun r3=>
   bif (!r3)then (some true)
   else ((ix aH.Terms jd).bind fun x7=>
     (Fz x7).bind fun gQ=>
     bif gQ then ((ix aH.Terms jd).bind fun Wv=>
       (GU fJ Wv).bind fun jy=>
       some (!jy))
     else (some false))).bind fun o1=>
 match o1 with
 |sQ=>some sQ
theorem ajM{jd:Int}{bu:Nat}{aH:aJ}{dR:Sv}{gF:Nat}{fJ:List Int}{FW:Sv}{R:Bool}(hF:Mj jd aH fJ=some R):
   Fw.Spec Tryz.prog 245 [(.int .i64 jd),(.pointer (some ⟨bu,0,some 0⟩)),(.pointer (some ⟨gF,0,some 0⟩))] [bC bu 138 (.agg [(.int .i64 aH.aD),dR.v].toArray),aI (ak 3 ax) dR.v aH.Terms,bC gF 22 FW.v,aI (ak 3 ax) FW.v fJ] (fun _:Unit=>(.bool R)) (fun _=>[]):=by
 refine' en Tryz.func245 (Mj.eq_1 ..)
 refine' dc (q1 4 tB) []
instance:dz Tryz.prog 245 (type_of% @ajM):=⟨@ajM⟩
def XE(aH:aJ)(fJ:List Int):List Int->Nat->Option (Int)
 |[],k4=>some (-1)
 |x6::dH,k4=>(Mj x6 aH fJ).bind fun fu=>
   if fu then (
     some (k4:Int))
   else (
     XE aH fJ dH (k4+1))
def XN(aC:List Int)(aH:aJ)(fJ:List Int):Option (Int):=
 XE aH fJ aC 0
theorem aiJ{aC:List Int}{aA:Sv}{bu:Nat}{aH:aJ}{dR:Sv}{gF:Nat}{fJ:List Int}{FW:Sv}{R:Int}(hF:XN aC aH fJ=some R):
   Fw.Spec Tryz.prog 239 [aA.v,(.func (.func 245) [].toArray [(.pointer (some ⟨bu,0,some 0⟩)),(.pointer (some ⟨gF,0,some 0⟩))].toArray)] [aI (ak 3 ax) aA.v aC,bC bu 138 (.agg [(.int .i64 aH.aD),dR.v].toArray),aI (ak 3 ax) dR.v aH.Terms,bC gF 22 FW.v,aI (ak 3 ax) FW.v fJ] (fun _:Unit=>(.int .i64 R)) (fun _=>[]):=by
 refine' en Tryz.func239 (XN.eq_1 ..)
 refine' eP q0 8 [0,1,7]<;>rw[XE]at hF<;>refine' go
instance:dz Tryz.prog 239 (type_of% @aiJ):=⟨@aiJ⟩
def O1(aC:List Int)(aH:aJ)(fJ:List Int):Option (Bool):=
 (XN aC aH fJ).bind fun r1=>
 some (decide ((0:Int)<=r1))
theorem aiC{aC:List Int}{aA:Sv}{bu:Nat}{aH:aJ}{dR:Sv}{gF:Nat}{fJ:List Int}{FW:Sv}{R:Bool}(hF:O1 aC aH fJ=some R):
   Fw.Spec Tryz.prog 194 [aA.v,(.func (.func 245) [].toArray [(.pointer (some ⟨bu,0,some 0⟩)),(.pointer (some ⟨gF,0,some 0⟩))].toArray)] [aI (ak 3 ax) aA.v aC,bC bu 138 (.agg [(.int .i64 aH.aD),dR.v].toArray),aI (ak 3 ax) dR.v aH.Terms,bC gF 22 FW.v,aI (ak 3 ax) FW.v fJ] (fun _:Unit=>(.bool R)) (fun _=>[]):=by
 refine' en Tryz.func194 (O1.eq_1 ..)
instance:dz Tryz.prog 194 (type_of% @aiC):=⟨@aiC⟩
def MX(aF:Method)(ae:aJ)(dX:List Int):Option (Bool):=
 (bif ((aF.aD:Int)==ae.aD)then ((O1 aF.bg ae dX).bind fun r7=>
     some (!r7))
   else (some false)).bind fun o4=>
 match o4 with
 |c10=>some c10
instance auQ:I3 201 t2 t17 t0 u20 MX:=⟨by
 intro _ _ _ _ _ _ _ hF
 refine' en Tryz.func201 (MX.eq_1 ..)
 refine' rc (q1 6 tB) []⟩
def Bg(dX:List Int)(kM:Int)(ff:finder->(List Bool)->(List Int)->Int->Option ((List Bool)×finder))(jR:Nat)(rA:aJ):List Method->Nat->(List Method)->(List aJ)->(List Step)->(List Step)->Int->(List Bool)->Option ((List Method)×(List aJ)×(List Step)×(List Step)×Int×(List Bool))
 |[],rC,AL,AO,DX,AP,zl,zm=>some (AL,AO,DX,AP,zl,zm)
 |uG::Cj,rC,AL,AO,DX,AP,zl,zm=>(((ix zm (jR:Int)).bind fun abX=>
       bif abX then (some true)
       else ((MX uG rA dX).bind fun ard=>
         some (!ard))).bind fun ah0=>
     match ah0 with
     |Vw=>if Vw then (
         some (AL,AO,DX,AP,zl,zm))
       else (
         (j5 (decide (0<=(jR:Int))&&decide ((jR:Int)<(zm.length:Int)))).bind fun aHK=>
         (some (zm.set ((jR:Int)).toNat true)).bind fun ah1=>
         (app DX ([(⟨(jR:Int),(rC:Int)⟩:Step)]:List Step)).bind fun ah2=>
         (EA ([dX,rA.Terms]:List (List Int))).bind fun abY=>
         (ff (⟨AL,AO,ah2,AP,zl⟩:finder) ah1 abY (IntKind.i64.wrap (kM+uG.bK))).bind fun vO=>
         (j5 (decide (0<=((IntKind.i64.wrap ((vO.2.steps.length:Int)-1)):Int))&&decide (((IntKind.i64.wrap ((vO.2.steps.length:Int)-1)):Int)<(vO.2.steps.length:Int)))).bind fun aHL=>
         (j5 (decide (0<=(jR:Int))&&decide ((jR:Int)<(vO.1.length:Int)))).bind fun aHM=>
         (some (vO.1.set ((jR:Int)).toNat false)).bind fun arf=>
         some (vO.2.l,vO.2.atoms,(vO.2.steps.take ((IntKind.i64.wrap ((vO.2.steps.length:Int)-1)):Int).toNat),vO.2.oK,vO.2.cost,arf))).bind fun ah3=>
   match ah3 with
   |(Vx,Vy,Vz,VA,VB,VC)=>Bg dX kM ff jR rA Cj (rC+1) Vx Vy Vz VA VB VC
def GY(dX:List Int)(kM:Int)(ff:finder->(List Bool)->(List Int)->Int->Option ((List Bool)×finder)):List aJ->Nat->(List Method)->(List aJ)->(List Step)->(List Step)->Int->(List Bool)->Option ((List Bool)×finder)
 |[],jR,sO,c213,J7,c218,J8,c222=>some (c222,(⟨sO,c213,J7,c218,J8⟩:finder))
 |rA::Ck,jR,sO,c213,J7,c218,J8,c222=>(Bg dX kM ff jR rA sO 0 sO c213 J7 c218 J8 c222).bind fun abZ=>
   match abZ with
   |(VD,VE,VF,VG,VH,VI)=>GY dX kM ff Ck (jR+1) VD VE VF VG VH VI
def acx(ff:finder->(List Bool)->(List Int)->Int->Option ((List Bool)×finder))(fuel:Nat)(aT:finder)(tL:List Bool)(dX:List Int)(kM:Int):Option ((List Bool)×finder):=
 if (((aT.steps.length:Int):Int)==(aT.atoms.length:Int))then (
   if ((aT.oK.isEmpty)||(decide ((kM:Int)<aT.cost)))then (
     (KN aT.steps).bind fun r3=>
     (j5 (!r3.isEmpty)).bind fun u6=>
     some (tL,(⟨aT.l,aT.atoms,aT.steps,r3,kM⟩:finder)))
   else (
     some (tL,aT)))
 else (
   GY dX kM ff aT.atoms 0 aT.l aT.atoms aT.steps aT.oK aT.cost tL)
def G7(fuel:Nat):Nat->finder->(List Bool)->(List Int)->Int->Option ((List Bool)×finder)
 |0,_,_,_,_=>none
 |n+1,aT,tL,dX,kM=>acx (G7 fuel n) fuel aT tL dX kM
def acL(fuel:Nat)(aT:finder)(tL:List Bool)(dX:List Int)(kM:Int):Option ((List Bool)×finder):=
 G7 fuel fuel aT tL dX kM
theorem XU(fuel:Nat):∀(n:Nat)(jH:Nat)(aT:finder)(aA:Sv)(bB:Sv)(eG:Sv)(yY:List Nat)(f_:Sv)(AA:List Nat)(tL:List Bool)(bf:Sv)(DY:List Nat)(dX:List Int)(bJ:Sv)(kM:Int)(R:(List Bool)×finder)(hF:G7 fuel n aT tL dX kM=some R),
   Fw.Spec Tryz.prog 132 [(pz jH),bf.v,bJ.v,(zi kM)] [aW jH 180 (zg [aA.v,bB.v,eG.v,f_.v,(zi aT.cost)]),dY aA aT.l,eF bB aT.atoms,uy yY eG aT.steps,ah (pq 155 (az fZ)) AA f_.v aT.oK,A9 DY bf tL,bi bJ dX] (fun _:List Nat×Sv×Sv×Sv×List Nat×Sv×List Nat=>(.tuple [].toArray)) (fun p=>[A9 p.1 bf R.1,aW jH 180 (zg [p.2.1.v,p.2.2.1.v,p.2.2.2.1.v,p.2.2.2.2.2.1.v,(zi R.2.cost)]),dY p.2.1 R.2.l,eF p.2.2.1 R.2.atoms,uy p.2.2.2.2.1 p.2.2.2.1 R.2.steps,ah (pq 155 (az fZ)) p.2.2.2.2.2.2 p.2.2.2.2.2.1.v R.2.oK])
 |0,_,_,_,_,_,_,_,_,_,_,_,_,_,_,_,hF=>by cases hF
 |n+1,jH,aT,aA,bB,eG,yY,f_,AA,tL,bf,DY,dX,bJ,kM,R,hF=>by
   have ih:=XU fuel n
   unfold G7 at hF
   generalize G7 fuel n=ff at hF ih
   refine Se 125 Tryz.func132 [] ?_
   intro H0 F0
   unfold acx at hF
   refine au ?_
   refine iQ [0,1,2,3,4,5,6,7,8,9,10] [0,1,3,7,15,0,32,96,224,480,1023] [] mixed (by decide+kernel) ?_
   refine du ?_
   refine dw rfl .no (fun ha=>ni (v:=(pz jH)) rfl (EN ha (.tmp rfl rfl) rfl)) ?_
   refine du ?_
   refine dF rfl .no .h (fun ha hp=>gy (v:=eG.v) UY.h (EN ha (.tmp rfl rfl) rfl) hp.2 rfl rfl) ?_
   refine dF rfl .no .q3 (fun ha hp=>tK (l:=aT.steps.length) sM.h (EN ha (.tmp rfl rfl) rfl) (wY hp)) ?_
   refine du ?_
   refine dw rfl .no (fun ha=>ni (v:=(pz jH)) rfl (EN ha (.tmp rfl rfl) rfl)) ?_
   refine du ?_
   refine dF rfl .no .h (fun ha hp=>gy (v:=bB.v) aF1.h (EN ha (.tmp rfl rfl) rfl) hp.2 rfl rfl) ?_
   refine pu ?_
   refine Ci hF (fun aEq hF=>?_) (fun aEq hF=>?_)
   · refine eu ?_
     refine qo (fun f' cs'=>∃(g:Fr),f'=dm g [(0,(pz jH)),(3,(zi kM)),(35,(.bool ((aT.oK.isEmpty)||(decide ((kM:Int)<aT.cost)))))]/\bL cs' [aW jH 180 (zg [aA.v,bB.v,eG.v,f_.v,(zi aT.cost)]),dY aA aT.l,eF bB aT.atoms,uy yY eG aT.steps,ah (pq 155 (az fZ)) AA f_.v aT.oK,A9 DY bf tL]) ?_ ?_
     · refine au ?_
       refine aP (ni (v:=(pz jH)) rfl (.tmp rfl rfl)) ?_
       refine eu ?_
       refine gM .q4 (fun hp=>axc (Ro:=(az fZ)) sM.h (.tmp rfl rfl) hp) ?_
       refine au ?_
       rcases kQ (aT.oK.isEmpty)with hg1|hg1
       · rw[hg1]
         try rw[hg1]at hF; dsimp only[eZ,eY]at hF
         refine kP ?_
         exact⟨_,df,bT⟩
       rw[hg1]
       try rw[hg1]at hF; dsimp only[eZ,eY]at hF
       refine fI ?_
       refine aP (ni (v:=(pz jH)) rfl (.tmp rfl rfl)) ?_
       refine kP ?_
       exact⟨_,df,bT⟩
     rintro _ _ ⟨g2,rfl,hE⟩
     refine gV hE ?_
     refine Ci hF (fun hb8 hF=>?_) (fun hb8 hF=>?_)
     · refine dO ?_
       refine aP (ni (v:=(pz jH)) rfl (.tmp rfl rfl)) ?_
       refine eu ?_
       refine bnd hF fun r3 hx4 hF=>tZ (.cons .q3 .nil) (mH aX (fun _=>(.cons .nil)) (cK aCM.h fG (@arL aT.steps eG _ hx4))) (fun p5=>?_)
       refine au ?_
       refine aP (ni (v:=(pz jH)) rfl (.tmp rfl rfl)) ?_
       refine au ?_
       refine bnd hF fun u6 hx7 hF=>mo (.cons (.t .h) .nil) (ax8 (Ro:=(az fZ)) (azx hx7)) ?_
       refine As (zg [aA.v,bB.v,eG.v,p5.1.v,(zi aT.cost)]) ?_
       refine aP (ni (v:=(pz jH)) rfl (.tmp rfl rfl)) ?_
       refine au ?_
       refine As (zg [aA.v,bB.v,eG.v,p5.1.v,(zi kM)]) ?_
       refine eu ?_
       cases hF
       exact iW (DY,aA,bB,eG,yY,p5.1,p5.2) .nil rfl (.sel (.cons .q6 (.cons .h (.rd .q2 rfl (.rd .q3 rfl (.cons (.t .h) (.cons .h .nil)))))))
     refine eu ?_
     cases hF
     exact iW (DY,aA,bB,eG,yY,f_,AA) .nil rfl (.sel (.cons .q5 (.cons .h (.rd .h rfl (.rd (.t .h) rfl (.cons .q2 (.cons .q2 .nil)))))))
   refine fw ?_
   refine aP (ni (v:=(pz jH)) rfl (.tmp rfl rfl)) ?_
   refine fI ?_
   refine gU (kI (m:=aT.atoms.length) (fun arh f' cs'=>∃(g:Fr)(jR:Nat)(Ck:List aJ)(sO:List Method)(c213:List aJ)(J7 c218:List Step)(J8:Int)(c222:List Bool)(v212 VJ VK:Sv)(ab0:List Nat)(VN:Sv)(ab1 ab2:List Nat),arh=Ck.length/\f'=dm g [(0,(pz jH)),(1,bf.v),(2,bJ.v),(3,(zi kM)),(51,bB.v),(52,(zi (aT.atoms.length:Int))),(53,(zi (jR:Int)))]/\List.drop jR aT.atoms=Ck/\bL cs' [aW jH 180 (zg [v212.v,VJ.v,VK.v,VN.v,(zi J8)]),dY v212 sO,eF VJ c213,uy ab0 VK J7,ah (pq 155 (az fZ)) ab1 VN.v c218,A9 ab2 bf c222,bi bJ dX,eF bB aT.atoms]/\GY dX kM ff Ck jR sO c213 J7 c218 J8 c222=some R) ⟨_,0,_,_,_,_,_,_,_,aA,bB,eG,yY,f_,AA,DY,rfl,df,rfl,bT,hF⟩ ?_)
   rintro arh _ _ ⟨aQu,jR,Ck,sO,c213,J7,c218,J8,c222,v212,VJ,VK,ab0,VN,ab1,ab2,rfl,rfl,aph,hE,hF⟩
   refine Kb hE aT.atoms (fun aMx=>?_)
   rcases Ck with _|⟨rA,Ck⟩
   · have aEr:=dn aph
     rw[GY]at hF
     refine dO ?_
     refine mQ ?_
     refine dO ?_
     cases hF
     exact axW (ab2,v212,VJ,VK,ab0,VN,ab1) .nil rfl (.sel (.cons .q5 (.cons .h (.rd .h rfl (.rd (.t .h) rfl (.cons .q2 (.cons .q2 .nil)))))))
   obtain⟨aEr,afZ,aEs⟩:=kH aph
   rw[GY]at hF
   refine dO ?_
   refine mP ?_
   refine au ?_
   obtain⟨abZ,aAQ,aEt⟩:=bind_some hF
   refine pU (fun f' cs'=>∃(VD:List Method)(VE:List aJ)(VF VG:List Step)(VH:Int)(VI:List Bool)(ab3 ab4 ab5:Sv)(ah4:List Nat)(ab6:Sv)(ah5 ah6:List Nat)(g:Fr),abZ=(VD,VE,VF,VG,VH,VI)/\f'=dm g [(0,(pz jH)),(1,bf.v),(2,bJ.v),(3,(zi kM)),(51,bB.v),(52,(zi (aT.atoms.length:Int))),(53,(zi (jR:Int)))]/\bL cs' [aW jH 180 (zg [ab3.v,ab4.v,ab5.v,ab6.v,(zi VH)]),dY ab3 VD,eF ab4 VE,uy ah4 ab5 VF,ah (pq 155 (az fZ)) ah5 ab6.v VG,A9 ah6 bf VI,bi bJ dX,eF bB aT.atoms]) ?_ ?_
   · replace hF:=aAQ
     refine gU (eB (Cm (zi (jR:Int)) rfl rfl ?_))
     refine Ai afZ (fun aQv aQw=>?_)
     refine NV (Bp rA) Bq (fun DZ=>?_)
     refine gI (fun Oe=>?_)
     refine au ?_
     refine As (zg [(zi rA.aD),DZ.v]) ?_
     refine fw ?_
     refine aP (ni (v:=(pz jH)) rfl (.tmp rfl rfl)) ?_
     refine fI ?_
     refine gU (kI (m:=sO.length) (fun ari f' cs'=>∃(g:Fr)(rC:Nat)(Cj AL:List Method)(AO:List aJ)(DX AP:List Step)(zl:Int)(zm:List Bool)(D5 D6 J9:Sv)(VO:List Nat)(D7:Sv)(Og VP:List Nat),ari=Cj.length/\f'=dm g [(0,(pz jH)),(1,bf.v),(2,bJ.v),(3,(zi kM)),(8,(zi (jR:Int))),(9,(pz Oe)),(51,bB.v),(52,(zi (aT.atoms.length:Int))),(53,(zi (jR:Int))),(61,v212.v),(62,(zi (sO.length:Int))),(63,(zi (rC:Int)))]/\List.drop rC sO=Cj/\bL cs' [aW jH 180 (zg [D5.v,D6.v,J9.v,D7.v,(zi zl)]),dY D5 AL,eF D6 AO,uy VO J9 DX,ah (pq 155 (az fZ)) Og D7.v AP,A9 VP bf zm,bi bJ dX,aW Oe 138 (zg [(zi rA.aD),DZ.v]),bi DZ rA.Terms,eF bB aT.atoms,dY v212 sO]/\Bg dX kM ff jR rA Cj rC AL AO DX AP zl zm=some abZ) ⟨_,0,_,_,_,_,_,_,_,v212,VJ,VK,ab0,VN,ab1,ab2,rfl,df,rfl,bT,hF⟩ ?_)
     rintro ari _ _ ⟨aQx,rC,Cj,AL,AO,DX,AP,zl,zm,D5,D6,J9,VO,D7,Og,VP,rfl,rfl,api,hE,hF⟩
     refine Kb hE sO (fun aMy=>?_)
     rcases Cj with _|⟨uG,Cj⟩
     · have aEu:=dn api
       rw[Bg]at hF
       refine dO ?_
       refine mQ ?_
       refine dO ?_
       cases hF
       exact⟨_,_,_,_,_,_,D5,D6,J9,VO,D7,Og,VP,_,rfl,df,bT⟩
     obtain⟨aEu,aEv,aEw⟩:=kH api
     rw[Bg]at hF
     refine dO ?_
     refine mP ?_
     refine au ?_
     obtain⟨ah3,aAR,aEx⟩:=bind_some hF
     refine pU (fun f' cs'=>∃(Vx:List Method)(Vy:List aJ)(Vz VA:List Step)(VB:Int)(VC:List Bool)(ab7 ab8 ab9:Sv)(ah7:List Nat)(ab_:Sv)(ah8 ah9:List Nat)(g:Fr),ah3=(Vx,Vy,Vz,VA,VB,VC)/\f'=dm g [(0,(pz jH)),(1,bf.v),(2,bJ.v),(3,(zi kM)),(8,(zi (jR:Int))),(9,(pz Oe)),(51,bB.v),(52,(zi (aT.atoms.length:Int))),(53,(zi (jR:Int))),(61,v212.v),(62,(zi (sO.length:Int))),(63,(zi (rC:Int)))]/\bL cs' [aW jH 180 (zg [ab7.v,ab8.v,ab9.v,ab_.v,(zi VB)]),dY ab7 Vx,eF ab8 Vy,uy ah7 ab9 Vz,ah (pq 155 (az fZ)) ah8 ab_.v VA,A9 ah9 bf VC,bi bJ dX,aW Oe 138 (zg [(zi rA.aD),DZ.v]),bi DZ rA.Terms,eF bB aT.atoms,dY v212 sO]) ?_ ?_
     · replace hF:=aAR
       refine gU (eB (Cm (zi (rC:Int)) rfl rfl ?_))
       refine Ai aEv (fun aQy aQz=>?_)
       refine NV (Ie uG) Ig (fun J2=>?_)
       refine gI (fun arj=>?_)
       refine au ?_
       refine As (zg [(zi uG.aD),J2.v,(zi uG.Limit),(zi uG.bK),(zi uG.gW)]) ?_
       refine eu ?_
       obtain⟨ah0,aAS,aEy⟩:=bind_some hF
       refine au ?_
       refine qo (fun f' cs'=>∃(Vw:Bool)(g:Fr),Vw=ah0/\f'=dm g [(0,(pz jH)),(1,bf.v),(2,bJ.v),(3,(zi kM)),(8,(zi (jR:Int))),(9,(pz Oe)),(10,(zi (rC:Int))),(11,(pz arj)),(51,bB.v),(52,(zi (aT.atoms.length:Int))),(53,(zi (jR:Int))),(61,v212.v),(62,(zi (sO.length:Int))),(63,(zi (rC:Int))),(78,(.bool Vw))]/\bL cs' [aW jH 180 (zg [D5.v,D6.v,J9.v,D7.v,(zi zl)]),dY D5 AL,eF D6 AO,uy VO J9 DX,ah (pq 155 (az fZ)) Og D7.v AP,A9 VP bf zm,bi bJ dX,aW Oe 138 (zg [(zi rA.aD),DZ.v]),bi DZ rA.Terms,aW arj 127 (zg [(zi uG.aD),J2.v,(zi uG.Limit),(zi uG.bK),(zi uG.gW)]),bi J2 uG.bg,eF bB aT.atoms,dY v212 sO]) ?_ ?_
       · replace hF:=aAS
         refine eu ?_
         refine bnd hF fun abX apj hF=>?_
         have aEz:=lX apj
         obtain⟨aN7,aEA⟩:=kU apj
         refine iJ NH.h Ee.h.sz (.tmp rfl rfl) (.tmp rfl rfl) .q8 aEz (fun aGH aEB=>?_)
         refine TC (w:=(.bool abX)) ag4.h (.tmp rfl rfl) .q8 aEB aEA aox ?_
         refine au ?_
         rcases kQ abX with Um|Um
         · rw[Um]
           try rw[Um]at hF; dsimp only[eZ,eY]at hF
           exact jP hF
         rw[Um]
         try rw[Um]at hF; dsimp only[eZ,eY]at hF
         refine iq ?_
         refine bnd hF fun ard aEC hF=>oO (auQ.h aEC) (fun _=>?_)
         exact jP hF
       rintro _ _ ⟨Vw,aQA,rfl,rfl,hE⟩
       replace hF:=aEy
       try dsimp only at hF
       refine gV hE ?_
       refine Ci hF (fun aED hF=>?_) (fun aED hF=>?_)
       · refine fw ?_
         cases hF
         exact⟨_,_,_,_,_,_,D5,D6,J9,VO,D7,Og,VP,_,rfl,df,bT⟩
       refine dO ?_
       refine bnd hF fun aHK aEE hF=>?_
       have apk:=tF aEE
       refine iJ NH.h Ee.h.sz (.tmp rfl rfl) (.tmp rfl rfl) .q5 apk (fun aQB aEF=>?_)
       refine bnd hF fun ah1 TS hF=>?_
       replace TS:=aQ0 TS
       refine iZ (.cons .q5 .nil) (uZ (Ro:=(az rdBool)) (a:=true) (i:=(jR:Int)) Ee.h.sz rfl (.tmp rfl rfl) (.bool _) aEF apk (vg (fun _=>rfl)) (fun _ _ _ _ h=>by obtain⟨-,h⟩:=h; cases h; rfl)) (fun aHN=>?_)
       rw[TS]
       refine dO ?_
       refine aP (ni (v:=(pz jH)) rfl (.tmp rfl rfl)) ?_
       refine dO ?_
       refine aP (iy vE.h rfl (vs:=[(zi (jR:Int)),(zi (rC:Int))]) fG (cells:=[(zi (jR:Int)),(zi (rC:Int))]) rfl) ?_
       refine lJ rfl (gq (g:=true) sM.h vE.h fG (vs:=[(zg [(zi (jR:Int)),(zi (rC:Int))])]) rfl rfl rfl (by intro v hv; simp at hv; rcases hv with rfl<;>rfl)) (fun aGI=>?_)
       refine mo (.cons .h .nil) (gu (Ro:=(az fZ)) (E:=155) (F:=([]++[])) (xs:=([(⟨(jR:Int),(rC:Int)⟩:Step)]:List Step)) (iV (vg (fun _=>rfl)) fU dS) rfl rfl) ?_
       refine bnd hF fun ah2 aEG hF=>iZ (.cons .q5 (.cons .h .nil)) (iU (Ro:=(az fZ)) sM.h UX vE.h rfl rfl rfl (.tmp rfl rfl) (.tmp rfl rfl) aEG kJ) (fun ah_=>?_)
       refine aP (ni (v:=(pz jH)) rfl (.tmp rfl rfl)) ?_
       refine au ?_
       refine As (zg [D5.v,D6.v,ah_.1.v,D7.v,(zi zl)]) ?_
       refine au ?_
       refine iQ [0,1,2,3,4,7,8,9,10,5,6,11] [0,0,0,0,8,28,60,0,0,256,896,2047] [5,6,11] mixed (by decide+kernel) ?_
       refine Az ?_
       refine dF rfl .no .q7 (fun ha hp=>gy (v:=DZ.v) ry.h (EN ha (.tmp rfl rfl) rfl) hp.2 rfl rfl) ?_
       refine jF ?_
       refine dF rfl .no .q9 (fun ha hp=>gy (v:=(zi uG.bK)) wL.h (EN ha (.tmp rfl rfl) rfl) hp.2 rfl rfl) ?_
       refine du ?_
       refine dx rfl rfl .no (.rd .q6 rfl (.rd .q8 rfl .nil)) (.own .q9 (fun _ h=>h) (.aV rfl .nil)) (fun ha=>CG (post':=fun ab':Nat=>[aI (ak 22 (ak 3 ax)) (.slice (some ⟨ab',0,none⟩) 2 1) ([dX,rA.Terms]:List (List Int))]) (fun ab'=>.conv (.cons .h (.rd .h rfl (.rd (.t .h) rfl .nil))) (gu (Ro:=(az (ak 3 ax))) (E:=22) (F:=([]++([]++[]))) (xs:=([dX,rA.Terms]:List (List Int))) (iV aak (iV aak fU dS) dS) rfl rfl) dS (.cO .h aX bT)) (ax6 rfl (gq (g:=true) (len:=2) (parts:=[(0,.tmp 96),(1,.tmp 98)]) mM.h lw.h (.cons (EN ha (.tmp rfl rfl) rfl) (.cons (EN ha (.tmp rfl rfl) rfl) .nil)) (vs:=[bJ.v,DZ.v]) rfl rfl rfl (by intro v hv; simp at hv; rcases hv with rfl|rfl<;>rfl)))) (fun ab'=>?_)
       refine bnd hF fun abY aEH hF=>dx rfl rfl .no (.rd .h rfl .nil) (.own .q10 (fun _ h=>h) (.aV rfl .nil)) (fun ha=>CG (post':=fun aca:Sv×List Nat=>[bi aca.1 abY]) (fun aca=>(.cO .h aX bT)) (cK aoD.h (.cons (EN ha (.tmp rfl rfl) rfl) .nil) (@aiM ([dX,rA.Terms]:List (List Int)) (⟨(some ⟨ab',0,none⟩),2,1⟩) _ aEH))) (fun aca=>?_)
       refine bnd hF fun vO aEI hF=>azh rfl rfl .no (.cons .q2 (.rd .q4 rfl (.rd .q5 rfl (.cons .q2 (.cons .q5 (.cons .q2 (.rd .h rfl .nil))))))) (.aV rfl (.aV rfl .nil)) (fun ha=>cK aCI.h (.cons (EN ha (.tmp rfl rfl) rfl) (.cons (EN ha (.tmp rfl rfl) rfl) (.cons (EN ha (.tmp rfl rfl) rfl) (.cons (EN ha (.tmp rfl rfl) rfl) .nil)))) (ih jH (⟨AL,AO,ah2,AP,zl⟩:finder) D5 D6 ah_.1 ah_.2 D7 Og ah1 bf aHN abY aca.1 (IntKind.i64.wrap (kM+uG.bK)) _ aEI)) (fun D8=>?_)
       refine du ?_
       refine iQ [0,1,2,3,4,5,6,7,8,9,10,11,12,13,14] [0,0,2,6,14,0,32,96,224,480,992,2046,4095,8191,16383] [11,14] mixed (by decide+kernel) ?_
       refine jF ?_
       refine dw rfl .no (fun ha=>ni (v:=(pz jH)) rfl (EN ha (.tmp rfl rfl) rfl)) ?_
       refine du ?_
       refine dF rfl .no (.t .h) (fun ha hp=>gy (v:=D8.2.2.2.1.v) UY.h (EN ha (.tmp rfl rfl) rfl) hp.2 rfl rfl) ?_
       refine du ?_
       refine dw rfl .no (fun ha=>ni (v:=(pz jH)) rfl (EN ha (.tmp rfl rfl) rfl)) ?_
       refine du ?_
       refine dF rfl .no (.t .h) (fun ha hp=>gy (v:=D8.2.2.2.1.v) UY.h (EN ha (.tmp rfl rfl) rfl) hp.2 rfl rfl) ?_
       refine dF rfl .no .q4 (fun ha hp=>tK (l:=vO.2.steps.length) sM.h (EN ha (.tmp rfl rfl) rfl) (wY hp)) ?_
       refine du ?_
       refine bnd hF fun aHL aEJ hF=>?_
       have agi:=tF aEJ
       simp only[age,ag3]at agi
       refine dx rfl rfl .no (.cons .q4 .nil) (.aV rfl (.aV rfl (.aV rfl .nil))) (fun ha=>axf sM.h vE.h.sz (EN ha (.tmp rfl rfl) rfl) (EN ha (.tmp rfl rfl) rfl) agi.1 agi.2) (fun ah'=>?_)
       refine dw rfl .no (fun ha=>ni (v:=(pz jH)) rfl (EN ha (.tmp rfl rfl) rfl)) ?_
       refine du ?_
       refine dx rfl rfl .no (.cons .q2 .nil) (.aV rfl (.aV rfl (.aV rfl .nil))) (fun ha=>iO (e':=(zg [D8.2.1.v,D8.2.2.1.v,ah'.1.v,D8.2.2.2.2.2.1.v,(zi vO.2.cost)])) aF3.h.sz (EN ha (.tmp rfl rfl) rfl) (EN ha (.tmp rfl rfl) rfl) rfl rfl rfl rfl rfl) (fun _=>?_)
       refine du ?_
       refine fw ?_
       refine bnd hF fun aHM aEK hF=>?_
       have apl:=tF aEK
       refine iJ NH.h Ee.h.sz (.tmp rfl rfl) (.tmp rfl rfl) .q2 apl (fun aQC aEL=>?_)
       refine bnd hF fun arf agj hF=>?_
       replace agj:=aQ0 agj
       refine iZ (.cons .q2 .nil) (uZ (Ro:=(az rdBool)) (a:=false) (i:=(jR:Int)) Ee.h.sz rfl (.tmp rfl rfl) (.bool _) aEL apl (vg (fun _=>rfl)) (fun _ _ _ _ h=>by obtain⟨-,h⟩:=h; cases h; rfl)) (fun aHO=>?_)
       rw[agj]
       refine au ?_
       cases hF
       exact⟨_,_,_,_,_,_,D8.2.1,D8.2.2.1,ah'.1,ah'.2,D8.2.2.2.2.2.1,D8.2.2.2.2.2.2,aHO,_,rfl,df,bT⟩
     rintro _ _ ⟨Vx,Vy,Vz,VA,VB,VC,ab7,ab8,ab9,ah7,ab_,ah8,ah9,aQD,rfl,rfl,hE⟩
     replace hF:=aEx
     try dsimp only at hF
     refine gV hE ?_
     refine dO ?_
     rw[wk rC]
     exact⟨_,lT _,_,rC+1,Cj,_,_,_,_,_,_,ab7,ab8,ab9,ah7,ab_,ah8,ah9,rfl,df,aEw,bT,hF⟩
   rintro _ _ ⟨VD,VE,VF,VG,VH,VI,ab3,ab4,ab5,ah4,ab6,ah5,ah6,aQE,rfl,rfl,hE⟩
   replace hF:=aEt
   try dsimp only at hF
   refine gV hE ?_
   refine dO ?_
   rw[wk jR]
   exact⟨_,lT _,_,jR+1,Ck,_,_,_,_,_,_,ab3,ab4,ab5,ah4,ab6,ah5,ah6,rfl,df,aEs,bT,hF⟩
theorem ar9{fuel jH:Nat}{aT:finder}{aA bB eG:Sv}{yY:List Nat}{f_:Sv}{AA:List Nat}{tL:List Bool}{bf:Sv}{DY:List Nat}{dX:List Int}{bJ:Sv}{kM:Int}{R:(List Bool)×finder}(hF:acL fuel aT tL dX kM=some R):
   Fw.Spec Tryz.prog 132 [(pz jH),bf.v,bJ.v,(zi kM)] [aW jH 180 (zg [aA.v,bB.v,eG.v,f_.v,(zi aT.cost)]),dY aA aT.l,eF bB aT.atoms,uy yY eG aT.steps,ah (pq 155 (az fZ)) AA f_.v aT.oK,A9 DY bf tL,bi bJ dX] (fun _:List Nat×Sv×Sv×Sv×List Nat×Sv×List Nat=>(.tuple [].toArray)) (fun p=>[A9 p.1 bf R.1,aW jH 180 (zg [p.2.1.v,p.2.2.1.v,p.2.2.2.1.v,p.2.2.2.2.2.1.v,(zi R.2.cost)]),dY p.2.1 R.2.l,eF p.2.2.1 R.2.atoms,uy p.2.2.2.2.1 p.2.2.2.1 R.2.steps,ah (pq 155 (az fZ)) p.2.2.2.2.2.2 p.2.2.2.2.2.1.v R.2.oK]):=XU fuel fuel jH aT aA bB eG yY f_ AA tL bf DY dX bJ kM R hF
instance:dz Tryz.prog 132 (type_of% @XU):=⟨@XU⟩
end Go.Proofs.YtlnefhbbbikmgabGreat
