/-
  Functions of the program as Lean functions, and that the calls return what these say: part 2. No conditions.
-/
import Derived.Test.YtfcjmpkenaiomaaGreatFnAuditsG0
import Derived.KernelRfl
set_option maxRecDepth 100000
set_option maxHeartbeats 1000000
set_option linter.unusedVariables false
namespace Go.Proofs.YtfcjmpkenaiomaaGreat
open Go Go.Fw

def xO(bF:Fact):List Fact->Nat->(List Fact)->Bool->Option ((List Fact))
 |[],k13,c6,c9=>if (!c9)then (
     (wX bF.Rel bF.Values).bind fun lh=>
     (app c6 ([lh]:List Fact)).bind fun z26=>
     some z26)
   else (
     some c6)
 |nD::BX,k13,c6,c9=>((bif (!c9)then ((xL bF nD).bind fun NC=>
         some (decide ((NC:Int)<0)))
       else (some false)).bind fun o32=>
     match o32 with
     |lW=>if lW then (
         (wX bF.Rel bF.Values).bind fun AJ=>
         (app c6 ([AJ]:List Fact)).bind fun z46=>
         (wX nD.Rel nD.Values).bind fun Yu=>
         (app z46 ([Yu]:List Fact)).bind fun z58=>
         some (z58,true))
       else (
         (wX nD.Rel nD.Values).bind fun Yv=>
         (app c6 ([Yv]:List Fact)).bind fun z70=>
         some (z70,c9))).bind fun Kh=>
   match Kh with
   |(c75,y8)=>xO bF BX (k13+1) c75 y8
def xS(ai:List Fact)(bF:Fact):Option ((List Fact)):=
 (EO ai bF).bind fun r3=>
 xO bF ai 0 ([]:List Fact) r3
theorem Ld{ai:List Fact}{ae:Sv}{bF:Fact}{aV:Sv}{R:(List Fact)}(hF:xS ai bF=some R):
   Fw.Spec Tryz.prog 90 [ae.v,(zg [(zi bF.Rel),aV.v])] [bH ae ai,ah aV bF.Values] (fun p:Sv×List Nat=>p.1.v) (fun p=>[eP p.2 p.1 R]):=by
 refine Se 62 Tryz.func90 [.tmp 4] ?_
 intro H0 F0
 unfold xS at hF
 refine au ?_
 refine bP (fun k1=>?_)
 refine bv ?_
 refine dH rfl (bQ (g:=true) gq.h dZ.h .nil (vs:=[]) rfl rfl rfl (by simp)) (fun k2=>?_)
 refine dR (.cons .h .nil) (bS (Ro:=gQ) (E:=70) (F:=[]) (xs:=([]:List Fact)) bR rfl rfl) ?_
 refine aZ ?_
 refine bnd hF fun r3 hx4 hF=>bC (Zf hx4) (fun _=>?_)
 refine bE ?_
 refine bn (bU (m:=ai.length) (fun m11 f' cs'=>∃(g:Fr)(k13:Nat)(BX c6:List Fact)(c9:Bool)(v7:Sv)(F8:List Nat),m11=BX.length/\f'=aQ g [(0,ae.v),(3,(pz k1)),(5,v7.v),(6,(.bool c9)),(7,(zi (k13:Int)))]/\List.drop k13 ai=BX/\aO cs' [bH ae ai,aX k1 70 (zg [(zi bF.Rel),aV.v]),ah aV bF.Values,eP F8 v7 c6]/\xO bF BX k13 c6 c9=some R) ⟨_,0,_,_,_,⟨(some ⟨k2,0,none⟩),0,1⟩,(k2::[]),rfl,aA,rfl,ay,hF⟩ ?_)
 rintro m11 _ _ ⟨g12,k13,BX,c6,c9,v7,F8,rfl,rfl,Xo,hE,hF⟩
 refine Kb hE ai (fun aAK=>?_)
 rcases BX with _|⟨nD,BX⟩
 · have axj:=dn Xo
   rw[xO]at hF
   refine bJ ?_
   refine dL ?_
   refine gF ?_
   refine Ci hF (fun Dg hF=>?_) (fun Dg hF=>?_)
   · refine bE ?_
     refine bnd hF fun lh uf hF=>gB (EK uf) (fun nO=>?_)
     refine dH rfl (bQ (g:=true) gq.h dZ.h cu (vs:=[(zg [(zi lh.Rel),nO.1.v])]) rfl rfl rfl (by intro v hv; simp at hv; rcases hv with rfl<;>rfl)) (fun k25=>?_)
     refine dR (.cons .h (.cons .h .nil)) (bS (Ro:=gQ) (E:=70) (F:=(nO.2++[])) (xs:=([lh]:List Fact)) (ed yn bR cK) rfl rfl) ?_
     refine bnd hF fun z26 hx27 hF=>ek (.cons .q4 (.cons .h .nil)) (dX (Ro:=gQ) gq.h yo dZ.h rfl rfl rfl (.tmp rfl rfl) (.tmp rfl rfl) hx27 fU) (fun p28=>?_)
     refine bJ ?_
     cases hF
     exact Er (p28.1,p28.2)
   refine bE ?_
   cases hF
   exact Er (v7,F8)
 obtain⟨axj,mQ,Xk⟩:=dA Xo
 rw[xO]at hF
 refine bJ ?_
 refine dK ?_
 refine au ?_
 obtain⟨Kh,aaV,acC⟩:=bind_some hF
 refine iF (fun f' cs'=>∃(c75:List Fact)(y8:Bool)(v76:Sv)(DI:List Nat)(g:Fr),Kh=(c75,y8)/\f'=aQ g [(0,ae.v),(3,(pz k1)),(5,v76.v),(6,(.bool y8)),(7,(zi (k13:Int)))]/\aO cs' [bH ae ai,aX k1 70 (zg [(zi bF.Rel),aV.v]),ah aV bF.Values,eP DI v76 c75]) ?_ ?_
 · replace hF:=aaV
   refine bn (j4 ?_)
   obtain⟨o32,aaW,acD⟩:=bind_some hF
   refine dV [0,1,2,3,4,5,6,7,8,9,10] [0,1,3,7,7,7,55,119,255,511,1023] [8] mixed (by decide+kernel) ?_
   refine kX (fun f' cs'=>∃(lW:Bool)(g:Fr),lW=o32/\f'=aQ g [(0,ae.v),(3,(pz k1)),(5,v7.v),(6,(.bool c9)),(7,(zi (k13:Int))),(28,(.bool lW))]/\aO cs' [bH ae ai,aX k1 70 (zg [(zi bF.Rel),aV.v]),ah aV bF.Values,eP F8 v7 c6]) ?_ ?_
   · replace hF:=aaW
     refine dD ?_
     rcases bD (!c9)with yI|yI
     · rw[yI]
       try rw[yI]at hF; dsimp only[aJ,aI]at hF
       refine dD ?_
       refine Di mQ (fun nC j36=>?_)
       refine jR (lZ nD) mq (fun p37=>?_)
       refine bnd hF fun NC hx39 hF=>fu (NY hx39) (fun _=>?_)
       exact eD hF
     rw[yI]
     try rw[yI]at hF; dsimp only[aJ,aI]at hF
     exact eD hF
   rintro _ _ ⟨lW,g74,rfl,rfl,hE⟩
   replace hF:=acD
   try dsimp only at hF
   refine bu hE ?_
   refine Ci hF (fun axk hF=>?_) (fun axk hF=>?_)
   · refine bE ?_
     refine bnd hF fun AJ qA hF=>gB (EK qA) (fun p44=>?_)
     refine dH rfl (bQ (g:=true) gq.h dZ.h cu (vs:=[(zg [(zi AJ.Rel),p44.1.v])]) rfl rfl rfl (by intro v hv; simp at hv; rcases hv with rfl<;>rfl)) (fun k45=>?_)
     refine dR (.cons .h (.cons .h .nil)) (bS (Ro:=gQ) (E:=70) (F:=(p44.2++[])) (xs:=([AJ]:List Fact)) (ed yn bR cK) rfl rfl) ?_
     refine bnd hF fun z46 Dc hF=>ek (.cons .q4 (.cons .h .nil)) (dX (Ro:=gQ) gq.h yo dZ.h rfl rfl rfl (.tmp rfl rfl) (.tmp rfl rfl) Dc fU) (fun p48=>?_)
     refine aZ ?_
     refine jD [0,1,2,3,4,5,6,7,8,9,10,11,12,13,14] [0,0,0,6,14,30,0,0,192,448,960,2046,4094,8191,16383] [11,13] mixed (by decide+kernel) ?_
     refine dD ?_
     refine Di mQ (fun Tz Yw=>?_)
     refine du ?_
     refine Dl BR ?_
     refine bX ?_
     refine Di mQ (fun uF j52=>?_)
     refine du ?_
     refine oz (R':=(aD 3 az)) iC.h rfl .no (.tmp rfl rfl) rfl .h E_ (fun w53=>?_)
     refine bnd hF fun Yu JG hF=>qE (EK JG) (fun p56=>?_)
     refine iy rfl .no rfl (fun ha=>bQ (g:=true) (len:=1) (parts:=[(0,.tmp 48)]) gq.h dZ.h (.cons (EN ha (.tmp rfl rfl) rfl) .nil) (vs:=[(zg [(zi Yu.Rel),p56.1.v])]) rfl rfl rfl (by intro v hv; simp at hv; rcases hv with rfl<;>rfl)) (fun k57=>?_)
     refine jk (.cons .h (.cons .h .nil)) (bS (Ro:=gQ) (E:=70) (F:=(p56.2++[])) (xs:=([Yu]:List Fact)) (ed yn bR cK) rfl rfl) ?_
     refine bnd hF fun z58 CY hF=>cO rfl rfl .no (.cons .q4 (.cons .h .nil)) (.dep rfl .nil) (fun ha=>dX (Ro:=gQ) gq.h yo dZ.h rfl rfl rfl (EN ha (.tmp rfl rfl) rfl) (EN ha (.tmp rfl rfl) rfl) CY fU) (fun p60=>?_)
     refine bX ?_
     cases hF
     exact⟨_,_,p60.1,p60.2,_,rfl,aA,ay⟩
   refine au ?_
   refine jD [0,1,2,3,4,5,6,7,8,9,10,11,12,13,14] [0,0,0,6,14,30,0,0,192,448,960,2046,4094,8191,16383] [11,13] mixed (by decide+kernel) ?_
   refine dD ?_
   refine Di mQ (fun k61 j62=>?_)
   refine du ?_
   refine Dl BR ?_
   refine bX ?_
   refine Di mQ (fun k63 j64=>?_)
   refine du ?_
   refine oz (R':=(aD 3 az)) iC.h rfl .no (.tmp rfl rfl) rfl .h E_ (fun w65=>?_)
   refine bnd hF fun Yv Rj hF=>qE (EK Rj) (fun p68=>?_)
   refine iy rfl .no rfl (fun ha=>bQ (g:=true) (len:=1) (parts:=[(0,.tmp 48)]) gq.h dZ.h (.cons (EN ha (.tmp rfl rfl) rfl) .nil) (vs:=[(zg [(zi Yv.Rel),p68.1.v])]) rfl rfl rfl (by intro v hv; simp at hv; rcases hv with rfl<;>rfl)) (fun k69=>?_)
   refine jk (.cons .h (.cons .h .nil)) (bS (Ro:=gQ) (E:=70) (F:=(p68.2++[])) (xs:=([Yv]:List Fact)) (ed yn bR cK) rfl rfl) ?_
   refine bnd hF fun z70 axl hF=>cO rfl rfl .no (.cons .q7 (.cons .h .nil)) (.dep rfl .nil) (fun ha=>dX (Ro:=gQ) gq.h yo dZ.h rfl rfl rfl (EN ha (.tmp rfl rfl) rfl) (EN ha (.tmp rfl rfl) rfl) axl fU) (fun p72=>?_)
   refine bX ?_
   cases hF
   exact⟨_,_,p72.1,p72.2,_,rfl,aA,ay⟩
 rintro _ _ ⟨c75,y8,v76,DI,g80,rfl,rfl,hE⟩
 replace hF:=acC
 try dsimp only at hF
 refine bu hE ?_
 refine aZ ?_
 rw[wk k13]
 exact⟨_,bY _,_,k13+1,BX,_,_,v76,DI,rfl,aA,Xk,ay,hF⟩
def D5(aS:Source)(aj:ql):List Fact->Nat->(List Fact)->Option (Source×Bool)
 |[],wJ,oo=>some ((⟨oo,(IntKind.i64.wrap (aS.Version+1))⟩:Source),true)
 |TM::BZ,wJ,oo=>((xL TM aj.Fact).bind fun r85=>
     if ((r85:Int)!=0)then (
       (wX TM.Rel TM.Values).bind fun Gp=>
       (app oo ([Gp]:List Fact)).bind fun z97=>
       some z97)
     else (
       some oo)).bind fun o80=>
   match o80 with
   |RP=>D5 aS aj BZ (wJ+1) RP
def Om(ag:List Int)(aS:Source)(aj:ql):Option (Source×Bool):=
 (LP aS).bind fun r4=>
 ((LA ag aS).bind fun lX=>
   bif (!lX)then (some true)
   else ((Ma ag aj.Fact).bind fun jY=>
     bif (!jY)then (some true)
     else (bif (decide ((1000:Int)<=aS.Version))then (some true)
       else ((EO aS.Facts aj.Fact).bind fun qI=>
         bif (qI==aj.Add)then (some true)
         else (bif aj.Add then (some (decide ((24:Int)<=(aS.Facts.length:Int))))
           else (some false)))))).bind fun o8=>
 match o8 with
 |c24=>if c24 then (
     some (r4,false))
   else (
     if aj.Add then (
       (xS aS.Facts aj.Fact).bind fun gX=>
       some ((⟨gX,(IntKind.i64.wrap (aS.Version+1))⟩:Source),true))
     else (
       D5 aS aj aS.Facts 0 ([]:List Fact)))
theorem alW{ag:List Int}{ae:Sv}{aS:Source}{ax:Sv}{aj:ql}{uj:Sv}{R:Source×Bool}(hF:Om ag aS aj=some R):
   Fw.Spec Tryz.prog 134 [ae.v,(zg [ax.v,(zi aS.Version)]),(zg [(.bool aj.Add),(zi aj.Fact.Rel),uj.v])] [ah ae ag,bH ax aS.Facts,ah uj aj.Fact.Values] (fun p:Sv×List Nat=>(.tuple [(zg [p.1.v,(zi R.1.Version)]),(.bool R.2)].toArray)) (fun p=>[eP p.2 p.1 R.1.Facts]):=by
 refine Se 99 Tryz.func134 [.cell 6 29,.tmp 7] ?_
 intro H0 F0
 unfold Om at hF
 refine au ?_
 refine bP (fun k1=>?_)
 refine bP (fun k2=>?_)
 refine d_ (fun k3=>?_)
 refine bi ?_
 refine bnd hF fun r4 hx5 hF=>gB (afE hx5) (fun p6=>?_)
 refine d_ (fun k7=>?_)
 refine As (zg [p6.1.v,(zi r4.Version)]) ?_
 refine aU ?_
 obtain⟨o8,JC,Kg⟩:=bind_some hF
 refine dV [0,1,2,3,4,5,6,7,8,9,10,11,12,13,14,15,16,17,18,19,20,22,23,21,24,25,26,27,28,29,30,31,32,33,34,35] [0,0,3,7,15,31,31,95,255,511,1023,2047,4095,8191,16383,32767,65535,131071,262143,131071,655359,2097151,131071,4325375,16777215,33554431,67108863,134217727,268435455,536870911,1073741823,2147483647,4294967295,8589934591,17179869183,34359738367] [2,8,21] mixed (by decide+kernel) ?_
 refine kX (fun f' cs'=>∃(c24:Bool)(g:Fr),c24=o8/\f'=aQ g [(4,(pz k1)),(5,(pz k2)),(6,(pz k3)),(8,(pz k7)),(47,(.bool c24))]/\aO cs' [aX k1 29 (zg [ax.v,(zi aS.Version)]),bH ax aS.Facts,aX k2 114 (zg [(.bool aj.Add),(zi aj.Fact.Rel),uj.v]),ah uj aj.Fact.Values,aW k3 29 (zg [(.slice none 0 0),(zi 0)]),aW k7 29 (zg [p6.1.v,(zi r4.Version)]),eP p6.2 p6.1 r4.Facts]) ?_ ?_
 · replace hF:=JC
   refine bX ?_
   refine bnd hF fun lX lg hF=>fu (afl lg) (fun _=>?_)
   refine bX ?_
   rcases bD (!lX)with jL|jL
   · rw[jL]
     try rw[jL]at hF; dsimp only[aJ,aI]at hF
     exact eD hF
   rw[jL]
   try rw[jL]at hF; dsimp only[aJ,aI]at hF
   refine bX ?_
   refine xm rfl (.on 16 rfl rfl rfl) .q3 rfl (fun ha hp=>j_ (s:=2) (l:=[(zi aj.Fact.Rel),uj.v]) vX.h dZ.h.sz (EN ha (.tmp rfl rfl) rfl) hp.2 rfl (by decide) (Nat.le_of_ble_eq_true rfl) rfl) ?_
   refine bnd hF fun jY kG hF=>fu (af6 kG) (fun _=>?_)
   refine dD ?_
   rcases bD (!jY)with lH|lH
   · rw[lH]
     try rw[lH]at hF; dsimp only[aJ,aI]at hF
     exact eD hF
   rw[lH]
   try rw[lH]at hF; dsimp only[aJ,aI]at hF
   refine t_ ?_
   rcases bD (decide ((1000:Int)<=aS.Version))with jK|jK
   · rw[jK]
     try rw[jK]at hF; dsimp only[aJ,aI]at hF
     exact eD hF
   rw[jK]
   try rw[jK]at hF; dsimp only[aJ,aI]at hF
   refine dD ?_
   refine xm rfl (.on 28 rfl rfl rfl) .q3 rfl (fun ha hp=>j_ (s:=2) (l:=[(zi aj.Fact.Rel),uj.v]) vX.h dZ.h.sz (EN ha (.tmp rfl rfl) rfl) hp.2 rfl (by decide) (Nat.le_of_ble_eq_true rfl) rfl) ?_
   refine bX ?_
   refine bnd hF fun qI wo hF=>fu (Zf wo) (fun _=>?_)
   refine bN rfl (.on 28 rfl rfl rfl) (fun ha=>arM (a:=qI) (b:=aj.Add) Tryz.underlying4 (EN ha (.tmp rfl rfl) rfl) (EN ha (.tmp rfl rfl) rfl)) ?_
   refine bX ?_
   rcases bD (qI==aj.Add)with yJ|yJ
   · rw[yJ]
     try rw[yJ]at hF; dsimp only[aJ,aI]at hF
     exact eD hF
   rw[yJ]
   try rw[yJ]at hF; dsimp only[aJ,aI]at hF
   refine dD ?_
   rcases bD aj.Add with ku|ku
   · rw[ku]
     try rw[ku]at hF; dsimp only[aJ,aI]at hF
     exact eD hF
   rw[ku]
   try rw[ku]at hF; dsimp only[aJ,aI]at hF
   exact eD hF
 rintro _ _ ⟨c24,aCY,rfl,rfl,hE⟩
 replace hF:=Kg
 try dsimp only at hF
 refine bu hE ?_
 refine Ci hF (fun aaX hF=>?_) (fun aaX hF=>?_)
 · refine aU ?_
   refine As (zg [p6.1.v,(zi r4.Version)]) ?_
   refine bv ?_
   cases hF
   exact gU (p6.1,p6.2) (.cellA rfl rfl .h rfl yl.h vW.h.sz rfl rfl (.tmp rfl rfl .nil)) rfl (.sel (.cons .q6 .nil))
 refine bE ?_
 refine As (zg [p6.1.v,(zi (IntKind.i64.wrap (aS.Version+1)))]) ?_
 refine bE ?_
 refine Ci hF (fun atA hF=>?_) (fun atA hF=>?_)
 · refine bi ?_
   refine eu .q3 (fun hp=>j_ (s:=2) (l:=[(zi aj.Fact.Rel),uj.v]) vX.h dZ.h.sz (.tmp rfl rfl) hp.2 rfl (by decide) (Nat.le_of_ble_eq_true rfl) rfl) ?_
   refine bnd hF fun gX nL hF=>gB (Ld nL) (fun p27=>?_)
   refine au ?_
   refine As (zg [p27.1.v,(zi (IntKind.i64.wrap (aS.Version+1)))]) ?_
   refine bv ?_
   refine As (zg [p27.1.v,(zi (IntKind.i64.wrap (aS.Version+1)))]) ?_
   refine bv ?_
   cases hF
   exact gU (p27.1,p27.2) (.cellA rfl rfl .h rfl yl.h vW.h.sz rfl rfl (.tmp rfl rfl .nil)) rfl (.sel (.cons .q2 .nil))
 refine aU ?_
 refine dH rfl (bQ (g:=true) gq.h dZ.h .nil (vs:=[]) rfl rfl rfl (by simp)) (fun k28=>?_)
 refine dR (.cons .h .nil) (bS (Ro:=gQ) (E:=70) (F:=[]) (xs:=([]:List Fact)) bR rfl rfl) ?_
 refine au ?_
 refine As (zg [(.slice (some ⟨k28,0,none⟩) 0 1),(zi (IntKind.i64.wrap (aS.Version+1)))]) ?_
 refine aZ ?_
 refine bn (bU (m:=aS.Facts.length) (fun m69 f' cs'=>∃(g:Fr)(wJ:Nat)(BZ oo:List Fact)(v66:Sv)(xH:List Nat),m69=BZ.length/\f'=aQ g [(4,(pz k1)),(5,(pz k2)),(6,(pz k3)),(8,(pz k7)),(9,(zi (wJ:Int)))]/\List.drop wJ aS.Facts=BZ/\aO cs' [aX k1 29 (zg [ax.v,(zi aS.Version)]),bH ax aS.Facts,aX k2 114 (zg [(.bool aj.Add),(zi aj.Fact.Rel),uj.v]),ah uj aj.Fact.Values,aW k3 29 (zg [(.slice none 0 0),(zi 0)]),aW k7 29 (zg [v66.v,(zi (IntKind.i64.wrap (aS.Version+1)))]),eP xH v66 oo]/\D5 aS aj BZ wJ oo=some R) ⟨_,0,_,_,⟨(some ⟨k28,0,none⟩),0,1⟩,(k28::[]),rfl,aA,rfl,ay,hF⟩ ?_)
 rintro m69 _ _ ⟨g70,wJ,BZ,oo,v66,xH,rfl,rfl,ajY,hE,hF⟩
 refine Kb hE aS.Facts (fun aAL=>?_)
 rcases BZ with _|⟨TM,BZ⟩
 · have axm:=dn ajY
   rw[D5]at hF
   refine dN ?_
   refine dL ?_
   refine bE ?_
   refine As (zg [v66.v,(zi (IntKind.i64.wrap (aS.Version+1)))]) ?_
   refine bv ?_
   cases hF
   exact gU (v66,xH) (.cellA rfl rfl .h rfl yl.h vW.h.sz rfl rfl (.tmp rfl rfl .nil)) rfl (.sel (.cons .q6 .nil))
 obtain⟨axm,RQ,Xp⟩:=dA ajY
 rw[D5]at hF
 refine dN ?_
 refine dK ?_
 refine au ?_
 obtain⟨o80,atB,axn⟩:=bind_some hF
 refine iF (fun f' cs'=>∃(RP:List Fact)(Xq:Sv)(acE:List Nat)(g:Fr),RP=o80/\f'=aQ g [(4,(pz k1)),(5,(pz k2)),(6,(pz k3)),(8,(pz k7)),(9,(zi (wJ:Int)))]/\aO cs' [aX k1 29 (zg [ax.v,(zi aS.Version)]),bH ax aS.Facts,aX k2 114 (zg [(.bool aj.Add),(zi aj.Fact.Rel),uj.v]),ah uj aj.Fact.Values,aW k3 29 (zg [(.slice none 0 0),(zi 0)]),aW k7 29 (zg [Xq.v,(zi (IntKind.i64.wrap (aS.Version+1)))]),eP acE Xq RP]) ?_ ?_
 · replace hF:=atB
   refine bn (dV [0,1,2,3,4,5,6,7,8] [0,1,0,7,15,0,32,127,255] [7] mixed (by decide+kernel) ?_)
   refine dD ?_
   refine Di RQ (fun k82 j83=>?_)
   refine jR (lZ TM) mq (fun p84=>?_)
   refine du ?_
   refine xm rfl .no .q4 rfl (fun ha hp=>j_ (s:=2) (l:=[(zi aj.Fact.Rel),uj.v]) vX.h dZ.h.sz (EN ha (.tmp rfl rfl) rfl) hp.2 rfl (by decide) (Nat.le_of_ble_eq_true rfl) rfl) ?_
   refine bnd hF fun r85 Xr hF=>fu (NY Xr) (fun _=>?_)
   refine bX ?_
   refine Ci hF (fun aaY hF=>?_) (fun aaY hF=>?_)
   · refine jD [0,1,2,3,4,5,6,7,8,9,10,11,12,13,14,15,16,17,18] [0,1,0,4,0,28,60,124,0,256,0,1792,3840,7936,16380,32764,65535,131071,262143] [14,16,18] mixed (by decide+kernel) ?_
     refine du ?_
     refine dO rfl .no .q7 (fun ha hp=>fw (v:=v66.v) ym.h (EN ha (.tmp rfl rfl) rfl) hp.2 rfl rfl) ?_
     refine dD ?_
     refine Di RQ (fun k88 j89=>?_)
     refine du ?_
     refine Dl BR ?_
     refine dD ?_
     refine Di RQ (fun k90 j91=>?_)
     refine du ?_
     refine oz (R':=(aD 3 az)) iC.h rfl .no (.tmp rfl rfl) rfl .h E_ (fun w92=>?_)
     refine bnd hF fun Gp acF hF=>cO rfl rfl .no (.rd .h rfl .nil) (.own .q10 (fun _ h=>h) .nil) (fun ha=>bV awe.h (.cons (EN ha (.tmp rfl rfl) rfl) (.cons (EN ha (.tmp rfl rfl) rfl) .nil)) (EK acF)) (fun p95=>?_)
     refine iy rfl .no rfl (fun ha=>bQ (g:=true) (len:=1) (parts:=[(0,.tmp 94)]) gq.h dZ.h (.cons (EN ha (.tmp rfl rfl) rfl) .nil) (vs:=[(zg [(zi Gp.Rel),p95.1.v])]) rfl rfl rfl (by intro v hv; simp at hv; rcases hv with rfl<;>rfl)) (fun k96=>?_)
     refine jk (.cons .h (.cons .h .nil)) (bS (Ro:=gQ) (E:=70) (F:=(p95.2++[])) (xs:=([Gp]:List Fact)) (ed yn bR cK) rfl rfl) ?_
     refine bnd hF fun z97 hx98 hF=>cO rfl rfl .no (.cons .q12 (.cons .h .nil)) (.dep rfl (.dep rfl .nil)) (fun ha=>dX (Ro:=gQ) gq.h yo dZ.h rfl rfl rfl (EN ha (.tmp rfl rfl) rfl) (EN ha (.tmp rfl rfl) rfl) hx98 fU) (fun p99=>?_)
     refine du ?_
     refine cO rfl rfl .no (.cons .q11 .nil) (.dep rfl (.dep rfl .nil)) (fun ha=>gD (e':=(zg [p99.1.v,(zi (IntKind.i64.wrap (aS.Version+1)))])) Xe.h.sz (EN ha (.tmp rfl rfl) rfl) (EN ha (.tmp rfl rfl) rfl) rfl rfl rfl rfl rfl) (fun _=>?_)
     refine du ?_
     cases hF
     exact⟨_,p99.1,p99.2,_,rfl,aA,ay⟩
   refine au ?_
   cases hF
   exact⟨_,v66,xH,_,rfl,aA,ay⟩
 rintro _ _ ⟨RP,Xq,acE,axo,rfl,rfl,hE⟩
 replace hF:=axn
 try dsimp only at hF
 refine bu hE ?_
 refine aZ ?_
 rw[wk wJ]
 exact⟨_,bY _,_,wJ+1,BZ,_,Xq,acE,rfl,aA,Xp,ay,hF⟩
def A7(aa:aY)(aj:ql):Option (aY×Bool):=
 (Bi aa).bind fun r4=>
 (qK aa).bind fun r8=>
 if (!r8)then (
   some (r4,false))
 else (
   (Om aa.Schema aa.Source aj).bind fun NF=>
   if (!NF.2)then (
     some (r4,false))
   else (
     some ((⟨r4.Schema,r4.Methods,r4.Rules,NF.1,r4.Cache,r4.Now,r4.Log,r4.Times,r4.Spent,r4.Results⟩:aY),true)))
theorem UL{aa:aY}{ae aP cz dB dw dE dG dI:Sv}{aj:ql}{nM:Sv}{R:aY×Bool}(hF:A7 aa aj=some R):
   Fw.Spec Tryz.prog 98 [(zg [ae.v,aP.v,cz.v,dB.v,(zi aa.Source.Version),dw.v,(zi aa.Cache.Age),(zi aa.Now),dE.v,dG.v,(zi aa.Spent),dI.v]),(zg [(.bool aj.Add),(zi aj.Fact.Rel),nM.v])] [ah ae aa.Schema,bW aP aa.Methods,fq cz aa.Rules,bH dB aa.Source.Facts,dM dw aa.Cache.Entries,eH dE aa.Log,ah dG aa.Times,bB (aD 152 (aD 24 (aD 3 az))) dI.v aa.Results,ah nM aj.Fact.Values] (fun p:Sv×List Nat×Sv×List Nat×Sv×List Nat×Sv×List Nat×Sv×List Nat×Sv×List Nat×Sv×List Nat×Sv×List Nat=>(.tuple [(zg [p.1.v,p.2.2.1.v,p.2.2.2.2.1.v,p.2.2.2.2.2.2.1.v,(zi R.1.Source.Version),p.2.2.2.2.2.2.2.2.1.v,(zi R.1.Cache.Age),(zi R.1.Now),p.2.2.2.2.2.2.2.2.2.2.1.v,p.2.2.2.2.2.2.2.2.2.2.2.2.1.v,(zi R.1.Spent),p.2.2.2.2.2.2.2.2.2.2.2.2.2.2.1.v]),(.bool R.2)].toArray)) (fun p=>[bI p.2.1 p.1 R.1.Schema,nJ p.2.2.2.1 p.2.2.1 R.1.Methods,mE p.2.2.2.2.2.1 p.2.2.2.2.1 R.1.Rules,eP p.2.2.2.2.2.2.2.1 p.2.2.2.2.2.2.1 R.1.Source.Facts,oF p.2.2.2.2.2.2.2.2.2.1 p.2.2.2.2.2.2.2.2.1 R.1.Cache.Entries,kK p.2.2.2.2.2.2.2.2.2.2.2.1 p.2.2.2.2.2.2.2.2.2.2.1 R.1.Log,bI p.2.2.2.2.2.2.2.2.2.2.2.2.2.1 p.2.2.2.2.2.2.2.2.2.2.2.2.1 R.1.Times,aT (aF 152 (aF 24 (aF 3 (aC az)))) p.2.2.2.2.2.2.2.2.2.2.2.2.2.2.2 p.2.2.2.2.2.2.2.2.2.2.2.2.2.2.1.v R.1.Results]):=by
 refine Se 30 Tryz.func98 [.cell 4 36,.tmp 5] ?_
 intro H0 F0
 unfold A7 at hF
 refine au ?_
 refine bP (fun k1=>?_)
 refine bP (fun k2=>?_)
 refine d_ (fun k3=>?_)
 refine bi ?_
 refine bnd hF fun r4 hx5 hF=>Ty (OC hx5) (fun p6=>?_)
 refine d_ (fun k7=>?_)
 refine As (zg [p6.1.v,p6.2.2.1.v,p6.2.2.2.2.1.v,p6.2.2.2.2.2.2.1.v,(zi r4.Source.Version),p6.2.2.2.2.2.2.2.2.1.v,(zi r4.Cache.Age),(zi r4.Now),p6.2.2.2.2.2.2.2.2.2.2.1.v,p6.2.2.2.2.2.2.2.2.2.2.2.2.1.v,(zi r4.Spent),p6.2.2.2.2.2.2.2.2.2.2.2.2.2.2.1.v]) ?_
 refine bi ?_
 refine bnd hF fun r8 bZ hF=>bC (vG bZ) (fun _=>?_)
 refine aU ?_
 refine Ci hF (fun C8 hF=>?_) (fun C8 hF=>?_)
 · refine aU ?_
   refine As (zg [p6.1.v,p6.2.2.1.v,p6.2.2.2.2.1.v,p6.2.2.2.2.2.2.1.v,(zi r4.Source.Version),p6.2.2.2.2.2.2.2.2.1.v,(zi r4.Cache.Age),(zi r4.Now),p6.2.2.2.2.2.2.2.2.2.2.1.v,p6.2.2.2.2.2.2.2.2.2.2.2.2.1.v,(zi r4.Spent),p6.2.2.2.2.2.2.2.2.2.2.2.2.2.2.1.v]) ?_
   refine bv ?_
   cases hF
   exact gU (p6.1,p6.2.1,p6.2.2.1,p6.2.2.2.1,p6.2.2.2.2.1,p6.2.2.2.2.2.1,p6.2.2.2.2.2.2.1,p6.2.2.2.2.2.2.2.1,p6.2.2.2.2.2.2.2.2.1,p6.2.2.2.2.2.2.2.2.2.1,p6.2.2.2.2.2.2.2.2.2.2.1,p6.2.2.2.2.2.2.2.2.2.2.2.1,p6.2.2.2.2.2.2.2.2.2.2.2.2.1,p6.2.2.2.2.2.2.2.2.2.2.2.2.2.1,p6.2.2.2.2.2.2.2.2.2.2.2.2.2.2.1,p6.2.2.2.2.2.2.2.2.2.2.2.2.2.2.2) (.cellA rfl rfl .h rfl gP.h eG.h.sz rfl rfl (.tmp rfl rfl .nil)) rfl (.sel (.cons .q2 (.cons .q2 (.cons .q2 (.cons .q2 (.cons .q2 (.cons .q2 (.cons .q2 (.cons .q2 .nil)))))))))
 refine aZ ?_
 refine eu .q11 (fun hp=>j_ (s:=2) (l:=[dB.v,(zi aa.Source.Version)]) yl.h vW.h.sz (.tmp rfl rfl) hp.2 rfl (by decide) (Nat.le_of_ble_eq_true rfl) rfl) ?_
 refine au ?_
 refine bnd hF fun NF axp hF=>gB (alW axp) (fun TN=>?_)
 refine au ?_
 refine zx ?_
 refine zx ?_
 refine d_ (fun k14=>?_)
 refine As (zg [TN.1.v,(zi NF.1.Version)]) ?_
 refine bJ ?_
 refine Ci hF (fun axq hF=>?_) (fun axq hF=>?_)
 · refine aU ?_
   refine As (zg [p6.1.v,p6.2.2.1.v,p6.2.2.2.2.1.v,p6.2.2.2.2.2.2.1.v,(zi r4.Source.Version),p6.2.2.2.2.2.2.2.2.1.v,(zi r4.Cache.Age),(zi r4.Now),p6.2.2.2.2.2.2.2.2.2.2.1.v,p6.2.2.2.2.2.2.2.2.2.2.2.2.1.v,(zi r4.Spent),p6.2.2.2.2.2.2.2.2.2.2.2.2.2.2.1.v]) ?_
   refine bv ?_
   cases hF
   exact gU (p6.1,p6.2.1,p6.2.2.1,p6.2.2.2.1,p6.2.2.2.2.1,p6.2.2.2.2.2.1,p6.2.2.2.2.2.2.1,p6.2.2.2.2.2.2.2.1,p6.2.2.2.2.2.2.2.2.1,p6.2.2.2.2.2.2.2.2.2.1,p6.2.2.2.2.2.2.2.2.2.2.1,p6.2.2.2.2.2.2.2.2.2.2.2.1,p6.2.2.2.2.2.2.2.2.2.2.2.2.1,p6.2.2.2.2.2.2.2.2.2.2.2.2.2.1,p6.2.2.2.2.2.2.2.2.2.2.2.2.2.2.1,p6.2.2.2.2.2.2.2.2.2.2.2.2.2.2.2) (.cellA rfl rfl .h rfl gP.h eG.h.sz rfl rfl (.tmp rfl rfl .nil)) rfl (.sel (.cons .q4 (.cons .q4 (.cons .q4 (.cons .q4 (.cons .q4 (.cons .q4 (.cons .q4 (.cons .q4 .nil)))))))))
 refine bi ?_
 refine As (zg [p6.1.v,p6.2.2.1.v,p6.2.2.2.2.1.v,TN.1.v,(zi NF.1.Version),p6.2.2.2.2.2.2.2.2.1.v,(zi r4.Cache.Age),(zi r4.Now),p6.2.2.2.2.2.2.2.2.2.2.1.v,p6.2.2.2.2.2.2.2.2.2.2.2.2.1.v,(zi r4.Spent),p6.2.2.2.2.2.2.2.2.2.2.2.2.2.2.1.v]) ?_
 refine bv ?_
 refine As (zg [p6.1.v,p6.2.2.1.v,p6.2.2.2.2.1.v,TN.1.v,(zi NF.1.Version),p6.2.2.2.2.2.2.2.2.1.v,(zi r4.Cache.Age),(zi r4.Now),p6.2.2.2.2.2.2.2.2.2.2.1.v,p6.2.2.2.2.2.2.2.2.2.2.2.2.1.v,(zi r4.Spent),p6.2.2.2.2.2.2.2.2.2.2.2.2.2.2.1.v]) ?_
 refine bv ?_
 cases hF
 exact gU (p6.1,p6.2.1,p6.2.2.1,p6.2.2.2.1,p6.2.2.2.2.1,p6.2.2.2.2.2.1,TN.1,TN.2,p6.2.2.2.2.2.2.2.2.1,p6.2.2.2.2.2.2.2.2.2.1,p6.2.2.2.2.2.2.2.2.2.2.1,p6.2.2.2.2.2.2.2.2.2.2.2.1,p6.2.2.2.2.2.2.2.2.2.2.2.2.1,p6.2.2.2.2.2.2.2.2.2.2.2.2.2.1,p6.2.2.2.2.2.2.2.2.2.2.2.2.2.2.1,p6.2.2.2.2.2.2.2.2.2.2.2.2.2.2.2) (.cellA rfl rfl .h rfl gP.h eG.h.sz rfl rfl (.tmp rfl rfl .nil)) rfl (.sel (.cons .q4 (.cons .q4 (.cons .q4 (.cons .q3 (.cons .q4 (.cons .q4 (.cons .q4 (.cons .q4 .nil)))))))))
def LB(aj:Cache)(lK:cB)(eB:Int):Option (Bool):=
 some ((decide ((lK.At:Int)<=eB))&&((decide (((IntKind.i64.wrap (eB-lK.At)):Int)<=aj.Age))&&(decide ((0:Int)<=lK.At))))
theorem afm{aj:Cache}{ae:Sv}{lK:cB}{aV nM:Sv}{eB:Int}{R:Bool}(hF:LB aj lK eB=some R):
   Fw.Spec Tryz.prog 160 [(zg [ae.v,(zi aj.Age)]),(zg [(zi lK.Access.Method),aV.v,nM.v,(zi lK.At)]),(zi eB)] [dM ae aj.Entries,ah aV lK.Access.Values,bH nM lK.Facts] (fun _:Unit=>(.bool R)) (fun _=>[]):=by
 refine Se 25 Tryz.func160 [.tmp 6] ?_
 intro H0 F0
 unfold LB at hF
 refine au ?_
 refine bP (fun k1=>?_)
 refine bP (fun k2=>?_)
 refine bv ?_
 refine fe (fun f' cs'=>∃(g:Fr),f'=aQ g [(6,(.bool ((decide ((lK.At:Int)<=eB))&&((decide (((IntKind.i64.wrap (eB-lK.At)):Int)<=aj.Age))&&(decide ((0:Int)<=lK.At))))))]/\aO cs' []) ?_ ?_
 · refine aZ ?_
   rcases bD (decide ((lK.At:Int)<=eB))with hg3|hg3
   · rw[hg3]
     try rw[hg3]at hF; dsimp only[aJ,aI]at hF
     refine Qn ?_
     rcases bD (decide (((IntKind.i64.wrap (eB-lK.At)):Int)<=aj.Age))with hg4|hg4
     · rw[hg4]
       try rw[hg4]at hF; dsimp only[aJ,aI]at hF
       refine gF ?_
       exact⟨_,aA,ay⟩
     rw[hg4]
     try rw[hg4]at hF; dsimp only[aJ,aI]at hF
     refine bE ?_
     exact⟨_,aA,ay⟩
   rw[hg3]
   try rw[hg3]at hF; dsimp only[aJ,aI]at hF
   refine as4 ?_
   exact⟨_,aA,ay⟩
 rintro _ _ ⟨g5,rfl,hE⟩
 refine bu hE ?_
 exact ze hF
def Ex(aj:Cache)(eB:Int):List cB->Nat->(List cB)->Int->Option (Cache×Int)
 |[],wK,lW,og=>some ((⟨lW,aj.Age⟩:Cache),og)
 |TP::B_,wK,lW,og=>((IC TP).bind fun AL=>
     (LB aj TP eB).bind fun r69=>
     if r69 then (
       (app lW ([AL]:List cB)).bind fun z73=>
       some (z73,og))
     else (
       some (lW,(IntKind.i64.wrap (og+1))))).bind fun o57=>
   match o57 with
   |(y7,c80)=>Ex aj eB B_ (wK+1) y7 c80
def Pz(aj:Cache)(eB:Int):Option (Cache×Int):=
 Ex aj eB aj.Entries 0 ([]:List cB) 0
theorem anJ{aj:Cache}{ae:Sv}{eB:Int}{R:Cache×Int}(hF:Pz aj eB=some R):
   Fw.Spec Tryz.prog 136 [(zg [ae.v,(zi aj.Age)]),(zi eB)] [dM ae aj.Entries] (fun p:Sv×List Nat=>(.tuple [(zg [p.1.v,(zi R.1.Age)]),(zi R.2)].toArray)) (fun p=>[oF p.2 p.1 R.1.Entries]):=by
 refine Se 44 Tryz.func136 [.cell 4 32,.tmp 5] ?_
 intro H0 F0
 unfold Pz at hF
 refine au ?_
 refine bP (fun k1=>?_)
 refine d_ (fun k2=>?_)
 refine aZ ?_
 refine aN (iD oW.h rfl (vs:=[(zi aj.Age)]) cu (cells:=[(.slice none 0 0),(zi aj.Age)]) rfl) ?_
 refine d_ (fun k3=>?_)
 refine As (zg [(.slice none 0 0),(zi aj.Age)]) ?_
 refine dN ?_
 refine bn (bU (m:=aj.Entries.length) (fun m46 f' cs'=>∃(g:Fr)(wK:Nat)(B_ lW:List cB)(og:Int)(v42:Sv)(xA:List Nat),m46=B_.length/\f'=aQ g [(1,(zi eB)),(2,(pz k1)),(4,(pz k2)),(6,(pz k3)),(7,(zi og)),(8,(zi (wK:Int)))]/\List.drop wK aj.Entries=B_/\aO cs' [aX k1 32 (zg [ae.v,(zi aj.Age)]),dM ae aj.Entries,aW k2 32 (zg [(.slice none 0 0),(zi 0)]),aW k3 32 (zg [v42.v,(zi aj.Age)]),oF xA v42 lW]/\Ex aj eB B_ wK lW og=some R) ⟨_,0,_,_,_,⟨none,0,0⟩,[],rfl,aA,rfl,(.conv .nil (gV (Ro:=qY) (E:=47)) (.cons .nil) ay),hF⟩ ?_)
 rintro m46 _ _ ⟨g47,wK,B_,lW,og,v42,xA,rfl,rfl,ajZ,hE,hF⟩
 refine Kb hE aj.Entries (fun aAM=>?_)
 rcases B_ with _|⟨TP,B_⟩
 · have axr:=dn ajZ
   rw[Ex]at hF
   refine dN ?_
   refine dL ?_
   refine bJ ?_
   refine As (zg [v42.v,(zi aj.Age)]) ?_
   refine bv ?_
   cases hF
   exact gU (v42,xA) (.cellA rfl rfl .h rfl u7.h oW.h.sz rfl rfl (.tmp rfl rfl .nil)) rfl (.sel (.cons .q4 .nil))
 obtain⟨axr,Nb,Xt⟩:=dA ajZ
 rw[Ex]at hF
 refine dN ?_
 refine dK ?_
 refine au ?_
 obtain⟨o57,atC,axs⟩:=bind_some hF
 refine iF (fun f' cs'=>∃(y7:List cB)(c80:Int)(v78:Sv)(F79:List Nat)(g:Fr),o57=(y7,c80)/\f'=aQ g [(1,(zi eB)),(2,(pz k1)),(4,(pz k2)),(6,(pz k3)),(7,(zi c80)),(8,(zi (wK:Int)))]/\aO cs' [aX k1 32 (zg [ae.v,(zi aj.Age)]),dM ae aj.Entries,aW k2 32 (zg [(.slice none 0 0),(zi 0)]),aW k3 32 (zg [v78.v,(zi aj.Age)]),oF F79 v78 y7]) ?_ ?_
 · replace hF:=atC
   refine bn (dC (aN (iK (off:=0) VX.h (.tmp rfl rfl)) ?_))
   refine aU ?_
   refine Ai Nb (fun k59 j60=>?_)
   refine yj (wV TP) xQ (fun p61=>?_)
   refine bnd hF fun AL CZ hF=>Av (Y_ CZ) (fun p64=>?_)
   refine d_ (fun k65=>?_)
   refine As (zg [(zi AL.Access.Method),p64.1.v,p64.2.2.1.v,(zi AL.At)]) ?_
   refine au ?_
   refine dV [0,1,2,3,4,5,6,7] [0,0,2,0,14,30,0,127] [7] mixed (by decide+kernel) ?_
   refine nZ ?_
   refine Di Nb (fun k66 j67=>?_)
   refine zZ (wV TP) xQ (fun p68=>?_)
   refine du ?_
   refine bnd hF fun r69 axt hF=>fu (afm axt) (fun _=>?_)
   refine du ?_
   refine Ci hF (fun ab' hF=>?_) (fun ab' hF=>?_)
   · refine bi ?_
     refine dH rfl (bQ (g:=true) u_.h qz.h cu (vs:=[(zg [(zi AL.Access.Method),p64.1.v,p64.2.2.1.v,(zi AL.At)])]) rfl rfl rfl (by intro v hv; simp at hv; rcases hv with rfl<;>rfl)) (fun k72=>?_)
     refine dR (.cons .h (.cons .q4 (.cons .q4 .nil))) (bS (Ro:=qY) (E:=47) (F:=((p64.2.1++p64.2.2.2)++[])) (xs:=([AL]:List cB)) (ed W9 bR cK) rfl rfl) ?_
     refine bnd hF fun z73 acG hF=>ek (.cons .q12 (.cons .h .nil)) (dX (Ro:=qY) u_.h M7 qz.h rfl rfl rfl (.tmp rfl rfl) (.tmp rfl rfl) acG fU) (fun p75=>?_)
     refine au ?_
     refine As (zg [p75.1.v,(zi aj.Age)]) ?_
     refine au ?_
     cases hF
     exact⟨_,_,p75.1,p75.2,_,rfl,aA,ay⟩
   refine aZ ?_
   cases hF
   exact⟨_,_,v42,xA,_,rfl,aA,ay⟩
 rintro _ _ ⟨y7,c80,v78,F79,g82,rfl,rfl,hE⟩
 replace hF:=axs
 try dsimp only at hF
 refine bu hE ?_
 refine aZ ?_
 rw[wk wK]
 exact⟨_,bY _,_,wK+1,B_,_,_,v78,F79,rfl,aA,Xt,ay,hF⟩
def Be(aa:aY)(gW:Int):Option (aY×Bool):=
 (Bi aa).bind fun r3=>
 ((qK aa).bind fun r9=>
   bif (!r9)then (some true)
   else ((iT gW 1 100).bind fun o5=>
     bif (!o5)then (some true)
     else (some (decide ((10000:Int)<(IntKind.i64.wrap (aa.Now+gW))))))).bind fun o7=>
 match o7 with
 |c17=>if c17 then (
     some (r3,false))
   else (
     (Pz r3.Cache (IntKind.i64.wrap (aa.Now+gW))).bind fun nz=>
     some ((⟨r3.Schema,r3.Methods,r3.Rules,r3.Source,nz.1,(IntKind.i64.wrap (aa.Now+gW)),r3.Log,r3.Times,r3.Spent,r3.Results⟩:aY),true))
theorem UW{aa:aY}{ae aP cz dB dw dE dG dI:Sv}{gW:Int}{R:aY×Bool}(hF:Be aa gW=some R):
   Fw.Spec Tryz.prog 100 [(zg [ae.v,aP.v,cz.v,dB.v,(zi aa.Source.Version),dw.v,(zi aa.Cache.Age),(zi aa.Now),dE.v,dG.v,(zi aa.Spent),dI.v]),(zi gW)] [ah ae aa.Schema,bW aP aa.Methods,fq cz aa.Rules,bH dB aa.Source.Facts,dM dw aa.Cache.Entries,eH dE aa.Log,ah dG aa.Times,bB (aD 152 (aD 24 (aD 3 az))) dI.v aa.Results] (fun p:Sv×List Nat×Sv×List Nat×Sv×List Nat×Sv×List Nat×Sv×List Nat×Sv×List Nat×Sv×List Nat×Sv×List Nat=>(.tuple [(zg [p.1.v,p.2.2.1.v,p.2.2.2.2.1.v,p.2.2.2.2.2.2.1.v,(zi R.1.Source.Version),p.2.2.2.2.2.2.2.2.1.v,(zi R.1.Cache.Age),(zi R.1.Now),p.2.2.2.2.2.2.2.2.2.2.1.v,p.2.2.2.2.2.2.2.2.2.2.2.2.1.v,(zi R.1.Spent),p.2.2.2.2.2.2.2.2.2.2.2.2.2.2.1.v]),(.bool R.2)].toArray)) (fun p=>[bI p.2.1 p.1 R.1.Schema,nJ p.2.2.2.1 p.2.2.1 R.1.Methods,mE p.2.2.2.2.2.1 p.2.2.2.2.1 R.1.Rules,eP p.2.2.2.2.2.2.2.1 p.2.2.2.2.2.2.1 R.1.Source.Facts,oF p.2.2.2.2.2.2.2.2.2.1 p.2.2.2.2.2.2.2.2.1 R.1.Cache.Entries,kK p.2.2.2.2.2.2.2.2.2.2.2.1 p.2.2.2.2.2.2.2.2.2.2.1 R.1.Log,bI p.2.2.2.2.2.2.2.2.2.2.2.2.2.1 p.2.2.2.2.2.2.2.2.2.2.2.2.1 R.1.Times,aT (aF 152 (aF 24 (aF 3 (aC az)))) p.2.2.2.2.2.2.2.2.2.2.2.2.2.2.2 p.2.2.2.2.2.2.2.2.2.2.2.2.2.2.1.v R.1.Results]):=by
 refine Se 43 Tryz.func100 [.cell 4 36,.tmp 5] ?_
 intro H0 F0
 unfold Be at hF
 refine au ?_
 refine bP (fun k1=>?_)
 refine d_ (fun k2=>?_)
 refine bi ?_
 refine bnd hF fun r3 hx4 hF=>Ty (OC hx4) (fun p5=>?_)
 refine d_ (fun k6=>?_)
 refine As (zg [p5.1.v,p5.2.2.1.v,p5.2.2.2.2.1.v,p5.2.2.2.2.2.2.1.v,(zi r3.Source.Version),p5.2.2.2.2.2.2.2.2.1.v,(zi r3.Cache.Age),(zi r3.Now),p5.2.2.2.2.2.2.2.2.2.2.1.v,p5.2.2.2.2.2.2.2.2.2.2.2.2.1.v,(zi r3.Spent),p5.2.2.2.2.2.2.2.2.2.2.2.2.2.2.1.v]) ?_
 refine aU ?_
 obtain⟨o7,axu,hO8⟩:=bind_some hF
 refine au ?_
 refine fe (fun f' cs'=>∃(c17:Bool)(g:Fr),c17=o7/\f'=aQ g [(1,(zi gW)),(2,(pz k1)),(4,(pz k2)),(6,(pz k6)),(25,(.bool c17))]/\aO cs' [aX k1 36 (zg [ae.v,aP.v,cz.v,dB.v,(zi aa.Source.Version),dw.v,(zi aa.Cache.Age),(zi aa.Now),dE.v,dG.v,(zi aa.Spent),dI.v]),ah ae aa.Schema,bW aP aa.Methods,fq cz aa.Rules,bH dB aa.Source.Facts,dM dw aa.Cache.Entries,eH dE aa.Log,ah dG aa.Times,bB (aD 152 (aD 24 (aD 3 az))) dI.v aa.Results,aW k2 36 (.agg ([(.slice none 0 0),(.slice none 0 0),(.slice none 0 0),(.slice none 0 0),(zi 0),(.slice none 0 0),(zi 0),(zi 0),(.slice none 0 0),(.slice none 0 0),(zi 0),(.slice none 0 0)]:List Value).toArray),aW k6 36 (zg [p5.1.v,p5.2.2.1.v,p5.2.2.2.2.1.v,p5.2.2.2.2.2.2.1.v,(zi r3.Source.Version),p5.2.2.2.2.2.2.2.2.1.v,(zi r3.Cache.Age),(zi r3.Now),p5.2.2.2.2.2.2.2.2.2.2.1.v,p5.2.2.2.2.2.2.2.2.2.2.2.2.1.v,(zi r3.Spent),p5.2.2.2.2.2.2.2.2.2.2.2.2.2.2.1.v]),bI p5.2.1 p5.1 r3.Schema,nJ p5.2.2.2.1 p5.2.2.1 r3.Methods,mE p5.2.2.2.2.2.1 p5.2.2.2.2.1 r3.Rules,eP p5.2.2.2.2.2.2.2.1 p5.2.2.2.2.2.2.1 r3.Source.Facts,oF p5.2.2.2.2.2.2.2.2.2.1 p5.2.2.2.2.2.2.2.2.1 r3.Cache.Entries,kK p5.2.2.2.2.2.2.2.2.2.2.2.1 p5.2.2.2.2.2.2.2.2.2.2.1 r3.Log,bI p5.2.2.2.2.2.2.2.2.2.2.2.2.2.1 p5.2.2.2.2.2.2.2.2.2.2.2.2.1 r3.Times,aT (aF 152 (aF 24 (aF 3 (aC az)))) p5.2.2.2.2.2.2.2.2.2.2.2.2.2.2.2 p5.2.2.2.2.2.2.2.2.2.2.2.2.2.2.1.v r3.Results]) ?_ ?_
 · replace hF:=axu
   refine au ?_
   refine bnd hF fun r9 jI hF=>bC (vG jI) (fun _=>?_)
   refine aU ?_
   rcases bD (!r9)with lI|lI
   · rw[lI]
     try rw[lI]at hF; dsimp only[aJ,aI]at hF
     exact bK hF
   rw[lI]
   try rw[lI]at hF; dsimp only[aJ,aI]at hF
   refine bv ?_
   refine bnd hF fun o5 kr hF=>bC (jT kr) (fun _=>?_)
   refine bi ?_
   rcases bD (!o5)with yK|yK
   · rw[yK]
     try rw[yK]at hF; dsimp only[aJ,aI]at hF
     exact bK hF
   rw[yK]
   try rw[yK]at hF; dsimp only[aJ,aI]at hF
   exact bK hF
 rintro _ _ ⟨c17,g23,rfl,rfl,hE⟩
 replace hF:=hO8
 try dsimp only at hF
 refine bu hE ?_
 refine Ci hF (fun vZ hF=>?_) (fun vZ hF=>?_)
 · refine aU ?_
   refine As (zg [p5.1.v,p5.2.2.1.v,p5.2.2.2.2.1.v,p5.2.2.2.2.2.2.1.v,(zi r3.Source.Version),p5.2.2.2.2.2.2.2.2.1.v,(zi r3.Cache.Age),(zi r3.Now),p5.2.2.2.2.2.2.2.2.2.2.1.v,p5.2.2.2.2.2.2.2.2.2.2.2.2.1.v,(zi r3.Spent),p5.2.2.2.2.2.2.2.2.2.2.2.2.2.2.1.v]) ?_
   refine bv ?_
   cases hF
   exact gU (p5.1,p5.2.1,p5.2.2.1,p5.2.2.2.1,p5.2.2.2.2.1,p5.2.2.2.2.2.1,p5.2.2.2.2.2.2.1,p5.2.2.2.2.2.2.2.1,p5.2.2.2.2.2.2.2.2.1,p5.2.2.2.2.2.2.2.2.2.1,p5.2.2.2.2.2.2.2.2.2.2.1,p5.2.2.2.2.2.2.2.2.2.2.2.1,p5.2.2.2.2.2.2.2.2.2.2.2.2.1,p5.2.2.2.2.2.2.2.2.2.2.2.2.2.1,p5.2.2.2.2.2.2.2.2.2.2.2.2.2.2.1,p5.2.2.2.2.2.2.2.2.2.2.2.2.2.2.2) (.cellA rfl rfl .h rfl gP.h eG.h.sz rfl rfl (.tmp rfl rfl .nil)) rfl (.sel (.cons .q11 (.cons .q11 (.cons .q11 (.cons .q11 (.cons .q11 (.cons .q11 (.cons .q11 (.cons .q11 .nil)))))))))
 refine bJ ?_
 refine As (zg [p5.1.v,p5.2.2.1.v,p5.2.2.2.2.1.v,p5.2.2.2.2.2.2.1.v,(zi r3.Source.Version),p5.2.2.2.2.2.2.2.2.1.v,(zi r3.Cache.Age),(zi (IntKind.i64.wrap (aa.Now+gW))),p5.2.2.2.2.2.2.2.2.2.2.1.v,p5.2.2.2.2.2.2.2.2.2.2.2.2.1.v,(zi r3.Spent),p5.2.2.2.2.2.2.2.2.2.2.2.2.2.2.1.v]) ?_
 refine bv ?_
 refine eu .h (fun hp=>j_ (s:=2) (l:=[p5.2.2.2.2.2.2.2.2.1.v,(zi r3.Cache.Age)]) u7.h oW.h.sz (.tmp rfl rfl) hp.2 rfl (by decide) (Nat.le_of_ble_eq_true rfl) rfl) ?_
 refine aU ?_
 refine bnd hF fun nz kR hF=>uZ (.cons (.t (.t (.t (.t (.t (.t (.t (.t (.t (.t (.t (.t (.t (.t (.t .h))))))))))))))) .nil) (jV aG (fun _=>(.cons .nil)) (bV asC.h cu (anJ kR))) (fun mi=>?_)
 refine au ?_
 refine zx ?_
 refine zx ?_
 refine d_ (fun k21=>?_)
 refine As (zg [mi.1.v,(zi nz.1.Age)]) ?_
 refine aZ ?_
 refine As (zg [p5.1.v,p5.2.2.1.v,p5.2.2.2.2.1.v,p5.2.2.2.2.2.2.1.v,(zi r3.Source.Version),mi.1.v,(zi nz.1.Age),(zi (IntKind.i64.wrap (aa.Now+gW))),p5.2.2.2.2.2.2.2.2.2.2.1.v,p5.2.2.2.2.2.2.2.2.2.2.2.2.1.v,(zi r3.Spent),p5.2.2.2.2.2.2.2.2.2.2.2.2.2.2.1.v]) ?_
 refine bv ?_
 refine As (zg [p5.1.v,p5.2.2.1.v,p5.2.2.2.2.1.v,p5.2.2.2.2.2.2.1.v,(zi r3.Source.Version),mi.1.v,(zi nz.1.Age),(zi (IntKind.i64.wrap (aa.Now+gW))),p5.2.2.2.2.2.2.2.2.2.2.1.v,p5.2.2.2.2.2.2.2.2.2.2.2.2.1.v,(zi r3.Spent),p5.2.2.2.2.2.2.2.2.2.2.2.2.2.2.1.v]) ?_
 refine bv ?_
 cases hF
 exact gU (p5.1,p5.2.1,p5.2.2.1,p5.2.2.2.1,p5.2.2.2.2.1,p5.2.2.2.2.2.1,p5.2.2.2.2.2.2.1,p5.2.2.2.2.2.2.2.1,mi.1,mi.2,p5.2.2.2.2.2.2.2.2.2.2.1,p5.2.2.2.2.2.2.2.2.2.2.2.1,p5.2.2.2.2.2.2.2.2.2.2.2.2.1,p5.2.2.2.2.2.2.2.2.2.2.2.2.2.1,p5.2.2.2.2.2.2.2.2.2.2.2.2.2.2.1,p5.2.2.2.2.2.2.2.2.2.2.2.2.2.2.2) (.cellA rfl rfl .h rfl gP.h eG.h.sz rfl rfl (.tmp rfl rfl .nil)) rfl (.sel (.cons .q14 (.cons .q14 (.cons .q14 (.cons .q14 (.cons .q4 (.cons .q13 (.cons .q13 (.cons .q13 .nil)))))))))
def BD(iQ:Int):Option (Bool):=
 (iT iQ 10 17).bind fun r1=>
 some r1
theorem LC{iQ:Int}{R:Bool}(hF:BD iQ=some R):
   Fw.Spec Tryz.prog 176 [(zi iQ)] [] (fun _:Unit=>(.bool R)) (fun _=>[]):=by
 refine Se 5 Tryz.func176 [.tmp 2] ?_
 intro H0 F0
 unfold BD at hF
 refine aZ ?_
 refine bnd hF fun r1 hx2 hF=>bC (jT hx2) (fun _=>?_)
 exact ze hF
def LD(aS:Int):List Int->Nat->Option (Bool)
 |[],k4=>some false
 |x6::aM,k4=>if ((x6:Int)==aS)then (
     some true)
   else (
     LD aS aM (k4+1))
def BF(ai:List Int)(aS:Int):Option (Bool):=
 LD aS ai 0
theorem Pb{ai:List Int}{ae:Sv}{aS:Int}{R:Bool}(hF:BF ai aS=some R):
   Fw.Spec Tryz.prog 162 [ae.v,(zi aS)] [ah ae ai] (fun _:Unit=>(.bool R)) (fun _=>[]):=by
 refine Se 18 Tryz.func162 [.tmp 4] ?_
 intro H0 F0
 unfold BF at hF
 refine bJ ?_
 refine bn (bU (m:=ai.length) (fun m2 f' cs'=>∃(g:Fr)(k4:Nat)(aM:List Int),m2=aM.length/\f'=aQ g [(0,ae.v),(1,(zi aS)),(5,(zi (k4:Int)))]/\List.drop k4 ai=aM/\aO cs' [ah ae ai]/\LD aS aM k4=some R) ⟨_,0,_,rfl,aA,rfl,ay,hF⟩ ?_)
 rintro m2 _ _ ⟨g3,k4,aM,rfl,rfl,hd7,hE,hF⟩
 refine Kb hE ai (fun kY=>?_)
 rcases aM with _|⟨x6,aM⟩
 · have gH:=dn hd7
   rw[LD]at hF
   refine bJ ?_
   refine dL ?_
   exact ze hF
 obtain⟨gH,bZ,gG⟩:=dA hd7
 rw[LD]at hF
 refine bJ ?_
 refine dK ?_
 refine aZ ?_
 refine Ai bZ (fun k13 oK=>?_)
 refine Al dP ?_
 refine bv ?_
 refine Ci hF (fun C8 hF=>?_) (fun C8 hF=>?_)
 · exact ze hF
 refine bE ?_
 rw[wk k4]
 exact⟨_,bY _,_,k4+1,aM,rfl,aA,gG,ay,hF⟩
def IJ(ai:List Int)(aS:Int):Nat->(List Int)->Bool->Int->Option ((List Int))
 |0,_,_,_=>none
 |m10+1,c5,c8,c9=>if (decide ((c9:Int)<(ai.length:Int)))then (
     ((bif (!c8)then ((ix ai c9).bind fun nR=>
           some (decide ((aS:Int)<nR)))
         else (some false)).bind fun Gq=>
       match Gq with
       |qH=>if qH then (
           (app c5 ([aS]:List Int)).bind fun z32=>
           (ix ai c9).bind fun x38=>
           (app z32 ([x38]:List Int)).bind fun z43=>
           some (z43,true))
         else (
           (ix ai c9).bind fun TQ=>
           (app c5 ([TQ]:List Int)).bind fun z54=>
           some (z54,c8))).bind fun kS=>
     match kS with
     |(c59,rU)=>IJ ai aS m10 c59 rU (IntKind.i64.wrap (c9+1)))
   else (
     if (!c8)then (
       (app c5 ([aS]:List Int)).bind fun z65=>
       some z65)
     else (
       some c5))
def Ja(ai:List Int)(aS:Int):Option ((List Int)):=
 (BF ai aS).bind fun r1=>
 if r1 then (
   some ai)
 else (
   IJ ai aS (((ai.length:Int)-0).toNat+2) ([]:List Int) false 0)
theorem ZB{ai:List Int}{ae:Sv}{xw:List Nat}{aS:Int}{R:(List Int)}(hF:Ja ai aS=some R):
   Fw.Spec Tryz.prog 177 [ae.v,(zi aS)] [bI xw ae ai] (fun p:Sv×List Nat=>p.1.v) (fun p=>[bI p.2 p.1 R]):=by
 refine Se 47 Tryz.func177 [.tmp 4] ?_
 intro H0 F0
 unfold Ja at hF
 refine bJ ?_
 refine bnd hF fun r1 hx2 hF=>ek (.cons .h .nil) (jV aG (fun _=>.nil) (bV Wj.h cu (Pb hx2))) (fun _=>?_)
 refine au ?_
 refine Ci hF (fun axv hF=>?_) (fun axv hF=>?_)
 · refine aZ ?_
   cases hF
   exact Er (ae,xw)
 refine aU ?_
 refine dH rfl (bQ (g:=true) di.h dx.h .nil (vs:=[]) rfl rfl rfl (by simp)) (fun k4=>?_)
 refine dR (.cons .h .nil) (bS (Ro:=(aC az)) (E:=3) (F:=[]) (xs:=([]:List Int)) bR rfl rfl) ?_
 refine gF ?_
 refine bn (bU (m:=(((ai.length:Int)-0).toNat+2)) (fun m10 f' cs'=>∃(g:Fr)(c5:List Int)(c8:Bool)(c9:Int)(v6:Sv)(F7:List Nat),f'=aQ g [(0,ae.v),(1,(zi aS)),(5,v6.v),(6,(.bool c8)),(7,(zi c9))]/\aO cs' [bI xw ae ai,bI F7 v6 c5]/\IJ ai aS m10 c5 c8 c9=some R) ⟨_,_,_,_,⟨(some ⟨k4,0,none⟩),0,1⟩,(k4::[]),aA,ay,hF⟩ ?_)
 rintro m10 _ _ ⟨g11,c5,c8,c9,v6,F7,rfl,hE,hF⟩
 refine bu hE ?_
 rcases m10 with _|m10
 · rw[IJ]at hF
   exact absurd hF (by simp)
 rw[IJ]at hF
 refine bJ ?_
 refine Ci hF (fun aca hF=>?_) (fun aca hF=>?_)
 · refine au ?_
   obtain⟨kS,vQ,wz⟩:=bind_some hF
   refine iF (fun f' cs'=>∃(c59:List Int)(rU:Bool)(v60:Sv)(F61:List Nat)(g:Fr),kS=(c59,rU)/\f'=aQ g [(0,ae.v),(1,(zi aS)),(5,v60.v),(6,(.bool rU)),(7,(zi c9))]/\aO cs' [bI xw ae ai,bI F61 v60 c59]) ?_ ?_
   · replace hF:=vQ
     refine bn (j4 ?_)
     obtain⟨Gq,aaZ,acH⟩:=bind_some hF
     refine au ?_
     refine fe (fun f' cs'=>∃(qH:Bool)(g:Fr),qH=Gq/\f'=aQ g [(0,ae.v),(1,(zi aS)),(5,v6.v),(6,(.bool c8)),(7,(zi c9)),(28,(.bool qH))]/\aO cs' [bI xw ae ai,bI F7 v6 c5]) ?_ ?_
     · replace hF:=aaZ
       refine bv ?_
       rcases bD (!c8)with yJ|yJ
       · rw[yJ]
         try rw[yJ]at hF; dsimp only[aJ,aI]at hF
         refine aZ ?_
         refine bnd hF fun nR hx27 hF=>?_
         have axw:=aai hx27
         obtain⟨Xu,hx29⟩:=E5 hx27
         refine PV di.h dx.h.sz (.tmp rfl rfl) (.tmp rfl rfl) .h axw (fun k23 JH=>?_)
         refine au ?_
         refine aaF (w:=(zi nR)) qd.h (.tmp rfl rfl) .h JH hx29 aaJ ?_
         exact bK hF
       rw[yJ]
       try rw[yJ]at hF; dsimp only[aJ,aI]at hF
       exact bK hF
     rintro _ _ ⟨qH,g58,rfl,rfl,hE⟩
     replace hF:=acH
     try dsimp only at hF
     refine bu hE ?_
     refine Ci hF (fun Dh hF=>?_) (fun Dh hF=>?_)
     · refine bv ?_
       refine dH rfl (bQ (g:=true) di.h dx.h cu (vs:=[(zi aS)]) rfl rfl rfl (by intro v hv; simp at hv; rcases hv with rfl<;>rfl)) (fun Gl=>?_)
       refine dR (.cons .h .nil) (bS (Ro:=(aC az)) (E:=3) (F:=([]++[])) (xs:=([aS]:List Int)) (ed (jF (fun _=>rfl)) bR cK) rfl rfl) ?_
       refine bnd hF fun z32 wm hF=>ek (.cons .q2 (.cons .h .nil)) (dX (Ro:=(aC az)) di.h jc dx.h rfl rfl rfl (.tmp rfl rfl) (.tmp rfl rfl) wm fU) (fun p34=>?_)
       refine gF ?_
       refine bnd hF fun x38 hx39 hF=>?_
       have axx:=aai hx39
       obtain⟨aj0,JI⟩:=E5 hx39
       refine PV di.h dx.h.sz (.tmp rfl rfl) (.tmp rfl rfl) (.t .h) axx (fun nC axy=>?_)
       refine aaF (w:=(zi x38)) qd.h (.tmp rfl rfl) (.t .h) axy JI aaJ ?_
       refine dH rfl (bQ (g:=true) di.h dx.h cu (vs:=[(zi x38)]) rfl rfl rfl (by intro v hv; simp at hv; rcases hv with rfl<;>rfl)) (fun Yj=>?_)
       refine dR (.cons .h .nil) (bS (Ro:=(aC az)) (E:=3) (F:=([]++[])) (xs:=([x38]:List Int)) (ed (jF (fun _=>rfl)) bR cK) rfl rfl) ?_
       refine bnd hF fun z43 Rq hF=>ek (.cons (.t .h) (.cons .h .nil)) (dX (Ro:=(aC az)) di.h jc dx.h rfl rfl rfl (.tmp rfl rfl) (.tmp rfl rfl) Rq fU) (fun p45=>?_)
       refine aU ?_
       cases hF
       exact⟨_,_,p45.1,p45.2,_,rfl,aA,ay⟩
     refine aZ ?_
     refine bnd hF fun TQ Nc hF=>?_
     have axz:=aai Nc
     obtain⟨aCZ,JJ⟩:=E5 Nc
     refine PV di.h dx.h.sz (.tmp rfl rfl) (.tmp rfl rfl) .h axz (fun k46 axA=>?_)
     refine aaF (w:=(zi TQ)) qd.h (.tmp rfl rfl) .h axA JJ aaJ ?_
     refine dH rfl (bQ (g:=true) di.h dx.h cu (vs:=[(zi TQ)]) rfl rfl rfl (by intro v hv; simp at hv; rcases hv with rfl<;>rfl)) (fun k53=>?_)
     refine dR (.cons .h .nil) (bS (Ro:=(aC az)) (E:=3) (F:=([]++[])) (xs:=([TQ]:List Int)) (ed (jF (fun _=>rfl)) bR cK) rfl rfl) ?_
     refine bnd hF fun z54 JG hF=>ek (.cons .q2 (.cons .h .nil)) (dX (Ro:=(aC az)) di.h jc dx.h rfl rfl rfl (.tmp rfl rfl) (.tmp rfl rfl) JG fU) (fun p56=>?_)
     refine aU ?_
     cases hF
     exact⟨_,_,p56.1,p56.2,_,rfl,aA,ay⟩
   rintro _ _ ⟨c59,rU,v60,F61,g63,rfl,rfl,hE⟩
   replace hF:=wz
   try dsimp only at hF
   refine bu hE ?_
   refine aZ ?_
   exact⟨m10,bY _,_,_,_,_,v60,F61,aA,ay,hF⟩
 refine gF ?_
 refine Ci hF (fun axB hF=>?_) (fun axB hF=>?_)
 · refine bv ?_
   refine dH rfl (bQ (g:=true) di.h dx.h cu (vs:=[(zi aS)]) rfl rfl rfl (by intro v hv; simp at hv; rcases hv with rfl<;>rfl)) (fun k64=>?_)
   refine dR (.cons .h .nil) (bS (Ro:=(aC az)) (E:=3) (F:=([]++[])) (xs:=([aS]:List Int)) (ed (jF (fun _=>rfl)) bR cK) rfl rfl) ?_
   refine bnd hF fun z65 acI hF=>ek (.cons .q2 (.cons .h .nil)) (dX (Ro:=(aC az)) di.h jc dx.h rfl rfl rfl (.tmp rfl rfl) (.tmp rfl rfl) acI fU) (fun p67=>?_)
   refine bJ ?_
   cases hF
   exact Er (p67.1,p67.2)
 refine bE ?_
 cases hF
 exact Er (v6,F7)
def EG(iO:Atom):Nat->(List Int)->Int->Option ((List Int))
 |0,_,_=>none
 |m24+1,c20,c23=>if (decide ((c23:Int)<(iO.Terms.length:Int)))then (
     ((ix iO.Terms c23).bind fun x40=>
       (BD x40).bind fun xC=>
       if xC then (
         (ix iO.Terms c23).bind fun TR=>
         (Ja c20 TR).bind fun sM=>
         some sM)
       else (
         some c20)).bind fun zb=>
     match zb with
     |rU=>EG iO m24 rU (IntKind.i64.wrap (c23+1)))
   else (
     some c20)
def Iq:List Atom->Nat->(List Int)->Option ((List Int))
 |[],k9,c3=>some c3
 |iO::gJ,k9,c3=>(EG iO (((iO.Terms.length:Int)-0).toNat+2) c3 0).bind fun kS=>
   match kS with
   |zf=>Iq gJ (k9+1) zf
def I7(aK:Query):Option ((List Int)):=
 Iq aK.Atoms 0 ([]:List Int)
theorem Zn{aK:Query}{ae aP:Sv}{R:(List Int)}(hF:I7 aK=some R):
   Fw.Spec Tryz.prog 141 [(zg [ae.v,aP.v])] [ah ae aK.Head,eX aP aK.Atoms] (fun p:Sv×List Nat=>p.1.v) (fun p=>[bI p.2 p.1 R]):=by
 refine Se 47 Tryz.func141 [.tmp 2] ?_
 intro H0 F0
 unfold I7 at hF
 refine au ?_
 refine bP (fun k1=>?_)
 refine bv ?_
 refine dH rfl (bQ (g:=true) di.h dx.h .nil (vs:=[]) rfl rfl rfl (by simp)) (fun k2=>?_)
 refine dR (.cons .h .nil) (bS (Ro:=(aC az)) (E:=3) (F:=[]) (xs:=([]:List Int)) bR rfl rfl) ?_
 refine bE ?_
 refine bn (bU (m:=aK.Atoms.length) (fun m7 f' cs'=>∃(g:Fr)(k9:Nat)(gJ:List Atom)(c3:List Int)(v4:Sv)(F5:List Nat),m7=gJ.length/\f'=aQ g [(1,(pz k1)),(3,v4.v),(4,(zi (k9:Int)))]/\List.drop k9 aK.Atoms=gJ/\aO cs' [aX k1 120 (zg [ae.v,aP.v]),ah ae aK.Head,eX aP aK.Atoms,bI F5 v4 c3]/\Iq gJ k9 c3=some R) ⟨_,0,_,_,⟨(some ⟨k2,0,none⟩),0,1⟩,(k2::[]),rfl,aA,rfl,ay,hF⟩ ?_)
 rintro m7 _ _ ⟨g8,k9,gJ,c3,v4,F5,rfl,rfl,mR,hE,hF⟩
 refine Kb hE aK.Atoms (fun Qp=>?_)
 rcases gJ with _|⟨iO,gJ⟩
 · have yL:=dn mR
   rw[Iq]at hF
   refine dN ?_
   refine dL ?_
   refine gF ?_
   cases hF
   exact Er (v4,F5)
 obtain⟨yL,kr,rF⟩:=dA mR
 rw[Iq]at hF
 refine dN ?_
 refine dK ?_
 refine au ?_
 obtain⟨kS,vQ,wz⟩:=bind_some hF
 refine iF (fun f' cs'=>∃(zf:List Int)(v68:Sv)(Ki:List Nat)(g:Fr),zf=kS/\f'=aQ g [(1,(pz k1)),(3,v68.v),(4,(zi (k9:Int)))]/\aO cs' [aX k1 120 (zg [ae.v,aP.v]),ah ae aK.Head,eX aP aK.Atoms,bI Ki v68 zf]) ?_ ?_
 · replace hF:=vQ
   refine bn (dC (aN (jW (v:=(zi 0)) (.int _ _)) ?_))
   refine au ?_
   refine bn (bU (m:=(((iO.Terms.length:Int)-0).toNat+2)) (fun m24 f' cs'=>∃(g:Fr)(c20:List Int)(c23:Int)(v21:Sv)(vD:List Nat),f'=aQ g [(1,(pz k1)),(3,v21.v),(4,(zi (k9:Int))),(5,(zi c23))]/\aO cs' [aX k1 120 (zg [ae.v,aP.v]),ah ae aK.Head,eX aP aK.Atoms,bI vD v21 c20]/\EG iO m24 c20 c23=some kS) ⟨_,_,_,v4,F5,aA,ay,hF⟩ ?_)
   rintro m24 _ _ ⟨TE,c20,c23,v21,vD,rfl,hE,hF⟩
   refine bu hE ?_
   rcases m24 with _|m24
   · rw[EG]at hF
     exact absurd hF (by simp)
   rw[EG]at hF
   refine bE ?_
   refine Ai kr (fun TI j33=>?_)
   refine au ?_
   refine vL (R':=(aD 3 az)) iC.h (.tmp rfl rfl) .h zC (fun w34=>?_)
   refine bv ?_
   refine Ci hF (fun RS hF=>?_) (fun RS hF=>?_)
   · refine au ?_
     obtain⟨zb,Qq,RU⟩:=bind_some hF
     refine iF (fun f' cs'=>∃(rU:List Int)(v63:Sv)(Kk:List Nat)(g:Fr),rU=zb/\f'=aQ g [(1,(pz k1)),(3,v63.v),(4,(zi (k9:Int))),(5,(zi c23))]/\aO cs' [aX k1 120 (zg [ae.v,aP.v]),ah ae aK.Head,eX aP aK.Atoms,bI Kk v63 rU]) ?_ ?_
     · replace hF:=Qq
       refine bn (dC (aN (iK (off:=1) aab.h (.tmp rfl rfl)) ?_))
       refine aU ?_
       refine Ai kr (fun TG TH=>?_)
       refine au ?_
       refine vL (R':=(aD 3 az)) iC.h (.tmp rfl rfl) .h zC (fun w39=>?_)
       refine au ?_
       refine zI hF fun x40 ajO qA hF=>?_
       refine Ai qA (fun Yk Yl=>?_)
       refine Al dP ?_
       refine bnd hF fun xC Dc hF=>bC (LC Dc) (fun _=>?_)
       refine au ?_
       refine Ci hF (fun Jw hF=>?_) (fun Jw hF=>?_)
       · refine aZ ?_
         refine Ai kr (fun Tz Yw=>?_)
         refine au ?_
         refine vL (R':=(aD 3 az)) iC.h (.tmp rfl rfl) .h zC (fun w51=>?_)
         refine au ?_
         refine zI hF fun TR axC JG hF=>?_
         refine Ai JG (fun k56 j57=>?_)
         refine Al dP ?_
         refine bnd hF fun sM CY hF=>gB (ZB CY) (fun p60=>?_)
         refine aU ?_
         cases hF
         exact⟨_,p60.1,p60.2,_,rfl,aA,ay⟩
       refine au ?_
       cases hF
       exact⟨_,v21,vD,_,rfl,aA,ay⟩
     rintro _ _ ⟨rU,v63,Kk,g65,rfl,rfl,hE⟩
     replace hF:=RU
     try dsimp only at hF
     refine bu hE ?_
     refine aZ ?_
     exact⟨m24,bY _,_,_,_,v63,Kk,aA,ay,hF⟩
   refine bi ?_
   cases hF
   exact⟨_,v21,vD,_,rfl,aA,ay⟩
 rintro _ _ ⟨zf,v68,Ki,g71,rfl,rfl,hE⟩
 replace hF:=wz
 try dsimp only at hF
 refine bu hE ?_
 refine aZ ?_
 rw[wk k9]
 exact⟨_,bY _,_,k9+1,gJ,_,v68,Ki,rfl,aA,rF,ay,hF⟩
def HZ(aj:bg)(ag:List Int)(c119:List Atom)(pU:Int×bg):Nat->Int->Int->(List Int)->Int->Option (Int×Int×(List Atom))
 |0,_,_,_,_=>none
 |JK+1,uk,um,Dj,c182=>(ix ag pU.1).bind fun aj1=>
   if (decide ((c182:Int)<aj1))then (
     ((kE (⟨aj.b,uk,um⟩:bg) 4).bind fun Nf=>
       (ET (⟨aj.b,Nf.2.i,Nf.2.h⟩:bg) 4).bind fun Ng=>
       if Ng.1 then (
         (kE (⟨aj.b,Ng.2.i,Ng.2.h⟩:bg) 4).bind fun Aa=>
         (app Dj ([Aa.1]:List Int)).bind fun aj2=>
         some (Aa.2.i,Aa.2.h,aj2))
       else (
         (app Dj ([(IntKind.i64.wrap (10+Nf.1))]:List Int)).bind fun z213=>
         some (Ng.2.i,Ng.2.h,z213))).bind fun JL=>
     match JL with
     |(RV,c218,RX)=>HZ aj ag c119 pU JK RV c218 RX (IntKind.i64.wrap (c182+1)))
   else (
     (app c119 ([(⟨pU.1,Dj⟩:Atom)]:List Atom)).bind fun aj3=>
     some (uk,um,aj3))
def H5(aj:bg)(c119:List Atom):Nat->Int->Int->(List Int)->(List Int)->Int->Option (Query×bg)
 |0,_,_,_,_,_=>none
 |JM+1,JN,JO,Ab,yM,yN=>if ((decide ((yN:Int)<(yM.length:Int)))&&(decide (((Ab.length:Int):Int)<2)))then (
     ((ET (⟨aj.b,JN,JO⟩:bg) 2).bind fun Nh=>
       if Nh.1 then (
         (ix yM yN).bind fun Xv=>
         (app Ab ([Xv]:List Int)).bind fun aj4=>
         some (Nh.2.i,Nh.2.h,aj4))
       else (
         some (Nh.2.i,Nh.2.h,Ab))).bind fun acJ=>
     match acJ with
     |(RY,RZ,R3)=>H5 aj c119 JM RY RZ R3 yM (IntKind.i64.wrap (yN+1)))
   else (
     some ((⟨Ab,c119⟩:Query),(⟨aj.b,JN,JO⟩:bg)))
def H6(aj:bg)(ag:List Int)(fuel:Nat):Nat->Int->Int->(List Atom)->Int->Option (Query×bg)
 |0,_,_,_,_=>none
 |JP+1,c117,Ni,c119,rG=>if (decide ((0:Int)<rG))then (
     ((kE (⟨aj.b,c117,Ni⟩:bg) (ag.length:Int)).bind fun pU=>
       HZ aj ag c119 pU fuel pU.2.i pU.2.h ([]:List Int) 0).bind fun Xw=>
     match Xw with
     |(c228,c229,yO)=>H6 aj ag fuel JP c228 c229 yO (IntKind.i64.wrap (rG-1)))
   else (
     (I7 (⟨[],c119⟩:Query)).bind fun Xx=>
     H5 aj c119 (((Xx.length:Int)-0).toNat+2) c117 Ni ([]:List Int) Xx 0)
def IV(fuel:Nat)(aj:bg)(ag:List Int):Option (Query×bg):=
 (kE aj 3).bind fun r3=>
 H6 aj ag fuel (((IntKind.i64.wrap (1+r3.1))-0).toNat+2) r3.2.i r3.2.h ([]:List Atom) (IntKind.i64.wrap (1+r3.1))
theorem U6{fuel bG:Nat}{aj:bg}{ae:Sv}{ag:List Int}{ax:Sv}{R:Query×bg}(hF:IV fuel aj ag=some R):
   Fw.Spec Tryz.prog 102 [(pz bG),ax.v] [aW bG 77 (zg [ae.v,(zi aj.i),(zi aj.h)]),kz ae aj.b,ah ax ag] (fun p:Sv×List Nat×Sv×List Nat=>(zg [p.1.v,p.2.2.1.v])) (fun p=>[bI p.2.1 p.1 R.1.Head,qo p.2.2.2 p.2.2.1 R.1.Atoms,aW bG 77 (zg [ae.v,(zi R.2.i),(zi R.2.h)])]):=by
 refine Se 79 Tryz.func102 [.cell 4 120] ?_
 intro H0 F0
 unfold IV at hF
 refine au ?_
 refine d_ (fun k1=>?_)
 refine aU ?_
 refine aN (iD Ji.h rfl (vs:=[]) .nil (cells:=[(.slice none 0 0),(.slice none 0 0)]) rfl) ?_
 refine d_ (fun k2=>?_)
 refine As (.agg ([(.slice none 0 0),(.slice none 0 0)]:List Value).toArray) ?_
 refine bi ?_
 refine bnd hF fun r3 hx4 hF=>gB (lm hx4) (fun p5=>?_)
 refine bv ?_
 refine bn (bU (m:=(((IntKind.i64.wrap (1+r3.1))-0).toNat+2)) (fun JP f' cs'=>∃(g:Fr)(c117 Ni:Int)(c119:List Atom)(rG:Int)(rH:Sv)(FM:List Nat),f'=aQ g [(0,(pz bG)),(1,ax.v),(4,(pz k1)),(5,(pz k2)),(6,(zi rG))]/\aO cs' [aW bG 77 (zg [ae.v,(zi c117),(zi Ni)]),kz ae aj.b,ah ax ag,aW k1 120 (.agg ([(.slice none 0 0),(.slice none 0 0)]:List Value).toArray),aW k2 120 (zg [(.slice none 0 0),rH.v]),qo FM rH c119]/\H6 aj ag fuel JP c117 Ni c119 rG=some R) ⟨_,_,_,_,_,⟨none,0,0⟩,[],aA,(.conv .nil (gV (Ro:=nH) (E:=159)) (.cons .nil) ay),hF⟩ ?_)
 rintro JP _ _ ⟨aC0,c117,Ni,c119,rG,rH,FM,rfl,hE,hF⟩
 refine bu hE ?_
 rcases JP with _|JP
 · rw[H6]at hF
   exact absurd hF (by simp)
 rw[H6]at hF
 refine aZ ?_
 refine Ci hF (fun atD hF=>?_) (fun atD hF=>?_)
 · refine au ?_
   obtain⟨Xw,aqt,atE⟩:=bind_some hF
   refine iF (fun f' cs'=>∃(c228 c229:Int)(yO:List Atom)(Dk:Sv)(acK:List Nat)(g:Fr),Xw=(c228,c229,yO)/\f'=aQ g [(0,(pz bG)),(1,ax.v),(4,(pz k1)),(5,(pz k2)),(6,(zi rG))]/\aO cs' [aW bG 77 (zg [ae.v,(zi c228),(zi c229)]),kz ae aj.b,ah ax ag,aW k1 120 (.agg ([(.slice none 0 0),(.slice none 0 0)]:List Value).toArray),aW k2 120 (zg [(.slice none 0 0),Dk.v]),qo acK Dk yO]) ?_ ?_
   · replace hF:=aqt
     refine bn (dC (Cm (pz bG) rfl rfl ?_))
     refine aU ?_
     refine bnd hF fun pU atF hF=>gB (lm atF) (fun aC1=>?_)
     refine aN (iD qO.h rfl (vs:=[(zi pU.1)]) cu (cells:=[(zi pU.1),(.slice none 0 0)]) rfl) ?_
     refine d_ (fun Xy=>?_)
     refine As (zg [(zi pU.1),(.slice none 0 0)]) ?_
     refine aZ ?_
     refine bn (bU (m:=fuel) (fun JK f' cs'=>∃(g:Fr)(uk um:Int)(Dj:List Int)(c182:Int)(Xz:Sv)(acL:List Nat),f'=aQ g [(0,(pz bG)),(1,ax.v),(4,(pz k1)),(5,(pz k2)),(6,(zi rG)),(7,(pz Xy)),(8,(zi c182))]/\aO cs' [aW bG 77 (zg [ae.v,(zi uk),(zi um)]),kz ae aj.b,ah ax ag,aW k1 120 (.agg ([(.slice none 0 0),(.slice none 0 0)]:List Value).toArray),aW k2 120 (zg [(.slice none 0 0),rH.v]),qo FM rH c119,aW Xy 159 (zg [(zi pU.1),Xz.v]),bI acL Xz Dj]/\HZ aj ag c119 pU JK uk um Dj c182=some Xw) ⟨_,_,_,_,_,⟨none,0,0⟩,[],aA,(.conv .nil (gV (Ro:=(aC az)) (E:=3)) (.cons .nil) ay),hF⟩ ?_)
     rintro JK _ _ ⟨aC2,uk,um,Dj,c182,Xz,acL,rfl,hE,hF⟩
     refine bu hE ?_
     rcases JK with _|JK
     · rw[HZ]at hF
       exact absurd hF (by simp)
     rw[HZ]at hF
     refine bE ?_
     refine zI hF fun aj1 aAN atG hF=>?_
     refine Ai atG (fun aC3 aC4=>?_)
     refine Al dP ?_
     refine aU ?_
     refine Ci hF (fun atH hF=>?_) (fun atH hF=>?_)
     · refine au ?_
       obtain⟨JL,aaq,aa0⟩:=bind_some hF
       refine iF (fun f' cs'=>∃(RV c218:Int)(RX:List Int)(XA:Sv)(acM:List Nat)(g:Fr),JL=(RV,c218,RX)/\f'=aQ g [(0,(pz bG)),(1,ax.v),(4,(pz k1)),(5,(pz k2)),(6,(zi rG)),(7,(pz Xy)),(8,(zi c182))]/\aO cs' [aW bG 77 (zg [ae.v,(zi RV),(zi c218)]),kz ae aj.b,ah ax ag,aW k1 120 (.agg ([(.slice none 0 0),(.slice none 0 0)]:List Value).toArray),aW k2 120 (zg [(.slice none 0 0),rH.v]),qo FM rH c119,aW Xy 159 (zg [(zi pU.1),XA.v]),bI acM XA RX]) ?_ ?_
       · replace hF:=aaq
         refine bn (dC (Cm (pz bG) rfl rfl ?_))
         refine bnd hF fun Nf atI hF=>gB (lm atI) (fun axD=>?_)
         refine bE ?_
         refine bnd hF fun Ng atJ hF=>gB (OQ atJ) (fun aC5=>?_)
         refine au ?_
         refine Ci hF (fun atK hF=>?_) (fun atK hF=>?_)
         · refine aU ?_
           refine bnd hF fun Aa aa1 hF=>gB (lm aa1) (fun XB=>?_)
           refine bE ?_
           refine dH rfl (bQ (g:=true) di.h dx.h cu (vs:=[(zi Aa.1)]) rfl rfl rfl (by intro v hv; simp at hv; rcases hv with rfl<;>rfl)) (fun aC6=>?_)
           refine dR (.cons .h .nil) (bS (Ro:=(aC az)) (E:=3) (F:=([]++[])) (xs:=([Aa.1]:List Int)) (ed (jF (fun _=>rfl)) bR cK) rfl rfl) ?_
           refine bnd hF fun aj2 atL hF=>ek (.cons .q9 (.cons .h .nil)) (dX (Ro:=(aC az)) di.h jc dx.h rfl rfl rfl (.tmp rfl rfl) (.tmp rfl rfl) atL fU) (fun acN=>?_)
           refine au ?_
           refine As (zg [(zi pU.1),acN.1.v]) ?_
           refine au ?_
           cases hF
           exact⟨_,_,_,acN.1,acN.2,_,rfl,aA,ay⟩
         refine aZ ?_
         refine dH rfl (bQ (g:=true) di.h dx.h cu (vs:=[(zi (IntKind.i64.wrap (10+Nf.1)))]) rfl rfl rfl (by intro v hv; simp at hv; rcases hv with rfl<;>rfl)) (fun wB=>?_)
         refine dR (.cons .h .nil) (bS (Ro:=(aC az)) (E:=3) (F:=([]++[])) (xs:=([(IntKind.i64.wrap (10+Nf.1))]:List Int)) (ed (jF (fun _=>rfl)) bR cK) rfl rfl) ?_
         refine bnd hF fun z213 aa2 hF=>ek (.cons .q9 (.cons .h .nil)) (dX (Ro:=(aC az)) di.h jc dx.h rfl rfl rfl (.tmp rfl rfl) (.tmp rfl rfl) aa2 fU) (fun JQ=>?_)
         refine au ?_
         refine As (zg [(zi pU.1),JQ.1.v]) ?_
         refine au ?_
         cases hF
         exact⟨_,_,_,JQ.1,JQ.2,_,rfl,aA,ay⟩
       rintro _ _ ⟨RV,c218,RX,XA,acM,aC7,rfl,rfl,hE⟩
       replace hF:=aa0
       try dsimp only at hF
       refine bu hE ?_
       refine aZ ?_
       exact⟨JK,bY _,_,_,_,_,_,XA,acM,aA,ay,hF⟩
     refine dN ?_
     refine dH rfl (bQ (g:=true) Fp.h qO.h cu (vs:=[(zg [(zi pU.1),Xz.v])]) rfl rfl rfl (by intro v hv; simp at hv; rcases hv with rfl<;>rfl)) (fun aC8=>?_)
     refine dR (.cons .h (.cons .q8 .nil)) (bS (Ro:=nH) (E:=159) (F:=(acL++[])) (xs:=([(⟨pU.1,Dj⟩:Atom)]:List Atom)) (ed (Wh (a:=(⟨pU.1,Dj⟩:Atom))) bR cK) rfl rfl) ?_
     refine bnd hF fun aj3 atM hF=>ek (.cons .q7 (.cons .h .nil)) (dX (Ro:=nH) Fp.h Wi qO.h rfl rfl rfl (.tmp rfl rfl) (.tmp rfl rfl) atM fU) (fun acO=>?_)
     refine au ?_
     refine As (zg [(.slice none 0 0),acO.1.v]) ?_
     refine au ?_
     cases hF
     exact⟨_,_,_,acO.1,acO.2,_,rfl,aA,ay⟩
   rintro _ _ ⟨c228,c229,yO,Dk,acK,aC9,rfl,rfl,hE⟩
   replace hF:=atE
   try dsimp only at hF
   refine bu hE ?_
   refine aZ ?_
   exact⟨JP,bY _,_,_,_,_,_,Dk,acK,aA,ay,hF⟩
 refine bE ?_
 refine dR .nil (PU (R:=az) (E:=3)) ?_
 refine bnd hF fun Xx atN hF=>uZ (.cons .q6 (.rd .h rfl .nil)) (jV aG (fun _=>(.cons .nil)) (jm (.rd (.t .h) rfl (.rd .h rfl .nil)) (bV asE.h cu (@Zn (⟨[],c119⟩:Query) (⟨none,0,0⟩) rH _ atN)))) (fun axE=>?_)
 refine bE ?_
 refine bn (bU (m:=(((Xx.length:Int)-0).toNat+2)) (fun JM f' cs'=>∃(g:Fr)(JN JO:Int)(Ab yM:List Int)(yN:Int)(Dn:Sv)(R4:List Nat)(FN:Sv),f'=aQ g [(0,(pz bG)),(4,(pz k1)),(5,(pz k2)),(10,FN.v),(11,(zi yN))]/\aO cs' [aW bG 77 (zg [ae.v,(zi JN),(zi JO)]),kz ae aj.b,aW k1 120 (.agg ([(.slice none 0 0),(.slice none 0 0)]:List Value).toArray),aW k2 120 (zg [Dn.v,rH.v]),bI R4 Dn Ab,qo FM rH c119,ah FN yM]/\H5 aj c119 JM JN JO Ab yM yN=some R) ⟨_,_,_,_,_,_,⟨none,0,0⟩,[],axE.1,aA,(.conv .nil (gV (Ro:=(aC az)) (E:=3)) (.cons .nil) (.frz .q2 aG ay)),hF⟩ ?_)
 rintro JM _ _ ⟨aC_,JN,JO,Ab,yM,yN,Dn,R4,FN,rfl,hE,hF⟩
 refine bu hE ?_
 rcases JM with _|JM
 · rw[H5]at hF
   exact absurd hF (by simp)
 rw[H5]at hF
 refine aU ?_
 refine fe (fun f' cs'=>∃(g:Fr),f'=aQ g [(0,(pz bG)),(4,(pz k1)),(5,(pz k2)),(10,FN.v),(11,(zi yN)),(64,(.bool ((decide ((yN:Int)<(yM.length:Int)))&&(decide (((Ab.length:Int):Int)<2)))))]/\aO cs' [aW bG 77 (zg [ae.v,(zi JN),(zi JO)]),kz ae aj.b,aW k1 120 (.agg ([(.slice none 0 0),(.slice none 0 0)]:List Value).toArray),aW k2 120 (zg [Dn.v,rH.v]),bI R4 Dn Ab,qo FM rH c119,ah FN yM]) ?_ ?_
 · refine aZ ?_
   rcases bD (decide ((yN:Int)<(yM.length:Int)))with Qr|Qr
   · rw[Qr]
     try rw[Qr]at hF; dsimp only[aJ,aI]at hF
     refine kF ?_
     exact⟨_,aA,ay⟩
   rw[Qr]
   try rw[Qr]at hF; dsimp only[aJ,aI]at hF
   refine bE ?_
   exact⟨_,aA,ay⟩
 rintro _ _ ⟨aw0,rfl,hE⟩
 refine bu hE ?_
 refine Ci hF (fun atO hF=>?_) (fun atO hF=>?_)
 · refine au ?_
   obtain⟨acJ,aqu,atP⟩:=bind_some hF
   refine iF (fun f' cs'=>∃(RY RZ:Int)(R3:List Int)(XD:Sv)(acP:List Nat)(g:Fr),acJ=(RY,RZ,R3)/\f'=aQ g [(0,(pz bG)),(4,(pz k1)),(5,(pz k2)),(10,FN.v),(11,(zi yN))]/\aO cs' [aW bG 77 (zg [ae.v,(zi RY),(zi RZ)]),kz ae aj.b,aW k1 120 (.agg ([(.slice none 0 0),(.slice none 0 0)]:List Value).toArray),aW k2 120 (zg [XD.v,rH.v]),bI acP XD R3,qo FM rH c119,ah FN yM]) ?_ ?_
   · replace hF:=aqu
     refine bn (dC (Cm (pz bG) rfl rfl ?_))
     refine bnd hF fun Nh atQ hF=>gB (OQ atQ) (fun aC'=>?_)
     refine au ?_
     refine Ci hF (fun atS hF=>?_) (fun atS hF=>?_)
     · refine jD [0,1,2,3,4,5,6,7,8,9] [0,1,0,0,12,28,60,127,255,511] [7,9] mixed (by decide+kernel) ?_
       refine du ?_
       refine dO rfl .no .q3 (fun ha hp=>fw (v:=Dn.v) iC.h (EN ha (.tmp rfl rfl) rfl) hp.2 rfl rfl) ?_
       refine bX ?_
       refine zI hF fun Xv aAO atT hF=>?_
       refine Di atT (fun aw1 aw2=>?_)
       refine Dl dP ?_
       refine iy rfl .no rfl (fun ha=>bQ (g:=true) (len:=1) (parts:=[(0,.tmp 74)]) di.h dx.h (.cons (EN ha (.tmp rfl rfl) rfl) .nil) (vs:=[(zi Xv)]) rfl rfl rfl (by intro v hv; simp at hv; rcases hv with rfl<;>rfl)) (fun aDa=>?_)
       refine jk (.cons .h .nil) (bS (Ro:=(aC az)) (E:=3) (F:=([]++[])) (xs:=([Xv]:List Int)) (ed (jF (fun _=>rfl)) bR cK) rfl rfl) ?_
       refine bnd hF fun aj4 aaP hF=>cO rfl rfl .no (.cons .q6 (.cons .h .nil)) (.dep rfl (.dep rfl .nil)) (fun ha=>dX (Ro:=(aC az)) di.h jc dx.h rfl rfl rfl (EN ha (.tmp rfl rfl) rfl) (EN ha (.tmp rfl rfl) rfl) aaP fU) (fun M8=>?_)
       refine du ?_
       refine cO rfl rfl .no (.cons .q5 .nil) (.dep rfl (.dep rfl .nil)) (fun ha=>gD (e':=(zg [M8.1.v,rH.v])) pQ.h.sz (EN ha (.tmp rfl rfl) rfl) (EN ha (.tmp rfl rfl) rfl) rfl rfl rfl rfl rfl) (fun _=>?_)
       refine du ?_
       cases hF
       exact⟨_,_,_,M8.1,M8.2,_,rfl,aA,ay⟩
     refine au ?_
     cases hF
     exact⟨_,_,_,Dn,R4,_,rfl,aA,ay⟩
   rintro _ _ ⟨RY,RZ,R3,XD,acP,aDb,rfl,rfl,hE⟩
   replace hF:=atP
   try dsimp only at hF
   refine bu hE ?_
   refine aZ ?_
   exact⟨JM,bY _,_,_,_,_,_,_,XD,acP,FN,aA,ay,hF⟩
 refine bE ?_
 refine As (zg [Dn.v,rH.v]) ?_
 refine aU ?_
 cases hF
 exact Er (Dn,R4,rH,FM)
def Me(iQ:Int):Option (Bool):=
 ((iT iQ 0 9).bind fun r3=>
   bif r3 then (some true)
   else ((BD iQ).bind fun r7=>
     some r7)).bind fun o1=>
 match o1 with
 |c10=>some c10
theorem an5{iQ:Int}{R:Bool}(hF:Me iQ=some R):
   Fw.Spec Tryz.prog 183 [(zi iQ)] [] (fun _:Unit=>(.bool R)) (fun _=>[]):=by
 refine Se 9 Tryz.func183 [.tmp 2] ?_
 intro H0 F0
 unfold Me at hF
 refine bv ?_
 obtain⟨o1,yP,hO2⟩:=bind_some hF
 refine au ?_
 refine fe (fun f' cs'=>∃(c10:Bool)(g:Fr),c10=o1/\f'=aQ g [(2,(.bool c10))]/\aO cs' []) ?_ ?_
 · replace hF:=yP
   refine au ?_
   refine bnd hF fun r3 hx4 hF=>bC (jT hx4) (fun _=>?_)
   refine au ?_
   rcases bD r3 with kv|kv
   · rw[kv]
     try rw[kv]at hF; dsimp only[aJ,aI]at hF
     exact bK hF
   rw[kv]
   try rw[kv]at hF; dsimp only[aJ,aI]at hF
   refine bv ?_
   refine bnd hF fun r7 uD hF=>bC (LC uD) (fun _=>?_)
   exact bK hF
 rintro _ _ ⟨c10,g11,rfl,rfl,hE⟩
 replace hF:=hO2
 try dsimp only at hF
 refine bu hE ?_
 exact ze hF
def Ir:List Int->Nat->Option (Bool)
 |[],k22=>some true
 |x24::lw,k22=>(Me x24).bind fun qF=>
   if (!qF)then (
     some false)
   else (
     Ir lw (k22+1))
def PK(ag:List Int)(aB:Atom):Option (Bool):=
 ((sU ag).bind fun r4=>
   bif (!r4)then (some true)
   else ((iT aB.Rel 0 (IntKind.i64.wrap ((ag.length:Int)-1))).bind fun r8=>
     bif (!r8)then (some true)
     else ((ix ag aB.Rel).bind fun ol=>
       some (((aB.Terms.length:Int):Int)!=ol)))).bind fun o2=>
 match o2 with
 |c18=>if c18 then (
     some false)
   else (
     Ir aB.Terms 0)
theorem an6{ag:List Int}{ae:Sv}{aB:Atom}{aV:Sv}{R:Bool}(hF:PK ag aB=some R):
   Fw.Spec Tryz.prog 161 [ae.v,(zg [(zi aB.Rel),aV.v])] [ah ae ag,ah aV aB.Terms] (fun _:Unit=>(.bool R)) (fun _=>[]):=by
 refine Se 43 Tryz.func161 [.tmp 4] ?_
 intro H0 F0
 unfold PK at hF
 refine au ?_
 refine bP (fun k1=>?_)
 refine bv ?_
 obtain⟨o2,gz,hO3⟩:=bind_some hF
 refine dV [0,1,2,3,4,5,6,7,8,9,10,11,12,13,14,15,16,17,18,19,20,21,22] [0,1,3,7,15,31,15,79,207,511,1023,2047,4095,8191,16383,32767,8191,8191,139263,466943,991231,2097151,4194303] [1,9] mixed (by decide+kernel) ?_
 refine kX (fun f' cs'=>∃(c18:Bool)(g:Fr),c18=o2/\f'=aQ g [(3,(pz k1)),(28,(.bool c18))]/\aO cs' [aX k1 159 (zg [(zi aB.Rel),aV.v]),ah aV aB.Terms]) ?_ ?_
 · replace hF:=gz
   refine du ?_
   refine bnd hF fun r4 hx5 hF=>fu (xM hx5) (fun _=>?_)
   refine bX ?_
   rcases bD (!r4)with bq|bq
   · rw[bq]
     try rw[bq]at hF; dsimp only[aJ,aI]at hF
     exact eD hF
   rw[bq]
   try rw[bq]at hF; dsimp only[aJ,aI]at hF
   refine t_ ?_
   refine bnd hF fun r8 bZ hF=>fu (jT bZ) (fun _=>?_)
   refine dD ?_
   rcases bD (!r8)with dS|dS
   · rw[dS]
     try rw[dS]at hF; dsimp only[aJ,aI]at hF
     exact eD hF
   rw[dS]
   try rw[dS]at hF; dsimp only[aJ,aI]at hF
   refine xn ?_
   refine zI hF fun ol Rs kG hF=>?_
   refine Di kG (fun k16 J7=>?_)
   refine Dl dP ?_
   exact eD hF
 rintro _ _ ⟨c18,g39,rfl,rfl,hE⟩
 replace hF:=hO3
 try dsimp only at hF
 refine bu hE ?_
 refine Ci hF (fun Jy hF=>?_) (fun Jy hF=>?_)
 · exact ze hF
 refine aZ ?_
 refine bn (bU (m:=aB.Terms.length) (fun m20 f' cs'=>∃(g:Fr)(k22:Nat)(lw:List Int),m20=lw.length/\f'=aQ g [(3,(pz k1)),(5,(zi (k22:Int)))]/\List.drop k22 aB.Terms=lw/\aO cs' [aX k1 159 (zg [(zi aB.Rel),aV.v]),ah aV aB.Terms]/\Ir lw k22=some R) ⟨_,0,_,rfl,aA,rfl,ay,hF⟩ ?_)
 rintro m20 _ _ ⟨g21,k22,lw,rfl,rfl,hd25,hE,hF⟩
 refine Kb hE aB.Terms (fun aiB=>?_)
 rcases lw with _|⟨x24,lw⟩
 · have Rt:=dn hd25
   rw[Ir]at hF
   refine dN ?_
   refine dL ?_
   exact ze hF
 obtain⟨Rt,hx27,hd28⟩:=dA hd25
 rw[Ir]at hF
 refine dN ?_
 refine dK ?_
 refine bE ?_
 refine Ai hx27 (fun Gl Ym=>?_)
 refine Al dP ?_
 refine bnd hF fun qF hx34 hF=>bC (an5 hx34) (fun _=>?_)
 refine aU ?_
 refine Ci hF (fun Ru hF=>?_) (fun Ru hF=>?_)
 · exact ze hF
 refine bE ?_
 rw[wk k22]
 exact⟨_,bY _,_,k22+1,lw,rfl,aA,hd28,ay,hF⟩
def Ey(ag:List Int)(aK:Query)(jY:(List Int)):List Int->Nat->Option (Bool)
 |[],k20=>((sU ag).bind fun Gr=>
     bif Gr then ((iT (aK.Atoms.length:Int) 1 4).bind fun r35=>
       bif r35 then (some (decide (((aK.Head.length:Int):Int)<=3)))
       else (some false))
     else (some false)).bind fun xI=>
   match xI with
   |kC=>some kC
 |j3::lC,k20=>(BF jY j3).bind fun TC=>
   if (!TC)then (
     some false)
   else (
     Ey ag aK jY lC (k20+1))
def Ez(ag:List Int)(aK:Query):List Atom->Nat->Option (Bool)
 |[],k5=>(I7 aK).bind fun jY=>
   Ey ag aK jY aK.Head 0
 |x7::eQ,k5=>(PK ag x7).bind fun vE=>
   if (!vE)then (
     some false)
   else (
     Ez ag aK eQ (k5+1))
def zw(ag:List Int)(aK:Query):Option (Bool):=
 Ez ag aK aK.Atoms 0
theorem Le{ag:List Int}{ae:Sv}{aK:Query}{ax aV:Sv}{R:Bool}(hF:zw ag aK=some R):
   Fw.Spec Tryz.prog 137 [ae.v,(zg [ax.v,aV.v])] [ah ae ag,ah ax aK.Head,eX aV aK.Atoms] (fun _:Unit=>(.bool R)) (fun _=>[]):=by
 refine Se 54 Tryz.func137 [.tmp 4] ?_
 intro H0 F0
 unfold zw at hF
 refine au ?_
 refine bP (fun k1=>?_)
 refine bE ?_
 refine bn (bU (m:=aK.Atoms.length) (fun m3 f' cs'=>∃(g:Fr)(k5:Nat)(eQ:List Atom),m3=eQ.length/\f'=aQ g [(0,ae.v),(3,(pz k1)),(5,(zi (k5:Int)))]/\List.drop k5 aK.Atoms=eQ/\aO cs' [ah ae ag,aX k1 120 (zg [ax.v,aV.v]),ah ax aK.Head,eX aV aK.Atoms]/\Ez ag aK eQ k5=some R) ⟨_,0,_,rfl,aA,rfl,ay,hF⟩ ?_)
 rintro m3 _ _ ⟨g4,k5,eQ,rfl,rfl,nQ,hE,hF⟩
 refine Kb hE aK.Atoms (fun Jk=>?_)
 rcases eQ with _|⟨x7,eQ⟩
 · have uG:=dn nQ
   rw[Ez]at hF
   refine dN ?_
   refine dL ?_
   refine bE ?_
   refine bnd hF fun jY kG hF=>gB (Zn kG) (fun p16=>?_)
   refine bE ?_
   refine bn (bU (m:=aK.Head.length) (fun m18 f' cs'=>∃(g:Fr)(k20:Nat)(lC:List Int),m18=lC.length/\f'=aQ g [(0,ae.v),(3,(pz k1)),(6,p16.1.v),(7,(zi (k20:Int)))]/\List.drop k20 aK.Head=lC/\aO cs' [ah ae ag,aX k1 120 (zg [ax.v,aV.v]),ah ax aK.Head,eX aV aK.Atoms,bI p16.2 p16.1 jY]/\Ey ag aK jY lC k20=some R) ⟨_,0,_,rfl,aA,rfl,ay,hF⟩ ?_)
   rintro m18 _ _ ⟨g19,k20,lC,rfl,rfl,FO,hE,hF⟩
   refine Kb hE aK.Head (fun aiC=>?_)
   rcases lC with _|⟨j3,lC⟩
   · have JH:=dn FO
     rw[Ey]at hF
     refine dN ?_
     refine dL ?_
     refine bi ?_
     obtain⟨xI,Qs,R5⟩:=bind_some hF
     refine au ?_
     refine fe (fun f' cs'=>∃(kC:Bool)(g:Fr),kC=xI/\f'=aQ g [(4,(.bool kC))]/\aO cs' []) ?_ ?_
     · replace hF:=Qs
       refine au ?_
       refine bnd hF fun Gr hx32 hF=>bC (xM hx32) (fun _=>?_)
       refine au ?_
       rcases bD Gr with yI|yI
       · rw[yI]
         try rw[yI]at hF; dsimp only[aJ,aI]at hF
         refine bJ ?_
         refine bnd hF fun r35 JA hF=>bC (jT JA) (fun _=>?_)
         refine aU ?_
         rcases bD r35 with R6|R6
         · rw[R6]
           try rw[R6]at hF; dsimp only[aJ,aI]at hF
           exact bK hF
         rw[R6]
         try rw[R6]at hF; dsimp only[aJ,aI]at hF
         exact bK hF
       rw[yI]
       try rw[yI]at hF; dsimp only[aJ,aI]at hF
       exact bK hF
     rintro _ _ ⟨kC,Yo,rfl,rfl,hE⟩
     replace hF:=R5
     try dsimp only at hF
     refine bu hE ?_
     exact ze hF
   obtain⟨JH,hx25,yB⟩:=dA FO
   rw[Ey]at hF
   refine dN ?_
   refine dK ?_
   refine bJ ?_
   refine Ai hx25 (fun xE j42=>?_)
   refine Al dP ?_
   refine bnd hF fun TC Rq hF=>ek (.cons .q5 .nil) (jV aG (fun _=>.nil) (bV Wj.h cu (Pb Rq))) (fun _=>?_)
   refine aU ?_
   refine Ci hF (fun acp hF=>?_) (fun acp hF=>?_)
   · exact ze hF
   refine bE ?_
   rw[wk k20]
   exact⟨_,bY _,_,k20+1,lC,rfl,aA,yB,ay,hF⟩
 obtain⟨uG,jI,j5⟩:=dA nQ
 rw[Ez]at hF
 refine dN ?_
 refine dK ?_
 refine bJ ?_
 refine Ai jI (fun wK j49=>?_)
 refine ni (EC x7) Ij (fun p50=>?_)
 refine bnd hF fun vE JJ hF=>bC (an6 JJ) (fun _=>?_)
 refine aU ?_
 refine Ci hF (fun RO hF=>?_) (fun RO hF=>?_)
 · exact ze hF
 refine bE ?_
 rw[wk k5]
 exact⟨_,bY _,_,k5+1,eQ,rfl,aA,j5,ay,hF⟩
def Mf(ag:List Int)(ai:List Method)(aK:Query):Option (Bool):=
 ((Ev ag ai).bind fun r4=>
   bif r4 then ((zw ag aK).bind fun r8=>
     some r8)
   else (some false)).bind fun o2=>
 match o2 with
 |c11=>some c11
theorem af9{ag:List Int}{ae:Sv}{ai:List Method}{ax:Sv}{aK:Query}{bM dJ:Sv}{R:Bool}(hF:Mf ag ai aK=some R):
   Fw.Spec Tryz.prog 163 [ae.v,ax.v,(zg [bM.v,dJ.v])] [ah ae ag,bW ax ai,ah bM aK.Head,eX dJ aK.Atoms] (fun _:Unit=>(.bool R)) (fun _=>[]):=by
 refine Se 15 Tryz.func163 [.tmp 6] ?_
 intro H0 F0
 unfold Mf at hF
 refine au ?_
 refine bP (fun k1=>?_)
 refine aU ?_
 obtain⟨o2,gz,hO3⟩:=bind_some hF
 refine au ?_
 refine fe (fun f' cs'=>∃(c11:Bool)(g:Fr),c11=o2/\f'=aQ g [(6,(.bool c11))]/\aO cs' []) ?_ ?_
 · replace hF:=gz
   refine aU ?_
   refine bnd hF fun r4 hx5 hF=>bC (UK hx5) (fun _=>?_)
   refine au ?_
   rcases bD r4 with bq|bq
   · rw[bq]
     try rw[bq]at hF; dsimp only[aJ,aI]at hF
     refine aZ ?_
     refine bnd hF fun r8 bZ hF=>bC (Le bZ) (fun _=>?_)
     exact bK hF
   rw[bq]
   try rw[bq]at hF; dsimp only[aJ,aI]at hF
   exact bK hF
 rintro _ _ ⟨c11,g12,rfl,rfl,hE⟩
 replace hF:=hO3
 try dsimp only at hF
 refine bu hE ?_
 exact ze hF
def Mg(oP:Int)(VJ:List Int):Option (Atom):=
 (app ([]:List Int) VJ).bind fun z3=>
 some (⟨oP,z3⟩:Atom)
theorem af_{oP:Int}{VJ:List Int}{ax:Sv}{R:Atom}(hF:Mg oP VJ=some R):
   Fw.Spec Tryz.prog 184 [(zi oP),ax.v] [ah ax VJ] (fun p:Sv×List Nat=>(zg [(zi R.Rel),p.1.v])) (fun p=>[bI p.2 p.1 R.Terms]):=by
 refine Se 10 Tryz.func184 [.cell 4 159] ?_
 intro H0 F0
 unfold Mg at hF
 refine au ?_
 refine d_ (fun k1=>?_)
 refine bv ?_
 refine dH rfl (bQ (g:=true) di.h dx.h .nil (vs:=[]) rfl rfl rfl (by simp)) (fun k2=>?_)
 refine dR (.cons .h .nil) (bS (Ro:=(aC az)) (E:=3) (F:=[]) (xs:=([]:List Int)) bR rfl rfl) ?_
 refine au ?_
 refine bnd hF fun z3 hx4 hF=>ek (.cons .h (.rd (.t .h) rfl .nil)) (dX (Ro:=(aC az)) di.h jc dx.h rfl rfl rfl (.tmp rfl rfl) (.tmp rfl rfl) hx4 mr) (fun p5=>?_)
 refine aN (iD qO.h rfl (vs:=[(zi oP),p5.1.v]) cu (cells:=[(zi oP),p5.1.v]) rfl) ?_
 refine As (zg [(zi oP),p5.1.v]) ?_
 refine aU ?_
 cases hF
 exact Er (p5.1,p5.2)
def EH(z4:List Int):List Atom->Nat->(List Atom)->Option (Query)
 |[],nP,c32=>some (⟨z4,c32⟩:Query)
 |x40::pF,nP,c32=>(Mg x40.Rel x40.Terms).bind fun Yx=>
   (app c32 ([Yx]:List Atom)).bind fun z56=>
   EH z4 pF (nP+1) z56
def Mh(aK:Query):Option (Query):=
 (app ([]:List Int) aK.Head).bind fun z4=>
 EH z4 aK.Atoms 0 ([]:List Atom)
theorem af'{aK:Query}{ae aP:Sv}{R:Query}(hF:Mh aK=some R):
   Fw.Spec Tryz.prog 168 [(zg [ae.v,aP.v])] [ah ae aK.Head,eX aP aK.Atoms] (fun p:Sv×List Nat×Sv×List Nat=>(zg [p.1.v,p.2.2.1.v])) (fun p=>[bI p.2.1 p.1 R.Head,qo p.2.2.2 p.2.2.1 R.Atoms]):=by
 refine Se 36 Tryz.func168 [.cell 2 120] ?_
 intro H0 F0
 unfold Mh at hF
 refine au ?_
 refine bP (fun k1=>?_)
 refine d_ (fun k2=>?_)
 refine aU ?_
 refine dH rfl (bQ (g:=true) di.h dx.h .nil (vs:=[]) rfl rfl rfl (by simp)) (fun k3=>?_)
 refine dR (.cons .h .nil) (bS (Ro:=(aC az)) (E:=3) (F:=[]) (xs:=([]:List Int)) bR rfl rfl) ?_
 refine aU ?_
 refine bnd hF fun z4 hx5 hF=>ek (.cons .h (.rd .q2 rfl .nil)) (dX (Ro:=(aC az)) di.h jc dx.h rfl rfl rfl (.tmp rfl rfl) (.tmp rfl rfl) hx5 mr) (fun p6=>?_)
 refine aN (iD Ji.h rfl (vs:=[p6.1.v]) cu (cells:=[p6.1.v,(.slice none 0 0)]) rfl) ?_
 refine d_ (fun k7=>?_)
 refine As (zg [p6.1.v,(.slice none 0 0)]) ?_
 refine aZ ?_
 refine bn (bU (m:=aK.Atoms.length) (fun TS f' cs'=>∃(g:Fr)(nP:Nat)(pF c32:List Atom)(v33:Sv)(Kl:List Nat),TS=pF.length/\f'=aQ g [(1,(pz k1)),(2,(pz k2)),(3,(pz k7)),(4,(zi (nP:Int)))]/\List.drop nP aK.Atoms=pF/\aO cs' [aX k1 120 (zg [ae.v,aP.v]),ah ae aK.Head,eX aP aK.Atoms,aW k2 120 (.agg ([(.slice none 0 0),(.slice none 0 0)]:List Value).toArray),aW k7 120 (zg [p6.1.v,v33.v]),bI p6.2 p6.1 z4,qo Kl v33 c32]/\EH z4 pF nP c32=some R) ⟨_,0,_,_,⟨none,0,0⟩,[],rfl,aA,rfl,(.conv .nil (gV (Ro:=nH) (E:=159)) (.cons .nil) ay),hF⟩ ?_)
 rintro TS _ _ ⟨g37,nP,pF,c32,v33,Kl,rfl,rfl,Dp,hE,hF⟩
 refine Kb hE aK.Atoms (fun atU=>?_)
 rcases pF with _|⟨x40,pF⟩
 · have acQ:=dn Dp
   rw[EH]at hF
   refine dN ?_
   refine dL ?_
   refine bE ?_
   refine As (zg [p6.1.v,v33.v]) ?_
   refine aU ?_
   cases hF
   exact Er (p6.1,p6.2,v33,Kl)
 obtain⟨acQ,qA,Nj⟩:=dA Dp
 rw[EH]at hF
 refine dN ?_
 refine dK ?_
 refine aU ?_
 refine jD [0,1,2,3,4,5,6,7,8,9,10,11,12,13,14,15,16,17,18] [0,1,0,4,0,28,60,124,0,256,0,1792,3840,7936,16380,32764,65535,131071,262143] [14,16,18] mixed (by decide+kernel) ?_
 refine du ?_
 refine dO rfl .no .q4 (fun ha hp=>fw (v:=v33.v) aaH.h (EN ha (.tmp rfl rfl) rfl) hp.2 rfl rfl) ?_
 refine dD ?_
 refine Di qA (fun TT j48=>?_)
 refine du ?_
 refine Dl aac ?_
 refine dD ?_
 refine Di qA (fun Tz Yw=>?_)
 refine du ?_
 refine oz (R':=(aD 3 az)) iC.h rfl .no (.tmp rfl rfl) rfl .h zC (fun w51=>?_)
 refine bnd hF fun Yx Nb hF=>cO rfl rfl .no (.rd .h rfl .nil) (.own .q7 (fun _ h=>h) .nil) (fun ha=>bV aiq.h (.cons (EN ha (.tmp rfl rfl) rfl) (.cons (EN ha (.tmp rfl rfl) rfl) .nil)) (af_ Nb)) (fun p54=>?_)
 refine iy rfl .no rfl (fun ha=>bQ (g:=true) (len:=1) (parts:=[(0,.tmp 31)]) Fp.h qO.h (.cons (EN ha (.tmp rfl rfl) rfl) .nil) (vs:=[(zg [(zi Yx.Rel),p54.1.v])]) rfl rfl rfl (by intro v hv; simp at hv; rcases hv with rfl<;>rfl)) (fun k55=>?_)
 refine jk (.cons .h (.cons .h .nil)) (bS (Ro:=nH) (E:=159) (F:=(p54.2++[])) (xs:=([Yx]:List Atom)) (ed Wh bR cK) rfl rfl) ?_
 refine bnd hF fun z56 R7 hF=>cO rfl rfl .no (.cons .q10 (.cons .h .nil)) (.dep rfl (.dep rfl .nil)) (fun ha=>dX (Ro:=nH) Fp.h Wi qO.h rfl rfl rfl (EN ha (.tmp rfl rfl) rfl) (EN ha (.tmp rfl rfl) rfl) R7 fU) (fun p58=>?_)
 refine du ?_
 refine cO rfl rfl .no (.cons .q8 .nil) (.dep rfl (.dep rfl .nil)) (fun ha=>gD (e':=(zg [p6.1.v,p58.1.v])) aaI.h.sz (EN ha (.tmp rfl rfl) rfl) (EN ha (.tmp rfl rfl) rfl) rfl rfl rfl rfl rfl) (fun _=>?_)
 refine du ?_
 refine aZ ?_
 rw[wk nP]
 exact⟨_,bY _,_,nP+1,pF,_,p58.1,p58.2,rfl,aA,Nj,ay,hF⟩
def D6(iO:Atom):Nat->(List Int)->Int->Option ((List Int))
 |0,_,_=>none
 |m24+1,c20,c23=>if (decide ((c23:Int)<(iO.Terms.length:Int)))then (
     ((ix iO.Terms c23).bind fun x40=>
       (iT x40 0 9).bind fun xC=>
       if xC then (
         (ix iO.Terms c23).bind fun TR=>
         (Ja c20 TR).bind fun sM=>
         some sM)
       else (
         some c20)).bind fun zb=>
     match zb with
     |rU=>D6 iO m24 rU (IntKind.i64.wrap (c23+1)))
   else (
     some c20)
def GH:List Atom->Nat->(List Int)->Option ((List Int))
 |[],k9,c3=>some c3
 |iO::gJ,k9,c3=>(D6 iO (((iO.Terms.length:Int)-0).toNat+2) c3 0).bind fun kS=>
   match kS with
   |zf=>GH gJ (k9+1) zf
def K9(aK:Query):Option ((List Int)):=
 GH aK.Atoms 0 ([]:List Int)
theorem aez{aK:Query}{ae aP:Sv}{R:(List Int)}(hF:K9 aK=some R):
   Fw.Spec Tryz.prog 201 [(zg [ae.v,aP.v])] [ah ae aK.Head,eX aP aK.Atoms] (fun p:Sv×List Nat=>p.1.v) (fun p=>[bI p.2 p.1 R]):=by
 refine Se 47 Tryz.func201 [.tmp 2] ?_
 intro H0 F0
 unfold K9 at hF
 refine au ?_
 refine bP (fun k1=>?_)
 refine bv ?_
 refine dH rfl (bQ (g:=true) di.h dx.h .nil (vs:=[]) rfl rfl rfl (by simp)) (fun k2=>?_)
 refine dR (.cons .h .nil) (bS (Ro:=(aC az)) (E:=3) (F:=[]) (xs:=([]:List Int)) bR rfl rfl) ?_
 refine bE ?_
 refine bn (bU (m:=aK.Atoms.length) (fun m7 f' cs'=>∃(g:Fr)(k9:Nat)(gJ:List Atom)(c3:List Int)(v4:Sv)(F5:List Nat),m7=gJ.length/\f'=aQ g [(1,(pz k1)),(3,v4.v),(4,(zi (k9:Int)))]/\List.drop k9 aK.Atoms=gJ/\aO cs' [aX k1 120 (zg [ae.v,aP.v]),ah ae aK.Head,eX aP aK.Atoms,bI F5 v4 c3]/\GH gJ k9 c3=some R) ⟨_,0,_,_,⟨(some ⟨k2,0,none⟩),0,1⟩,(k2::[]),rfl,aA,rfl,ay,hF⟩ ?_)
 rintro m7 _ _ ⟨g8,k9,gJ,c3,v4,F5,rfl,rfl,mR,hE,hF⟩
 refine Kb hE aK.Atoms (fun Qp=>?_)
 rcases gJ with _|⟨iO,gJ⟩
 · have yL:=dn mR
   rw[GH]at hF
   refine dN ?_
   refine dL ?_
   refine gF ?_
   cases hF
   exact Er (v4,F5)
 obtain⟨yL,kr,rF⟩:=dA mR
 rw[GH]at hF
 refine dN ?_
 refine dK ?_
 refine au ?_
 obtain⟨kS,vQ,wz⟩:=bind_some hF
 refine iF (fun f' cs'=>∃(zf:List Int)(v68:Sv)(Ki:List Nat)(g:Fr),zf=kS/\f'=aQ g [(1,(pz k1)),(3,v68.v),(4,(zi (k9:Int)))]/\aO cs' [aX k1 120 (zg [ae.v,aP.v]),ah ae aK.Head,eX aP aK.Atoms,bI Ki v68 zf]) ?_ ?_
 · replace hF:=vQ
   refine bn (dC (aN (jW (v:=(zi 0)) (.int _ _)) ?_))
   refine au ?_
   refine bn (bU (m:=(((iO.Terms.length:Int)-0).toNat+2)) (fun m24 f' cs'=>∃(g:Fr)(c20:List Int)(c23:Int)(v21:Sv)(vD:List Nat),f'=aQ g [(1,(pz k1)),(3,v21.v),(4,(zi (k9:Int))),(5,(zi c23))]/\aO cs' [aX k1 120 (zg [ae.v,aP.v]),ah ae aK.Head,eX aP aK.Atoms,bI vD v21 c20]/\D6 iO m24 c20 c23=some kS) ⟨_,_,_,v4,F5,aA,ay,hF⟩ ?_)
   rintro m24 _ _ ⟨TE,c20,c23,v21,vD,rfl,hE,hF⟩
   refine bu hE ?_
   rcases m24 with _|m24
   · rw[D6]at hF
     exact absurd hF (by simp)
   rw[D6]at hF
   refine bE ?_
   refine Ai kr (fun TI j33=>?_)
   refine au ?_
   refine vL (R':=(aD 3 az)) iC.h (.tmp rfl rfl) .h zC (fun w34=>?_)
   refine bv ?_
   refine Ci hF (fun RS hF=>?_) (fun RS hF=>?_)
   · refine au ?_
     obtain⟨zb,Qq,RU⟩:=bind_some hF
     refine iF (fun f' cs'=>∃(rU:List Int)(v63:Sv)(Kk:List Nat)(g:Fr),rU=zb/\f'=aQ g [(1,(pz k1)),(3,v63.v),(4,(zi (k9:Int))),(5,(zi c23))]/\aO cs' [aX k1 120 (zg [ae.v,aP.v]),ah ae aK.Head,eX aP aK.Atoms,bI Kk v63 rU]) ?_ ?_
     · replace hF:=Qq
       refine bn (dC (aN (iK (off:=1) aab.h (.tmp rfl rfl)) ?_))
       refine aU ?_
       refine Ai kr (fun TG TH=>?_)
       refine au ?_
       refine vL (R':=(aD 3 az)) iC.h (.tmp rfl rfl) .h zC (fun w39=>?_)
       refine au ?_
       refine zI hF fun x40 ajO qA hF=>?_
       refine Ai qA (fun Yk Yl=>?_)
       refine Al dP ?_
       refine bnd hF fun xC Dc hF=>bC (jT Dc) (fun _=>?_)
       refine au ?_
       refine Ci hF (fun Jw hF=>?_) (fun Jw hF=>?_)
       · refine aZ ?_
         refine Ai kr (fun Tz Yw=>?_)
         refine au ?_
         refine vL (R':=(aD 3 az)) iC.h (.tmp rfl rfl) .h zC (fun w51=>?_)
         refine au ?_
         refine zI hF fun TR axC JG hF=>?_
         refine Ai JG (fun k56 j57=>?_)
         refine Al dP ?_
         refine bnd hF fun sM CY hF=>gB (ZB CY) (fun p60=>?_)
         refine aU ?_
         cases hF
         exact⟨_,p60.1,p60.2,_,rfl,aA,ay⟩
       refine au ?_
       cases hF
       exact⟨_,v21,vD,_,rfl,aA,ay⟩
     rintro _ _ ⟨rU,v63,Kk,g65,rfl,rfl,hE⟩
     replace hF:=RU
     try dsimp only at hF
     refine bu hE ?_
     refine aZ ?_
     exact⟨m24,bY _,_,_,_,v63,Kk,aA,ay,hF⟩
   refine bi ?_
   cases hF
   exact⟨_,v21,vD,_,rfl,aA,ay⟩
 rintro _ _ ⟨zf,v68,Ki,g71,rfl,rfl,hE⟩
 replace hF:=wz
 try dsimp only at hF
 refine bu hE ?_
 refine aZ ?_
 rw[wk k9]
 exact⟨_,bY _,_,k9+1,gJ,_,v68,Ki,rfl,aA,rF,ay,hF⟩
def EU(aR:bz)(nS:Int)(aS:Int):Option (bz):=
 (app ([]:List Int) aR.Vars).bind fun z7=>
 (app z7 ([nS]:List Int)).bind fun z10=>
 (app ([]:List Int) aR.Values).bind fun Gh=>
 (app Gh ([aS]:List Int)).bind fun z16=>
 some (⟨z10,z16⟩:bz)
theorem aga{aR:bz}{ae aP:Sv}{nS aS:Int}{R:bz}(hF:EU aR nS aS=some R):
   Fw.Spec Tryz.prog 200 [(zg [ae.v,aP.v]),(zi nS),(zi aS)] [ah ae aR.Vars,ah aP aR.Values] (fun p:Sv×List Nat×Sv×List Nat=>(zg [p.1.v,p.2.2.1.v])) (fun p=>[bI p.2.1 p.1 R.Vars,bI p.2.2.2 p.2.2.1 R.Values]):=by
 refine Se 22 Tryz.func200 [.cell 6 183] ?_
 intro H0 F0
 unfold EU at hF
 refine au ?_
 refine bP (fun k1=>?_)
 refine d_ (fun k2=>?_)
 refine au ?_
 refine dV [0,1,2,4,5,7,8,9,11,12,3,6,10,13,14,15] [0,0,2,7,0,16,63,0,0,256,1023,0,2048,8191,16383,32767] [3,6,10,13,15] mixed (by decide+kernel) ?_
 refine iy rfl .no rfl (fun ha=>bQ (g:=true) (len:=0) (parts:=[]) di.h dx.h .nil (vs:=[]) rfl rfl rfl (by simp)) (fun k3=>?_)
 refine jk (.cons .h .nil) (bS (Ro:=(aC az)) (E:=3) (F:=[]) (xs:=([]:List Int)) bR rfl rfl) ?_
 refine dD ?_
 refine iy rfl .no rfl (fun ha=>bQ (g:=true) (len:=1) (parts:=[(0,.tmp 11)]) di.h dx.h (.cons (EN ha (.tmp rfl rfl) rfl) .nil) (vs:=[(zi nS)]) rfl rfl rfl (by intro v hv; simp at hv; rcases hv with rfl<;>rfl)) (fun k4=>?_)
 refine jk (.cons .h .nil) (bS (Ro:=(aC az)) (E:=3) (F:=([]++[])) (xs:=([nS]:List Int)) (ed (jF (fun _=>rfl)) bR cK) rfl rfl) ?_
 refine iy rfl .no rfl (fun ha=>bQ (g:=true) (len:=0) (parts:=[]) di.h dx.h .nil (vs:=[]) rfl rfl rfl (by simp)) (fun k5=>?_)
 refine jk (.cons .h .nil) (bS (Ro:=(aC az)) (E:=3) (F:=[]) (xs:=([]:List Int)) bR rfl rfl) ?_
 refine dD ?_
 refine iy rfl .no rfl (fun ha=>bQ (g:=true) (len:=1) (parts:=[(0,.tmp 18)]) di.h dx.h (.cons (EN ha (.tmp rfl rfl) rfl) .nil) (vs:=[(zi aS)]) rfl rfl rfl (by intro v hv; simp at hv; rcases hv with rfl<;>rfl)) (fun k6=>?_)
 refine jk (.cons .h .nil) (bS (Ro:=(aC az)) (E:=3) (F:=([]++[])) (xs:=([aS]:List Int)) (ed (jF (fun _=>rfl)) bR cK) rfl rfl) ?_
 refine bnd hF fun z7 uD hF=>cO rfl rfl .no (.cons .q3 (.rd .q5 rfl .nil)) (.own .h (by simp[aT]) (.own (.t .h) (by simp[aT]) (.own .q2 (by simp[aT]) (.dep rfl .nil)))) (fun ha=>dX (Ro:=(aC az)) di.h jc dx.h rfl rfl rfl (EN ha (.tmp rfl rfl) rfl) (EN ha (.tmp rfl rfl) rfl) uD mr) (fun p9=>?_)
 refine bnd hF fun z10 lg hF=>cO rfl rfl .no (.cons .h (.cons .q2 .nil)) (.own .h (by simp[aT]) (.own (.t .h) (by simp[aT]) (.dep rfl (.dep rfl .nil)))) (fun ha=>dX (Ro:=(aC az)) di.h jc dx.h rfl rfl rfl (EN ha (.tmp rfl rfl) rfl) (EN ha (.tmp rfl rfl) rfl) lg fU) (fun oL=>?_)
 refine bnd hF fun Gh kr hF=>cO rfl rfl .no (.cons .q2 (.rd .q5 rfl .nil)) (.own (.t .h) (by simp[aT]) (.dep rfl (.dep rfl (.dep rfl .nil)))) (fun ha=>dX (Ro:=(aC az)) di.h jc dx.h rfl rfl rfl (EN ha (.tmp rfl rfl) rfl) (EN ha (.tmp rfl rfl) rfl) kr mr) (fun nA=>?_)
 refine bnd hF fun z16 jO hF=>cO rfl rfl .no (.cons .h (.cons (.t .h) .nil)) (.dep rfl (.dep rfl (.dep rfl (.dep rfl .nil)))) (fun ha=>dX (Ro:=(aC az)) di.h jc dx.h rfl rfl rfl (EN ha (.tmp rfl rfl) rfl) (EN ha (.tmp rfl rfl) rfl) jO fU) (fun DJ=>?_)
 refine bN rfl .no (fun ha=>iD iL.h rfl (vs:=[oL.1.v,DJ.1.v]) (.cons (EN ha (.tmp rfl rfl) rfl) (.cons (EN ha (.tmp rfl rfl) rfl) .nil)) (cells:=[oL.1.v,DJ.1.v]) rfl) ?_
 refine cO rfl rfl .no (.cons .q2 .nil) (.dep rfl (.dep rfl (.dep rfl (.dep rfl .nil)))) (fun ha=>gD (e':=(zg [oL.1.v,DJ.1.v])) (v:=(zg [oL.1.v,DJ.1.v])) iL.h.sz (EN ha (.tmp rfl rfl) rfl) (EN ha (.tmp rfl rfl) rfl) rfl rfl rfl rfl rfl) (fun _=>?_)
 refine du ?_
 refine au ?_
 cases hF
 exact Er (oL.1,oL.2,DJ.1,DJ.2)
def H7(aR:bz)(w9:Int):Nat->Int->Option (Int)
 |0,_=>none
 |m6+1,c5=>if ((decide ((c5:Int)<(aR.Vars.length:Int)))&&(decide ((c5:Int)<(aR.Values.length:Int))))then (
     (ix aR.Vars c5).bind fun oh=>
     if ((oh:Int)==w9)then (
       (ix aR.Values c5).bind fun j3=>
       some j3)
     else (
       H7 aR w9 m6 (IntKind.i64.wrap (c5+1))))
   else (
     some (-1))
def xU(aR:bz)(w9:Int):Option (Int):=
 (BD w9).bind fun r2=>
 if (!r2)then (
   some w9)
 else (
   H7 aR w9 (((aR.Vars.length:Int)-0).toNat+2) 0)
theorem OD{aR:bz}{ae aP:Sv}{w9 R:Int}(hF:xU aR w9=some R):
   Fw.Spec Tryz.prog 188 [(zg [ae.v,aP.v]),(zi w9)] [ah ae aR.Vars,ah aP aR.Values] (fun _:Unit=>(zi R)) (fun _=>[]):=by
 refine Se 36 Tryz.func188 [.tmp 4] ?_
 intro H0 F0
 unfold xU at hF
 refine au ?_
 refine bP (fun k1=>?_)
 refine aZ ?_
 refine bnd hF fun r2 hx3 hF=>bC (LC hx3) (fun _=>?_)
 refine aU ?_
 refine Ci hF (fun JB hF=>?_) (fun JB hF=>?_)
 · exact ze hF
 refine aZ ?_
 refine bn (bU (m:=(((aR.Vars.length:Int)-0).toNat+2)) (fun m6 f' cs'=>∃(g:Fr)(c5:Int),f'=aQ g [(1,(zi w9)),(2,(pz k1)),(5,(zi c5))]/\aO cs' [aX k1 183 (zg [ae.v,aP.v]),ah ae aR.Vars,ah aP aR.Values]/\H7 aR w9 m6 c5=some R) ⟨_,_,aA,ay,hF⟩ ?_)
 rintro m6 _ _ ⟨g7,c5,rfl,hE,hF⟩
 refine bu hE ?_
 rcases m6 with _|m6
 · rw[H7]at hF
   exact absurd hF (by simp)
 rw[H7]at hF
 refine aU ?_
 refine fe (fun f' cs'=>∃(g:Fr),f'=aQ g [(1,(zi w9)),(2,(pz k1)),(5,(zi c5)),(21,(.bool ((decide ((c5:Int)<(aR.Vars.length:Int)))&&(decide ((c5:Int)<(aR.Values.length:Int))))))]/\aO cs' [aX k1 183 (zg [ae.v,aP.v]),ah ae aR.Vars,ah aP aR.Values]) ?_ ?_
 · refine bE ?_
   rcases bD (decide ((c5:Int)<(aR.Vars.length:Int)))with yQ|yQ
   · rw[yQ]
     try rw[yQ]at hF; dsimp only[aJ,aI]at hF
     refine Fs ?_
     exact⟨_,aA,ay⟩
   rw[yQ]
   try rw[yQ]at hF; dsimp only[aJ,aI]at hF
   refine bJ ?_
   exact⟨_,aA,ay⟩
 rintro _ _ ⟨g15,rfl,hE⟩
 refine bu hE ?_
 refine Ci hF (fun Dg hF=>?_) (fun Dg hF=>?_)
 · refine bE ?_
   refine zI hF fun oh M9 kR hF=>?_
   refine Ai kR (fun k20 DF=>?_)
   refine Al dP ?_
   refine bv ?_
   refine Ci hF (fun yz hF=>?_) (fun yz hF=>?_)
   · refine bi ?_
     refine zI hF fun j3 acR hx25 hF=>?_
     refine Ai hx25 (fun k26 TU=>?_)
     refine Al dP ?_
     exact ze hF
   refine bE ?_
   exact⟨m6,bY _,_,_,aA,ay,hF⟩
 exact ze hF
def D7(oG:List Int)(oH:List Int)(c212:List Fact)(uo:Atom):Nat->(List Int)->Int->Option ((List Fact))
 |0,_,_=>none
 |JR+1,xx,wC=>if (decide ((wC:Int)<(uo.Terms.length:Int)))then (
     (ix uo.Terms wC).bind fun aj5=>
     (xU (⟨oG,oH⟩:bz) aj5).bind fun XE=>
     (app xx ([XE]:List Int)).bind fun aj6=>
     D7 oG oH c212 uo JR aj6 (IntKind.i64.wrap (wC+1)))
   else (
     (xS c212 (⟨uo.Rel,xx⟩:Fact)).bind fun aj7=>
     some aj7)
def GI(oG:List Int)(oH:List Int):List Atom->Nat->(List Fact)->Option ((List Fact)×bz×Bool)
 |[],yR,c212=>some (c212,(⟨oG,oH⟩:bz),true)
 |uo::BG,yR,c212=>(D7 oG oH c212 uo (((uo.Terms.length:Int)-0).toNat+2) ([]:List Int) 0).bind fun XF=>
   match XF with
   |R8=>GI oG oH BG (yR+1) R8
def GJ(r3:(List Int)):Nat->Int->Option (Int)
 |0,_=>none
 |JS+1,FP=>(BF r3 FP).bind fun aj8=>
   if aj8 then (
     GJ r3 JS (IntKind.i64.wrap (FP+1)))
   else (
     some FP)
def D8(aK:Query)(r3:(List Int))(fuel:Nat):List Int->Nat->(List Int)->(List Int)->Int->Option ((List Fact)×bz×Bool)
 |[],uq,oG,oH,c198=>GI oG oH aK.Atoms 0 ([]:List Fact)
 |aj9::BH,uq,oG,oH,c198=>(((GJ r3 fuel c198).bind fun XG=>
     match XG with
     |JU=>if (decide ((9:Int)<JU))then (
         some (.inl (([]:List Fact),(⟨[],[]⟩:bz),false)))
       else (
         (EU (⟨oG,oH⟩:bz) aj9 JU).bind fun acS=>
         some (.inr (acS.Vars,acS.Values,(IntKind.i64.wrap (JU+1)))))):Option (Sum ((List Fact)×bz×Bool) ((List Int)×(List Int)×Int))).bind fun acT=>
   match acT with
   | .inl r=>some r
   | .inr (R9,R_,Sa)=>D8 aK r3 fuel BH (uq+1) R9 R_ Sa
def Oo(fuel:Nat)(aK:Query):Option ((List Fact)×bz×Bool):=
 (K9 aK).bind fun r3=>
 (I7 aK).bind fun r6=>
 D8 aK r3 fuel r6 0 ([]:List Int) ([]:List Int) 0
theorem alX{fuel:Nat}{aK:Query}{ae aP:Sv}{R:(List Fact)×bz×Bool}(hF:Oo fuel aK=some R):
   Fw.Spec Tryz.prog 202 [(zg [ae.v,aP.v])] [ah ae aK.Head,eX aP aK.Atoms] (fun p:Sv×List Nat×Sv×List Nat×Sv×List Nat=>(.tuple [p.1.v,(zg [p.2.2.1.v,p.2.2.2.2.1.v]),(.bool R.2.2)].toArray)) (fun p=>[eP p.2.1 p.1 R.1,bI p.2.2.2.1 p.2.2.1 R.2.1.Vars,bI p.2.2.2.2.2 p.2.2.2.2.1 R.2.1.Values]):=by
 refine Se 90 Tryz.func202 [.tmp 2,.cell 3 183,.tmp 4] ?_
 intro H0 F0
 unfold Oo at hF
 refine au ?_
 refine bP (fun k1=>?_)
 refine au ?_
 refine d_ (fun k2=>?_)
 refine bi ?_
 refine bnd hF fun r3 hx4 hF=>gB (aez hx4) (fun p5=>?_)
 refine bi ?_
 refine bnd hF fun r6 hx7 hF=>gB (Zn hx7) (fun p8=>?_)
 refine bv ?_
 refine aN (iD iL.h rfl (vs:=[]) .nil (cells:=[(.slice none 0 0),(.slice none 0 0)]) rfl) ?_
 refine d_ (fun k9=>?_)
 refine As (.agg ([(.slice none 0 0),(.slice none 0 0)]:List Value).toArray) ?_
 refine dN ?_
 refine bn (iG (.t .h) aG ?_)
 refine bU (m:=r6.length) (fun aj_ f' cs'=>∃(g:Fr)(uq:Nat)(BH oG oH:List Int)(c198:Int)(v193:Sv)(FQ:List Nat)(v196:Sv)(FR:List Nat),aj_=BH.length/\f'=aQ g [(1,(pz k1)),(3,(pz k2)),(5,p5.1.v),(6,p8.1.v),(7,(pz k9)),(8,(zi c198)),(9,(zi (uq:Int)))]/\List.drop uq r6=BH/\aO cs' [aX k1 120 (zg [ae.v,aP.v]),ah ae aK.Head,eX aP aK.Atoms,aW k2 183 (.agg ([(.slice none 0 0),(.slice none 0 0)]:List Value).toArray),bI p5.2 p5.1 r3,ah p8.1 r6,aW k9 183 (zg [v193.v,v196.v]),bI FQ v193 oG,bI FR v196 oH]/\D8 aK r3 fuel BH uq oG oH c198=some R) ⟨_,0,_,_,_,_,⟨none,0,0⟩,[],⟨none,0,0⟩,[],rfl,aA,rfl,(.conv .nil (gV (Ro:=(aC az)) (E:=3)) (.cons .nil) (.conv .nil (gV (Ro:=(aC az)) (E:=3)) (.cons .nil) ay)),hF⟩ ?_
 rintro aj_ _ _ ⟨aDc,uq,BH,oG,oH,c198,v193,FQ,v196,FR,rfl,rfl,aiD,hE,hF⟩
 refine Kb hE r6 (fun azw=>?_)
 rcases BH with _|⟨aj9,BH⟩
 · have atW:=dn aiD
   rw[D8]at hF
   refine bJ ?_
   refine dL ?_
   refine aZ ?_
   refine dH rfl (bQ (g:=true) gq.h dZ.h .nil (vs:=[]) rfl rfl rfl (by simp)) (fun FT=>?_)
   refine dR (.cons .h .nil) (bS (Ro:=gQ) (E:=70) (F:=[]) (xs:=([]:List Fact)) bR rfl rfl) ?_
   refine bE ?_
   refine bn (bU (m:=aK.Atoms.length) (fun aj' f' cs'=>∃(g:Fr)(yR:Nat)(BG:List Atom)(c212:List Fact)(Nk:Sv)(XH:List Nat),aj'=BG.length/\f'=aQ g [(1,(pz k1)),(3,(pz k2)),(7,(pz k9)),(10,Nk.v),(11,(zi (yR:Int)))]/\List.drop yR aK.Atoms=BG/\aO cs' [aX k1 120 (zg [ae.v,aP.v]),ah ae aK.Head,eX aP aK.Atoms,aW k2 183 (.agg ([(.slice none 0 0),(.slice none 0 0)]:List Value).toArray),aW k9 183 (zg [v193.v,v196.v]),bI FQ v193 oG,bI FR v196 oH,eP XH Nk c212]/\GI oG oH BG yR c212=some R) ⟨_,0,_,_,⟨(some ⟨FT,0,none⟩),0,1⟩,(FT::[]),rfl,aA,rfl,ay,hF⟩ ?_)
   rintro aj' _ _ ⟨aDd,yR,BG,c212,Nk,XH,rfl,rfl,aiE,hE,hF⟩
   refine Kb hE aK.Atoms (fun azx=>?_)
   rcases BG with _|⟨uo,BG⟩
   · have atX:=dn aiE
     rw[GI]at hF
     refine dN ?_
     refine dL ?_
     refine bi ?_
     refine dV [0,1,2,3,4] [0,0,1,7,15] [3] mixed (by decide+kernel) ?_
     refine du ?_
     refine dO rfl .no .q4 (fun ha hp=>fP si.h iL.h.sz rfl (EN ha (.tmp rfl rfl) rfl) hp.2 rfl) ?_
     refine du ?_
     refine cO rfl rfl .no (.cons .q3 .nil) (.dep rfl .nil) (fun ha=>gD (e':=(zg [v193.v,v196.v])) (v:=(zg [v193.v,v196.v])) iL.h.sz (EN ha (.tmp rfl rfl) rfl) (EN ha (.tmp rfl rfl) rfl) rfl rfl rfl rfl rfl) (fun _=>?_)
     refine bX ?_
     refine au ?_
     cases hF
     exact gU (Nk,XH,v193,FQ,v196,FR) (.tmp rfl rfl (.cellA rfl rfl .h rfl si.h iL.h.sz rfl rfl (.tmp rfl rfl .nil))) rfl (.sel (.cons .q7 (.cons .q5 (.cons .q5 .nil))))
   obtain⟨atX,Qt,atY⟩:=dA aiE
   rw[GI]at hF
   refine dN ?_
   refine dK ?_
   refine au ?_
   obtain⟨XF,aqv,atZ⟩:=bind_some hF
   refine iF (fun f' cs'=>∃(R8:List Fact)(XI:Sv)(acU:List Nat)(g:Fr),R8=XF/\f'=aQ g [(1,(pz k1)),(3,(pz k2)),(7,(pz k9)),(10,XI.v),(11,(zi (yR:Int)))]/\aO cs' [aX k1 120 (zg [ae.v,aP.v]),ah ae aK.Head,eX aP aK.Atoms,aW k2 183 (.agg ([(.slice none 0 0),(.slice none 0 0)]:List Value).toArray),aW k9 183 (zg [v193.v,v196.v]),bI FQ v193 oG,bI FR v196 oH,eP acU XI R8]) ?_ ?_
   · replace hF:=aqv
     refine bn (dC (aN (iK (off:=1) aab.h (.tmp rfl rfl)) ?_))
     refine aU ?_
     refine Ai Qt (fun aDe aDf=>?_)
     refine au ?_
     refine Al aac ?_
     refine aN (iD dZ.h rfl (vs:=[(zi uo.Rel)]) cu (cells:=[(zi uo.Rel),(.slice none 0 0)]) rfl) ?_
     refine d_ (fun aka=>?_)
     refine As (zg [(zi uo.Rel),(.slice none 0 0)]) ?_
     refine aZ ?_
     refine bn (bU (m:=(((uo.Terms.length:Int)-0).toNat+2)) (fun JR f' cs'=>∃(g:Fr)(xx:List Int)(wC:Int)(Dq:Sv)(Nl:List Nat),f'=aQ g [(1,(pz k1)),(3,(pz k2)),(7,(pz k9)),(10,Nk.v),(11,(zi (yR:Int))),(12,(pz aka)),(13,(zi wC))]/\aO cs' [aX k1 120 (zg [ae.v,aP.v]),ah ae aK.Head,eX aP aK.Atoms,aW k2 183 (.agg ([(.slice none 0 0),(.slice none 0 0)]:List Value).toArray),aW k9 183 (zg [v193.v,v196.v]),bI FQ v193 oG,bI FR v196 oH,eP XH Nk c212,aW aka 70 (zg [(zi uo.Rel),Dq.v]),bI Nl Dq xx]/\D7 oG oH c212 uo JR xx wC=some XF) ⟨_,_,_,⟨none,0,0⟩,[],aA,(.conv .nil (gV (Ro:=(aC az)) (E:=3)) (.cons .nil) ay),hF⟩ ?_)
     rintro JR _ _ ⟨axF,xx,wC,Dq,Nl,rfl,hE,hF⟩
     refine bu hE ?_
     rcases JR with _|JR
     · rw[D7]at hF
       exact absurd hF (by simp)
     rw[D7]at hF
     refine bE ?_
     refine Ai Qt (fun aDg aDh=>?_)
     refine au ?_
     refine vL (R':=(aD 3 az)) iC.h (.tmp rfl rfl) .h zC (fun aDi=>?_)
     refine bv ?_
     refine Ci hF (fun at0 hF=>?_) (fun at0 hF=>?_)
     · refine aU ?_
       refine jD [0,1,2,3,4,5,6,7,8,9,10,11,12,13,14,15,16] [0,1,0,0,8,0,56,120,248,0,1016,2040,4092,8188,16383,32767,65535] [12,14,16] mixed (by decide+kernel) ?_
       refine du ?_
       refine dO rfl .no .q10 (fun ha hp=>fw (v:=Dq.v) iC.h (EN ha (.tmp rfl rfl) rfl) hp.2 rfl rfl) ?_
       refine dO rfl .no .q6 (fun ha hp=>fP si.h iL.h.sz rfl (EN ha (.tmp rfl rfl) rfl) hp.2 rfl) ?_
       refine dD ?_
       refine Di Qt (fun aDj aDk=>?_)
       refine du ?_
       refine oz (R':=(aD 3 az)) iC.h rfl .no (.tmp rfl rfl) rfl .h zC (fun aDl=>?_)
       refine du ?_
       refine zI hF fun aj5 aAP at1 hF=>?_
       refine Di at1 (fun aDm aDn=>?_)
       refine Dl dP ?_
       refine bnd hF fun XE at5 hF=>pq rfl rfl .no (.cons .q11 (.cons .q10 .nil)) (.dep rfl (.own .q11 (fun _ h=>h) .nil)) (fun ha=>jH (pre:=[]) (.cons aG (.cons aG .nil)) (fun _=>.nil) (bV ais.h (.cons (EN ha (.tmp rfl rfl) rfl) (.cons (EN ha (.tmp rfl rfl) rfl) .nil)) (OD at5))) (fun _=>?_)
       refine iy rfl .no rfl (fun ha=>bQ (g:=true) (len:=1) (parts:=[(0,.tmp 81)]) di.h dx.h (.cons (EN ha (.tmp rfl rfl) rfl) .nil) (vs:=[(zi XE)]) rfl rfl rfl (by intro v hv; simp at hv; rcases hv with rfl<;>rfl)) (fun aDo=>?_)
       refine jk (.cons .h .nil) (bS (Ro:=(aC az)) (E:=3) (F:=([]++[])) (xs:=([XE]:List Int)) (ed (jF (fun _=>rfl)) bR cK) rfl rfl) ?_
       refine bnd hF fun aj6 at6 hF=>cO rfl rfl .no (.cons (.t (.t (.t (.t (.t (.t (.t (.t (.t (.t (.t (.t (.t (.t (.t .h))))))))))))))) (.cons .h .nil)) (.dep rfl (.dep rfl (.dep rfl .nil))) (fun ha=>dX (Ro:=(aC az)) di.h jc dx.h rfl rfl rfl (EN ha (.tmp rfl rfl) rfl) (EN ha (.tmp rfl rfl) rfl) at6 fU) (fun acV=>?_)
       refine du ?_
       refine cO rfl rfl .no (.cons .q14 .nil) (.dep rfl (.dep rfl (.dep rfl .nil))) (fun ha=>gD (e':=(zg [(zi uo.Rel),acV.1.v])) pQ.h.sz (EN ha (.tmp rfl rfl) rfl) (EN ha (.tmp rfl rfl) rfl) rfl rfl rfl rfl rfl) (fun _=>?_)
       refine du ?_
       refine aZ ?_
       exact⟨JR,bY _,_,_,_,acV.1,acV.2,aA,ay,hF⟩
     refine bJ ?_
     refine bnd hF fun aj7 at7 hF=>Ra (.cons .q11 (.cons .q9 .nil)) (jH (pre:=[]) (.cons aG (.cons aG .nil)) (fun _=>(.cons .nil)) (bV Rh.h cu (Ld at7))) (fun akb=>?_)
     refine aU ?_
     cases hF
     exact⟨_,akb.1,akb.2,_,rfl,aA,ay⟩
   rintro _ _ ⟨R8,XI,acU,aDp,rfl,rfl,hE⟩
   replace hF:=atZ
   try dsimp only at hF
   refine bu hE ?_
   refine aZ ?_
   rw[wk yR]
   exact⟨_,bY _,_,yR+1,BG,_,XI,acU,rfl,aA,atY,ay,hF⟩
 obtain⟨atW,aua,aub⟩:=dA aiD
 rw[D8]at hF
 refine bJ ?_
 refine dK ?_
 refine au ?_
 obtain⟨acT,aqw,aiF⟩:=bind_some hF
 refine iF (fun f' cs'=>∃(R9 R_:List Int)(Sa:Int)(XJ:Sv)(acW:List Nat)(XK:Sv)(acX:List Nat)(g:Fr),acT= .inr (R9,R_,Sa)/\f'=aQ g [(1,(pz k1)),(3,(pz k2)),(5,p5.1.v),(6,p8.1.v),(7,(pz k9)),(8,(zi Sa)),(9,(zi (uq:Int)))]/\aO cs' [aX k1 120 (zg [ae.v,aP.v]),ah ae aK.Head,eX aP aK.Atoms,aW k2 183 (.agg ([(.slice none 0 0),(.slice none 0 0)]:List Value).toArray),bI p5.2 p5.1 r3,ah p8.1 r6,aW k9 183 (zg [XJ.v,XK.v]),bI acW XJ R9,bI acX XK R_]) ?_ ?_
 · replace hF:=aqw
   refine bn ?_
   obtain⟨XG,aqx,auc⟩:=bind_some hF
   refine iF (fun f' cs'=>∃(JU:Int)(g:Fr),JU=XG/\f'=aQ g [(1,(pz k1)),(3,(pz k2)),(5,p5.1.v),(6,p8.1.v),(7,(pz k9)),(8,(zi JU)),(9,(zi (uq:Int)))]/\aO cs' [aX k1 120 (zg [ae.v,aP.v]),ah ae aK.Head,eX aP aK.Atoms,aW k2 183 (.agg ([(.slice none 0 0),(.slice none 0 0)]:List Value).toArray),bI p5.2 p5.1 r3,ah p8.1 r6,aW k9 183 (zg [v193.v,v196.v]),bI FQ v193 oG,bI FR v196 oH]) ?_ ?_
   · replace hF:=aqx
     refine bn (bU (m:=fuel) (fun JS f' cs'=>∃(g:Fr)(FP:Int),f'=aQ g [(1,(pz k1)),(3,(pz k2)),(5,p5.1.v),(6,p8.1.v),(7,(pz k9)),(8,(zi FP)),(9,(zi (uq:Int)))]/\aO cs' [aX k1 120 (zg [ae.v,aP.v]),ah ae aK.Head,eX aP aK.Atoms,aW k2 183 (.agg ([(.slice none 0 0),(.slice none 0 0)]:List Value).toArray),bI p5.2 p5.1 r3,ah p8.1 r6,aW k9 183 (zg [v193.v,v196.v]),bI FQ v193 oG,bI FR v196 oH]/\GJ r3 JS FP=some XG) ⟨_,_,aA,ay,hF⟩ ?_)
     rintro JS _ _ ⟨aDq,FP,rfl,hE,hF⟩
     refine bu hE ?_
     rcases JS with _|JS
     · rw[GJ]at hF
       exact absurd hF (by simp)
     rw[GJ]at hF
     refine bi ?_
     refine bnd hF fun aj8 aud hF=>ek (.cons .q4 .nil) (jV aG (fun _=>.nil) (bV Wj.h cu (Pb aud))) (fun _=>?_)
     refine au ?_
     refine Ci hF (fun aue hF=>?_) (fun aue hF=>?_)
     · refine au ?_
       refine bn (kT (Cm (zi FP) rfl rfl ?_))
       refine bv ?_
       exact⟨JS,bY _,_,_,aA,ay,hF⟩
     exact bK hF
   rintro _ _ ⟨JU,aDr,rfl,rfl,hE⟩
   replace hF:=auc
   try dsimp only at hF
   refine bu hE ?_
   refine aZ ?_
   refine Ci hF (fun auf hF=>?_) (fun auf hF=>?_)
   · refine au ?_
     refine dH rfl (bQ (g:=true) gq.h dZ.h .nil (vs:=[]) rfl rfl rfl (by simp)) (fun akc=>?_)
     refine dR (.cons .h .nil) (bS (Ro:=gQ) (E:=70) (F:=[]) (xs:=([]:List Fact)) bR rfl rfl) ?_
     refine aN (iD iL.h rfl (vs:=[]) .nil (cells:=[(.slice none 0 0),(.slice none 0 0)]) rfl) ?_
     refine au ?_
     refine As (.agg ([(.slice none 0 0),(.slice none 0 0)]:List Value).toArray) ?_
     refine bv ?_
     cases hF
     replace hF:=aiF
     try dsimp only at hF
     cases hF
     exact gU (⟨(some ⟨akc,0,none⟩),0,1⟩,(akc::[]),⟨none,0,0⟩,[],⟨none,0,0⟩,[]) (.tmp rfl rfl (.cellA rfl rfl .h rfl si.h iL.h.sz rfl rfl (.tmp rfl rfl .nil))) rfl (.conv .nil (gV (Ro:=(aC az)) (E:=3)) (.cons .nil) (.conv .nil (gV (Ro:=(aC az)) (E:=3)) (.cons .nil) (.sel (.cons .q3 (.cons (.t .h) (.cons .h .nil))))))
   refine au ?_
   refine dV [0,1,2,3,4,5,6,7] [0,0,0,6,14,0,63,127] [6,7] mixed (by decide+kernel) ?_
   refine dO rfl .no .q6 (fun ha hp=>fP si.h iL.h.sz rfl (EN ha (.tmp rfl rfl) rfl) hp.2 rfl) ?_
   refine bX ?_
   refine Di aua (fun aDs aDt=>?_)
   refine Dl dP ?_
   refine du ?_
   refine bnd hF fun acS aug hF=>VS rfl rfl .no (.cons .q9 (.cons .q8 .nil)) (.dep rfl .nil) (fun ha=>jH (pre:=[]) (.cons aG (.cons aG .nil)) (fun _=>(.cons (.cons .nil))) (bV air.h (.cons (EN ha (.tmp rfl rfl) rfl) (.cons (EN ha (.tmp rfl rfl) rfl) (.cons (EN ha (.tmp rfl rfl) rfl) .nil))) (aga aug))) (fun FU=>?_)
   refine cO rfl rfl .no (.cons .q11 .nil) (.dep rfl .nil) (fun ha=>gD (e':=(zg [FU.1.v,FU.2.2.1.v])) (v:=(zg [FU.1.v,FU.2.2.1.v])) iL.h.sz (EN ha (.tmp rfl rfl) rfl) (EN ha (.tmp rfl rfl) rfl) rfl rfl rfl rfl rfl) (fun _=>?_)
   refine du ?_
   refine aZ ?_
   cases hF
   exact⟨_,_,_,FU.1,FU.2.1,FU.2.2.1,FU.2.2.2,_,rfl,aA,ay⟩
 rintro _ _ ⟨R9,R_,Sa,XJ,acW,XK,acX,aDu,rfl,rfl,hE⟩
 replace hF:=aiF
 try dsimp only at hF
 refine bu hE ?_
 refine aZ ?_
 rw[wk uq]
 exact⟨_,bY _,_,uq+1,BH,_,_,_,XJ,acW,XK,acX,rfl,aA,aub,ay,hF⟩
def Eg(pV:(List Fact)×bz×Bool):List Fact->Nat->(List Fact)->Option ((List Fact)×bz×Bool)
 |[],Ac,uk=>some (uk,pV.2.1,pV.2.2)
 |Nn::BI,Ac,uk=>(if (decide ((Nn.Rel:Int)<3))then (
       (app uk ([Nn]:List Fact)).bind fun akd=>
       some akd)
     else (
       some uk)).bind fun acY=>
   match acY with
   |Sb=>Eg pV BI (Ac+1) Sb
def AV(r4:Query)(fuel:Nat):List Int->Nat->(List Atom)->Option ((List Fact)×bz×Bool)
 |[],Ad,rG=>(Oo fuel (⟨r4.Head,rG⟩:Query)).bind fun pV=>
   Eg pV pV.1 0 ([]:List Fact)
 |Np::BJ,Ad,rG=>(app rG ([(⟨3,([Np]:List Int)⟩:Atom)]:List Atom)).bind fun z213=>
   AV r4 fuel BJ (Ad+1) z213
def Pf(fuel:Nat)(sO:Query)(aK:Query):Option ((List Fact)×bz×Bool):=
 (Mh sO).bind fun r4=>
 (K9 aK).bind fun r8=>
 AV r4 fuel r8 0 r4.Atoms
theorem am5{fuel:Nat}{sO:Query}{ae aP:Sv}{aK:Query}{ax aV:Sv}{R:(List Fact)×bz×Bool}(hF:Pf fuel sO aK=some R):
   Fw.Spec Tryz.prog 194 [(zg [ae.v,aP.v]),(zg [ax.v,aV.v])] [ah ae sO.Head,eX aP sO.Atoms,ah ax aK.Head,eX aV aK.Atoms] (fun p:Sv×List Nat×Sv×List Nat×Sv×List Nat=>(.tuple [p.1.v,(zg [p.2.2.1.v,p.2.2.2.2.1.v]),(.bool R.2.2)].toArray)) (fun p=>[ab9 p.2.1 p.1 R.1,bI p.2.2.2.1 p.2.2.1 R.2.1.Vars,bI p.2.2.2.2.2 p.2.2.2.2.1 R.2.1.Values]):=by
 refine Se 65 Tryz.func194 [.tmp 4,.cell 5 183,.tmp 6] ?_
 intro H0 F0
 unfold Pf at hF
 refine au ?_
 refine bP (fun k1=>?_)
 refine bP (fun k2=>?_)
 refine au ?_
 refine d_ (fun k3=>?_)
 refine bi ?_
 refine bnd hF fun r4 hx5 hF=>Av (af' hx5) (fun p6=>?_)
 refine d_ (fun k7=>?_)
 refine As (zg [p6.1.v,p6.2.2.1.v]) ?_
 refine bv ?_
 refine bnd hF fun r8 bZ hF=>gB (aez bZ) (fun fT=>?_)
 refine bE ?_
 refine bn (iG .h aG ?_)
 refine bU (m:=r8.length) (fun ake f' cs'=>∃(g:Fr)(Ad:Nat)(BJ:List Int)(rG:List Atom)(XL:Sv)(akf:List Nat),ake=BJ.length/\f'=aQ g [(5,(pz k3)),(7,(pz k7)),(8,fT.1.v),(9,(zi (Ad:Int)))]/\List.drop Ad r8=BJ/\aO cs' [aW k3 183 (.agg ([(.slice none 0 0),(.slice none 0 0)]:List Value).toArray),aW k7 120 (zg [p6.1.v,XL.v]),bI p6.2.1 p6.1 r4.Head,qo akf XL rG,ah fT.1 r8]/\AV r4 fuel BJ Ad rG=some R) ⟨_,0,_,_,p6.2.2.1,p6.2.2.2,rfl,aA,rfl,ay,hF⟩ ?_
 rintro ake _ _ ⟨axG,Ad,BJ,rG,XL,akf,rfl,rfl,aiG,hE,hF⟩
 refine Kb hE r8 (fun azy=>?_)
 rcases BJ with _|⟨Np,BJ⟩
 · have auh:=dn aiG
   rw[AV]at hF
   refine bJ ?_
   refine dL ?_
   refine bE ?_
   refine bnd hF fun pV aa3 hF=>avK (.cons .q3 (.cons .q2 .nil)) (jH (pre:=[]) (.cons aG (.cons aG .nil)) (fun _=>(.cons (.cons (.cons .nil)))) (bV asH.h cu (alX aa3))) (fun ma=>?_)
   refine au ?_
   refine zx ?_
   refine zx ?_
   refine zx ?_
   refine d_ (fun XM=>?_)
   refine au ?_
   refine As (zg [ma.2.2.1.v,ma.2.2.2.2.1.v]) ?_
   refine bv ?_
   refine dH rfl (bQ (g:=true) gq.h dZ.h .nil (vs:=[]) rfl rfl rfl (by simp)) (fun acZ=>?_)
   refine dR (.cons .h .nil) (bS (Ro:=(aC mP)) (E:=70) (F:=[]) (xs:=([]:List Fact)) bR rfl rfl) ?_
   refine bE ?_
   refine bn (iG .q4 aG ?_)
   refine bU (m:=pV.1.length) (fun akg f' cs'=>∃(g:Fr)(Ac:Nat)(BI uk:List Fact)(Sc:Sv)(XN:List Nat),akg=BI.length/\f'=aQ g [(5,(pz k3)),(10,ma.1.v),(11,(pz XM)),(12,(.bool pV.2.2)),(13,Sc.v),(14,(zi (Ac:Int)))]/\List.drop Ac pV.1=BI/\aO cs' [aW k3 183 (.agg ([(.slice none 0 0),(.slice none 0 0)]:List Value).toArray),bH ma.1 pV.1,aW XM 183 (zg [ma.2.2.1.v,ma.2.2.2.2.1.v]),bI ma.2.2.2.1 ma.2.2.1 pV.2.1.Vars,bI ma.2.2.2.2.2 ma.2.2.2.2.1 pV.2.1.Values,ab9 XN Sc uk]/\Eg pV BI Ac uk=some R) ⟨_,0,_,_,⟨(some ⟨acZ,0,none⟩),0,1⟩,(acZ::[]),rfl,aA,rfl,ay,hF⟩ ?_
   rintro akg _ _ ⟨aDv,Ac,BI,uk,Sc,XN,rfl,rfl,aiH,hE,hF⟩
   refine Kb hE pV.1 (fun azz=>?_)
   rcases BI with _|⟨Nn,BI⟩
   · have aui:=dn aiH
     rw[Eg]at hF
     refine bJ ?_
     refine dL ?_
     refine bi ?_
     refine dV [0,1,2,3,4,5] [0,0,0,1,11,31] [4] mixed (by decide+kernel) ?_
     refine du ?_
     refine dO rfl .no .q2 (fun ha hp=>fP si.h iL.h.sz rfl (EN ha (.tmp rfl rfl) rfl) hp.2 rfl) ?_
     refine bX ?_
     refine cO rfl rfl .no (.cons .h .nil) (.dep rfl .nil) (fun ha=>gD (e':=(zg [ma.2.2.1.v,ma.2.2.2.2.1.v])) (v:=(zg [ma.2.2.1.v,ma.2.2.2.2.1.v])) iL.h.sz (EN ha (.tmp rfl rfl) rfl) (EN ha (.tmp rfl rfl) rfl) rfl rfl rfl rfl rfl) (fun _=>?_)
     refine bX ?_
     refine au ?_
     cases hF
     exact gU (Sc,XN,ma.2.2.1,ma.2.2.2.1,ma.2.2.2.2.1,ma.2.2.2.2.2) (.tmp rfl rfl (.cellA rfl rfl .h rfl si.h iL.h.sz rfl rfl (.tmp rfl rfl .nil))) rfl (.sel (.cons .q5 (.cons .q3 (.cons .q3 .nil))))
   obtain⟨aui,aiI,auj⟩:=dA aiH
   rw[Eg]at hF
   refine bJ ?_
   refine dK ?_
   refine au ?_
   obtain⟨acY,aqy,auk⟩:=bind_some hF
   refine iF (fun f' cs'=>∃(Sb:List Fact)(XO:Sv)(ac0:List Nat)(g:Fr),Sb=acY/\f'=aQ g [(5,(pz k3)),(10,ma.1.v),(11,(pz XM)),(12,(.bool pV.2.2)),(13,XO.v),(14,(zi (Ac:Int)))]/\aO cs' [aW k3 183 (.agg ([(.slice none 0 0),(.slice none 0 0)]:List Value).toArray),bH ma.1 pV.1,aW XM 183 (zg [ma.2.2.1.v,ma.2.2.2.2.1.v]),bI ma.2.2.2.1 ma.2.2.1 pV.2.1.Vars,bI ma.2.2.2.2.2 ma.2.2.2.2.1 pV.2.1.Values,ab9 ac0 XO Sb]) ?_ ?_
   · replace hF:=aqy
     refine bn (dC (Cm ma.1.v rfl rfl ?_))
     refine au ?_
     refine Ai aiI (fun aDw aDx=>?_)
     refine au ?_
     refine Al BR ?_
     refine aU ?_
     refine Ci hF (fun aul hF=>?_) (fun aul hF=>?_)
     · refine bi ?_
       refine Ai aiI (fun aDy aDz=>?_)
       refine ni (lZ Nn) mq (fun axH=>?_)
       refine dH rfl (bQ (g:=true) gq.h dZ.h cu (vs:=[(zg [(zi Nn.Rel),axH.v])]) rfl rfl rfl (by intro v hv; simp at hv; rcases hv with rfl<;>rfl)) (fun axI=>?_)
       refine dR (.cons .h (.rd .h rfl .nil)) (bS (Ro:=(aC mP)) (E:=70) (F:=([]++[])) (xs:=([Nn]:List Fact)) (ed awm bR cK) rfl rfl) ?_
       refine bnd hF fun akd aum hF=>ek (.cons .q9 (.cons .h .nil)) (dX (Ro:=(aC mP)) gq.h yo dZ.h rfl rfl rfl (.tmp rfl rfl) (.tmp rfl rfl) aum fU) (fun akh=>?_)
       refine aU ?_
       cases hF
       exact⟨_,akh.1,akh.2,_,rfl,aA,ay⟩
     refine au ?_
     cases hF
     exact⟨_,Sc,XN,_,rfl,aA,ay⟩
   rintro _ _ ⟨Sb,XO,ac0,aDA,rfl,rfl,hE⟩
   replace hF:=auk
   try dsimp only at hF
   refine bu hE ?_
   refine aZ ?_
   rw[wk Ac]
   exact⟨_,bY _,_,Ac+1,BI,_,XO,ac0,rfl,aA,auj,ay,hF⟩
 obtain⟨auh,aun,auo⟩:=dA aiG
 rw[AV]at hF
 refine bJ ?_
 refine dK ?_
 refine aU ?_
 refine jD [0,1,2,3,4,5,6,7,8,9,10,11] [0,1,0,0,12,28,60,124,252,511,1023,2047] [9,11] mixed (by decide+kernel) ?_
 refine du ?_
 refine dO rfl .no (.t .h) (fun ha hp=>fw (v:=XL.v) aaH.h (EN ha (.tmp rfl rfl) rfl) hp.2 rfl rfl) ?_
 refine bX ?_
 refine Di aun (fun aDB aDC=>?_)
 refine Dl dP ?_
 refine iy rfl .no rfl (fun ha=>bQ (g:=true) (len:=1) (parts:=[(0,.tmp 30)]) di.h dx.h (.cons (EN ha (.tmp rfl rfl) rfl) .nil) (vs:=[(zi Np)]) rfl rfl rfl (by intro v hv; simp at hv; rcases hv with rfl<;>rfl)) (fun FT=>?_)
 refine jk (.cons .h .nil) (bS (Ro:=(aC az)) (E:=3) (F:=([]++[])) (xs:=([Np]:List Int)) (ed (jF (fun _=>rfl)) bR cK) rfl rfl) ?_
 refine bN rfl .no (fun ha=>iD qO.h rfl (vs:=[(zi 3),(.slice (some ⟨FT,0,none⟩) 1 1)]) (.cons (EN ha (.int _ _) rfl) (.cons (EN ha (.tmp rfl rfl) rfl) .nil)) (cells:=[(zi 3),(.slice (some ⟨FT,0,none⟩) 1 1)]) rfl) ?_
 refine iy rfl .no rfl (fun ha=>bQ (g:=true) (len:=1) (parts:=[(0,.tmp 32)]) Fp.h qO.h (.cons (EN ha (.tmp rfl rfl) rfl) .nil) (vs:=[(zg [(zi 3),(.slice (some ⟨FT,0,none⟩) 1 1)])]) rfl rfl rfl (by intro v hv; simp at hv; rcases hv with rfl<;>rfl)) (fun wB=>?_)
 refine jk (.cons .h (.cons .h .nil)) (bS (Ro:=nH) (E:=159) (F:=((FT::([]++[]))++[])) (xs:=([(⟨3,([Np]:List Int)⟩:Atom)]:List Atom)) (ed (Wh (v0:=⟨(some ⟨FT,0,none⟩),1,1⟩) (a:=(⟨3,([Np]:List Int)⟩:Atom))) bR cK) rfl rfl) ?_
 refine bnd hF fun z213 aa2 hF=>cO rfl rfl .no (.cons .q5 (.cons .h .nil)) (.dep rfl (.dep rfl (.dep rfl .nil))) (fun ha=>dX (Ro:=nH) Fp.h Wi qO.h rfl rfl rfl (EN ha (.tmp rfl rfl) rfl) (EN ha (.tmp rfl rfl) rfl) aa2 fU) (fun JQ=>?_)
 refine du ?_
 refine cO rfl rfl .no (.cons .q3 .nil) (.dep rfl (.dep rfl (.dep rfl .nil))) (fun ha=>gD (e':=(zg [p6.1.v,JQ.1.v])) aaI.h.sz (EN ha (.tmp rfl rfl) rfl) (EN ha (.tmp rfl rfl) rfl) rfl rfl rfl rfl rfl) (fun _=>?_)
 refine du ?_
 refine aZ ?_
 rw[wk Ad]
 exact⟨_,bY _,_,Ad+1,BJ,_,JQ.1,JQ.2,rfl,aA,auo,ay,hF⟩
def EA(aR:bz):List Int->Nat->(List Int)->Option ((List Int))
 |[],k10,c4=>some c4
 |ol::Cb,k10,c4=>(xU aR ol).bind fun oM=>
   (app c4 ([oM]:List Int)).bind fun z25=>
   EA aR Cb (k10+1) z25
def LU(aK:Query)(aR:bz):Option ((List Int)):=
 EA aR aK.Head 0 ([]:List Int)
theorem afH{aK:Query}{ae aP:Sv}{aR:bz}{ax aV:Sv}{R:(List Int)}(hF:LU aK aR=some R):
   Fw.Spec Tryz.prog 196 [(zg [ae.v,aP.v]),(zg [ax.v,aV.v])] [ah ae aK.Head,eX aP aK.Atoms,ah ax aR.Vars,ah aV aR.Values] (fun p:Sv×List Nat=>p.1.v) (fun p=>[bI p.2 p.1 R]):=by
 refine Se 26 Tryz.func196 [.tmp 4] ?_
 intro H0 F0
 unfold LU at hF
 refine au ?_
 refine bP (fun k1=>?_)
 refine bP (fun k2=>?_)
 refine bv ?_
 refine dH rfl (bQ (g:=true) di.h dx.h .nil (vs:=[]) rfl rfl rfl (by simp)) (fun k3=>?_)
 refine dR (.cons .h .nil) (bS (Ro:=(aC az)) (E:=3) (F:=[]) (xs:=([]:List Int)) bR rfl rfl) ?_
 refine bE ?_
 refine bn (bU (m:=aK.Head.length) (fun m8 f' cs'=>∃(g:Fr)(k10:Nat)(Cb c4:List Int)(v5:Sv)(F6:List Nat),m8=Cb.length/\f'=aQ g [(2,(pz k1)),(3,(pz k2)),(5,v5.v),(6,(zi (k10:Int)))]/\List.drop k10 aK.Head=Cb/\aO cs' [aX k1 120 (zg [ae.v,aP.v]),ah ae aK.Head,eX aP aK.Atoms,aX k2 183 (zg [ax.v,aV.v]),ah ax aR.Vars,ah aV aR.Values,bI F6 v5 c4]/\EA aR Cb k10 c4=some R) ⟨_,0,_,_,⟨(some ⟨k3,0,none⟩),0,1⟩,(k3::[]),rfl,aA,rfl,ay,hF⟩ ?_)
 rintro m8 _ _ ⟨g9,k10,Cb,c4,v5,F6,rfl,rfl,aki,hE,hF⟩
 refine Kb hE aK.Head (fun aAQ=>?_)
 rcases Cb with _|⟨ol,Cb⟩
 · have axJ:=dn aki
   rw[EA]at hF
   refine dN ?_
   refine dL ?_
   refine gF ?_
   cases hF
   exact Er (v5,F6)
 obtain⟨axJ,kG,Xo⟩:=dA aki
 rw[EA]at hF
 refine dN ?_
 refine dK ?_
 refine aU ?_
 refine jD [0,1,2,3,4,5,6,7,8,9,10] [0,0,0,4,0,28,60,126,254,511,1023] [7,9] mixed (by decide+kernel) ?_
 refine t_ ?_
 refine Di kG (fun k19 Gi=>?_)
 refine Dl dP ?_
 refine bnd hF fun oM ug hF=>fu (OD ug) (fun _=>?_)
 refine iy rfl .no rfl (fun ha=>bQ (g:=true) (len:=1) (parts:=[(0,.tmp 22)]) di.h dx.h (.cons (EN ha (.tmp rfl rfl) rfl) .nil) (vs:=[(zi oM)]) rfl rfl rfl (by intro v hv; simp at hv; rcases hv with rfl<;>rfl)) (fun k24=>?_)
 refine jk (.cons .h .nil) (bS (Ro:=(aC az)) (E:=3) (F:=([]++[])) (xs:=([oM]:List Int)) (ed (jF (fun _=>rfl)) bR cK) rfl rfl) ?_
 refine bnd hF fun z25 nL hF=>cO rfl rfl .no (.cons .q8 (.cons .h .nil)) (.dep rfl .nil) (fun ha=>dX (Ro:=(aC az)) di.h jc dx.h rfl rfl rfl (EN ha (.tmp rfl rfl) rfl) (EN ha (.tmp rfl rfl) rfl) nL fU) (fun p27=>?_)
 refine bX ?_
 refine aZ ?_
 rw[wk k10]
 exact⟨_,bY _,_,k10+1,Cb,_,p27.1,p27.2,rfl,aA,Xo,ay,hF⟩
def Mi(aR:bz):Option (bz):=
 (app ([]:List Int) aR.Vars).bind fun z5=>
 (app ([]:List Int) aR.Values).bind fun z8=>
 some (⟨z5,z8⟩:bz)
theorem agb{aR:bz}{ae aP:Sv}{R:bz}(hF:Mi aR=some R):
   Fw.Spec Tryz.prog 198 [(zg [ae.v,aP.v])] [ah ae aR.Vars,ah aP aR.Values] (fun p:Sv×List Nat×Sv×List Nat=>(zg [p.1.v,p.2.2.1.v])) (fun p=>[bI p.2.1 p.1 R.Vars,bI p.2.2.2 p.2.2.1 R.Values]):=by
 refine Se 12 Tryz.func198 [.cell 2 183] ?_
 intro H0 F0
 unfold Mi at hF
 refine au ?_
 refine bP (fun k1=>?_)
 refine d_ (fun k2=>?_)
 refine au ?_
 refine dV [0,1,2,4,5,6,3,7,8,9] [0,0,2,7,0,0,32,127,255,511] [3,7,9] mixed (by decide+kernel) ?_
 refine iy rfl .no rfl (fun ha=>bQ (g:=true) (len:=0) (parts:=[]) di.h dx.h .nil (vs:=[]) rfl rfl rfl (by simp)) (fun k3=>?_)
 refine jk (.cons .h .nil) (bS (Ro:=(aC az)) (E:=3) (F:=[]) (xs:=([]:List Int)) bR rfl rfl) ?_
 refine bX ?_
 refine iy rfl .no rfl (fun ha=>bQ (g:=true) (len:=0) (parts:=[]) di.h dx.h .nil (vs:=[]) rfl rfl rfl (by simp)) (fun k4=>?_)
 refine jk (.cons .h .nil) (bS (Ro:=(aC az)) (E:=3) (F:=[]) (xs:=([]:List Int)) bR rfl rfl) ?_
 refine bX ?_
 refine bnd hF fun z5 hx6 hF=>cO rfl rfl .no (.cons (.t .h) (.rd .q3 rfl .nil)) (.own .h (by simp[aT]) (.dep rfl .nil)) (fun ha=>dX (Ro:=(aC az)) di.h jc dx.h rfl rfl rfl (EN ha (.tmp rfl rfl) rfl) (EN ha (.tmp rfl rfl) rfl) hx6 mr) (fun p7=>?_)
 refine bnd hF fun z8 bZ hF=>cO rfl rfl .no (.cons (.t .h) (.rd .q4 rfl .nil)) (.dep rfl (.dep rfl .nil)) (fun ha=>dX (Ro:=(aC az)) di.h jc dx.h rfl rfl rfl (EN ha (.tmp rfl rfl) rfl) (EN ha (.tmp rfl rfl) rfl) bZ mr) (fun fT=>?_)
 refine bN rfl .no (fun ha=>iD iL.h rfl (vs:=[p7.1.v,fT.1.v]) (.cons (EN ha (.tmp rfl rfl) rfl) (.cons (EN ha (.tmp rfl rfl) rfl) .nil)) (cells:=[p7.1.v,fT.1.v]) rfl) ?_
 refine cO rfl rfl .no (.cons .q2 .nil) (.dep rfl (.dep rfl .nil)) (fun ha=>gD (e':=(zg [p7.1.v,fT.1.v])) (v:=(zg [p7.1.v,fT.1.v])) iL.h.sz (EN ha (.tmp rfl rfl) rfl) (EN ha (.tmp rfl rfl) rfl) rfl rfl rfl rfl rfl) (fun _=>?_)
 refine du ?_
 refine au ?_
 cases hF
 exact Er (p7.1,p7.2,fT.1,fT.2)
def H8(aR:bz)(nS:Int):Nat->Int->Option (Bool)
 |0,_=>none
 |m3+1,c2=>if ((decide ((c2:Int)<(aR.Vars.length:Int)))&&(decide ((c2:Int)<(aR.Values.length:Int))))then (
     (ix aR.Vars c2).bind fun oI=>
     if ((oI:Int)==nS)then (
       some true)
     else (
       H8 aR nS m3 (IntKind.i64.wrap (c2+1))))
   else (
     some false)
def LV(aR:bz)(nS:Int):Option (Bool):=
 H8 aR nS (((aR.Vars.length:Int)-0).toNat+2) 0
theorem anK{aR:bz}{ae aP:Sv}{nS:Int}{R:Bool}(hF:LV aR nS=some R):
   Fw.Spec Tryz.prog 199 [(zg [ae.v,aP.v]),(zi nS)] [ah ae aR.Vars,ah aP aR.Values] (fun _:Unit=>(.bool R)) (fun _=>[]):=by
 refine Se 27 Tryz.func199 [.tmp 4] ?_
 intro H0 F0
 unfold LV at hF
 refine au ?_
 refine bP (fun k1=>?_)
 refine bE ?_
 refine bn (bU (m:=(((aR.Vars.length:Int)-0).toNat+2)) (fun m3 f' cs'=>∃(g:Fr)(c2:Int),f'=aQ g [(1,(zi nS)),(2,(pz k1)),(5,(zi c2))]/\aO cs' [aX k1 183 (zg [ae.v,aP.v]),ah ae aR.Vars,ah aP aR.Values]/\H8 aR nS m3 c2=some R) ⟨_,_,aA,ay,hF⟩ ?_)
 rintro m3 _ _ ⟨g4,c2,rfl,hE,hF⟩
 refine bu hE ?_
 rcases m3 with _|m3
 · rw[H8]at hF
   exact absurd hF (by simp)
 rw[H8]at hF
 refine aU ?_
 refine fe (fun f' cs'=>∃(g:Fr),f'=aQ g [(1,(zi nS)),(2,(pz k1)),(5,(zi c2)),(17,(.bool ((decide ((c2:Int)<(aR.Vars.length:Int)))&&(decide ((c2:Int)<(aR.Values.length:Int))))))]/\aO cs' [aX k1 183 (zg [ae.v,aP.v]),ah ae aR.Vars,ah aP aR.Values]) ?_ ?_
 · refine bE ?_
   rcases bD (decide ((c2:Int)<(aR.Vars.length:Int)))with dS|dS
   · rw[dS]
     try rw[dS]at hF; dsimp only[aJ,aI]at hF
     refine Fs ?_
     exact⟨_,aA,ay⟩
   rw[dS]
   try rw[dS]at hF; dsimp only[aJ,aI]at hF
   refine bJ ?_
   exact⟨_,aA,ay⟩
 rintro _ _ ⟨g12,rfl,hE⟩
 refine bu hE ?_
 refine Ci hF (fun nK hF=>?_) (fun nK hF=>?_)
 · refine bE ?_
   refine zI hF fun oI Xf hx16 hF=>?_
   refine Ai hx16 (fun k17 J5=>?_)
   refine Al dP ?_
   refine bv ?_
   refine Ci hF (fun wD hF=>?_) (fun wD hF=>?_)
   · exact ze hF
   refine bE ?_
   exact⟨m3,bY _,_,_,aA,ay,hF⟩
 exact ze hF
def G6(bF:Fact):List Int->Nat->(List Int)->(List Int)->Option (bz×Bool)
 |[],wO,rQ,zh=>some ((⟨rQ,zh⟩:bz),true)
 |x82::Ce,wO,rQ,zh=>(((xU (⟨rQ,zh⟩:bz) x82).bind fun Gp=>
     ((BD x82).bind fun ac1=>
       bif ac1 then ((LV (⟨rQ,zh⟩:bz) x82).bind fun akj=>
         some (!akj))
       else (some false)).bind fun o96=>
     match o96 with
     |c109=>if c109 then (
         (ix bF.Values (wO:Int)).bind fun x112=>
         (EU (⟨rQ,zh⟩:bz) x82 x112).bind fun ac2=>
         some (.inr (ac2.Vars,ac2.Values)))
       else (
         (ix bF.Values (wO:Int)).bind fun akk=>
         if ((Gp:Int)!=akk)then (
           some (.inl ((⟨[],[]⟩:bz),false)))
         else (
           some (.inr (rQ,zh))))):Option (Sum (bz×Bool) ((List Int)×(List Int)))).bind fun o89=>
   match o89 with
   | .inl r=>some r
   | .inr (c130,Sd)=>G6 bF Ce (wO+1) c130 Sd
def OV(aR:bz)(aB:Atom)(bF:Fact):Option (bz×Bool):=
 (Mi aR).bind fun r5=>
 if (((aB.Rel:Int)!=bF.Rel)||((((aB.Terms.length:Int):Int)!=(bF.Values.length:Int))||(((aR.Vars.length:Int):Int)!=(aR.Values.length:Int))))then (
   some ((⟨[],[]⟩:bz),false))
 else (
   G6 bF aB.Terms 0 r5.Vars r5.Values)
theorem amC{aR:bz}{ae aP:Sv}{aB:Atom}{aV:Sv}{bF:Fact}{dJ:Sv}{R:bz×Bool}(hF:OV aR aB bF=some R):
   Fw.Spec Tryz.prog 191 [(zg [ae.v,aP.v]),(zg [(zi aB.Rel),aV.v]),(zg [(zi bF.Rel),dJ.v])] [ah ae aR.Vars,ah aP aR.Values,ah aV aB.Terms,ah dJ bF.Values] (fun p:Sv×List Nat×Sv×List Nat=>(.tuple [(zg [p.1.v,p.2.2.1.v]),(.bool R.2)].toArray)) (fun p=>[bI p.2.1 p.1 R.1.Vars,bI p.2.2.2 p.2.2.1 R.1.Values]):=by
 refine Se 88 Tryz.func191 [.cell 6 183,.tmp 7] ?_
 intro H0 F0
 unfold OV at hF
 refine au ?_
 refine bP (fun k1=>?_)
 refine bP (fun k2=>?_)
 refine bP (fun k3=>?_)
 refine d_ (fun k4=>?_)
 refine bi ?_
 refine bnd hF fun r5 hx6 hF=>Av (agb hx6) (fun p7=>?_)
 refine d_ (fun k8=>?_)
 refine As (zg [p7.1.v,p7.2.2.1.v]) ?_
 refine bv ?_
 refine fe (fun f' cs'=>∃(g:Fr),f'=aQ g [(4,(pz k2)),(5,(pz k3)),(6,(pz k4)),(8,(pz k8)),(35,(.bool (((aB.Rel:Int)!=bF.Rel)||((((aB.Terms.length:Int):Int)!=(bF.Values.length:Int))||(((aR.Vars.length:Int):Int)!=(aR.Values.length:Int))))))]/\aO cs' [aX k2 159 (zg [(zi aB.Rel),aV.v]),ah aV aB.Terms,aX k3 70 (zg [(zi bF.Rel),dJ.v]),ah dJ bF.Values,aW k4 183 (.agg ([(.slice none 0 0),(.slice none 0 0)]:List Value).toArray),aW k8 183 (zg [p7.1.v,p7.2.2.1.v]),bI p7.2.1 p7.1 r5.Vars,bI p7.2.2.2 p7.2.2.1 r5.Values]) ?_ ?_
 · refine bE ?_
   rcases bD ((aB.Rel:Int)!=bF.Rel)with TV|TV
   · rw[TV]
     try rw[TV]at hF; dsimp only[aJ,aI]at hF
     refine as6 ?_
     exact⟨_,aA,ay⟩
   rw[TV]
   try rw[TV]at hF; dsimp only[aJ,aI]at hF
   refine Qn ?_
   rcases bD (((aB.Terms.length:Int):Int)!=(bF.Values.length:Int))with ru|ru
   · rw[ru]
     try rw[ru]at hF; dsimp only[aJ,aI]at hF
     refine gF ?_
     exact⟨_,aA,ay⟩
   rw[ru]
   try rw[ru]at hF; dsimp only[aJ,aI]at hF
   refine Qn ?_
   exact⟨_,aA,ay⟩
 rintro _ _ ⟨g11,rfl,hE⟩
 refine bu hE ?_
 refine Ci hF (fun aup hF=>?_) (fun aup hF=>?_)
 · refine au ?_
   refine aN (iD iL.h rfl (vs:=[]) .nil (cells:=[(.slice none 0 0),(.slice none 0 0)]) rfl) ?_
   refine As (.agg ([(.slice none 0 0),(.slice none 0 0)]:List Value).toArray) ?_
   refine bv ?_
   cases hF
   exact gU (⟨none,0,0⟩,[],⟨none,0,0⟩,[]) (.cellA rfl rfl .h rfl si.h iL.h.sz rfl rfl (.tmp rfl rfl .nil)) rfl (.conv .nil (gV (Ro:=(aC az)) (E:=3)) (.cons .nil) (.conv .nil (gV (Ro:=(aC az)) (E:=3)) (.cons .nil) (.sel (.cons (.t .h) (.cons .h .nil)))))
 refine aZ ?_
 refine bn (bU (m:=aB.Terms.length) (fun m78 f' cs'=>∃(g:Fr)(wO:Nat)(Ce rQ zh:List Int)(v72:Sv)(TW:List Nat)(v75:Sv)(TZ:List Nat),m78=Ce.length/\f'=aQ g [(4,(pz k2)),(5,(pz k3)),(6,(pz k4)),(8,(pz k8)),(9,(zi (wO:Int)))]/\List.drop wO aB.Terms=Ce/\aO cs' [aX k2 159 (zg [(zi aB.Rel),aV.v]),ah aV aB.Terms,aX k3 70 (zg [(zi bF.Rel),dJ.v]),ah dJ bF.Values,aW k4 183 (.agg ([(.slice none 0 0),(.slice none 0 0)]:List Value).toArray),aW k8 183 (zg [v72.v,v75.v]),bI TW v72 rQ,bI TZ v75 zh]/\G6 bF Ce wO rQ zh=some R) ⟨_,0,_,_,_,p7.1,p7.2.1,p7.2.2.1,p7.2.2.2,rfl,aA,rfl,ay,hF⟩ ?_)
 rintro m78 _ _ ⟨g79,wO,Ce,rQ,zh,v72,TW,v75,TZ,rfl,rfl,akl,hE,hF⟩
 refine Kb hE aB.Terms (fun aAR=>?_)
 rcases Ce with _|⟨x82,Ce⟩
 · have axK:=dn akl
   rw[G6]at hF
   refine dN ?_
   refine dL ?_
   refine bE ?_
   refine As (zg [v72.v,v75.v]) ?_
   refine bv ?_
   cases hF
   exact gU (v72,TW,v75,TZ) (.cellA rfl rfl .h rfl si.h iL.h.sz rfl rfl (.tmp rfl rfl .nil)) rfl (.sel (.cons .q6 (.cons .q6 .nil)))
 obtain⟨axK,XP,axL⟩:=dA akl
 rw[G6]at hF
 refine dN ?_
 refine dK ?_
 refine au ?_
 obtain⟨o89,auq,akm⟩:=bind_some hF
 refine iF (fun f' cs'=>∃(c130 Sd:List Int)(v131:Sv)(ac3:List Nat)(XQ:Sv)(ac4:List Nat)(g:Fr),o89= .inr (c130,Sd)/\f'=aQ g [(4,(pz k2)),(5,(pz k3)),(6,(pz k4)),(8,(pz k8)),(9,(zi (wO:Int)))]/\aO cs' [aX k2 159 (zg [(zi aB.Rel),aV.v]),ah aV aB.Terms,aX k3 70 (zg [(zi bF.Rel),dJ.v]),ah dJ bF.Values,aW k4 183 (.agg ([(.slice none 0 0),(.slice none 0 0)]:List Value).toArray),aW k8 183 (zg [v131.v,XQ.v]),bI ac3 v131 c130,bI ac4 XQ Sd]) ?_ ?_
 · replace hF:=auq
   refine bn (dV [0,1,2,3,4,5,6,7] [0,0,2,0,14,30,63,127] [6] mixed (by decide+kernel) ?_)
   refine dO rfl .no .q5 (fun ha hp=>fP si.h iL.h.sz rfl (EN ha (.tmp rfl rfl) rfl) hp.2 rfl) ?_
   refine dD ?_
   refine Di XP (fun k91 j92=>?_)
   refine Dl dP ?_
   refine bnd hF fun Gp acF hF=>pq rfl rfl .no (.cons .q8 (.cons .q7 .nil)) (.dep rfl .nil) (fun ha=>jH (pre:=[]) (.cons aG (.cons aG .nil)) (fun _=>.nil) (bV ais.h (.cons (EN ha (.tmp rfl rfl) rfl) (.cons (EN ha (.tmp rfl rfl) rfl) .nil)) (OD acF))) (fun _=>?_)
   refine bX ?_
   obtain⟨o96,aur,axM⟩:=bind_some hF
   refine dV [0,1,2,3,4,5,6,7,8,9,10,11,12,13,14,15] [0,1,0,7,15,31,63,127,127,383,127,1919,3967,8191,16383,32767] [5,13] mixed (by decide+kernel) ?_
   refine kX (fun f' cs'=>∃(c109:Bool)(g:Fr),c109=o96/\f'=aQ g [(4,(pz k2)),(5,(pz k3)),(6,(pz k4)),(8,(pz k8)),(9,(zi (wO:Int))),(10,(zi Gp)),(66,(.bool c109))]/\aO cs' [aX k2 159 (zg [(zi aB.Rel),aV.v]),ah aV aB.Terms,aX k3 70 (zg [(zi bF.Rel),dJ.v]),ah dJ bF.Values,aW k4 183 (.agg ([(.slice none 0 0),(.slice none 0 0)]:List Value).toArray),aW k8 183 (zg [v72.v,v75.v]),bI TW v72 rQ,bI TZ v75 zh]) ?_ ?_
   · replace hF:=aur
     refine dD ?_
     refine Di XP (fun k98 j99=>?_)
     refine Dl dP ?_
     refine bnd hF fun ac1 hx101 hF=>fu (LC hx101) (fun _=>?_)
     refine du ?_
     rcases bD ac1 with yc|yc
     · rw[yc]
       try rw[yc]at hF; dsimp only[aJ,aI]at hF
       refine dO rfl (.on 57 rfl rfl rfl) .q9 (fun ha hp=>fP si.h iL.h.sz rfl (EN ha (.tmp rfl rfl) rfl) hp.2 rfl) ?_
       refine dD ?_
       refine Di XP (fun axN axO=>?_)
       refine Dl dP ?_
       refine bnd hF fun akj aus hF=>pq rfl rfl (.on 57 rfl rfl rfl) (.cons .q2 (.cons .q2 .nil)) (.dep rfl .nil) (fun ha=>jH (pre:=[]) (.cons aG (.cons aG .nil)) (fun _=>.nil) (bV asL.h (.cons (EN ha (.tmp rfl rfl) rfl) (.cons (EN ha (.tmp rfl rfl) rfl) .nil)) (anK aus))) (fun _=>?_)
       exact eD hF
     rw[yc]
     try rw[yc]at hF; dsimp only[aJ,aI]at hF
     exact eD hF
   rintro _ _ ⟨c109,aDD,rfl,rfl,hE⟩
   replace hF:=axM
   try dsimp only at hF
   refine bu hE ?_
   refine Ci hF (fun aut hF=>?_) (fun aut hF=>?_)
   · refine jD [0,1,2,3,4,5,6,7,8,9,10,11,12] [0,0,2,0,14,30,0,64,0,448,960,2047,4095] [11,12] mixed (by decide+kernel) ?_
     refine dO rfl .no .q5 (fun ha hp=>fP si.h iL.h.sz rfl (EN ha (.tmp rfl rfl) rfl) hp.2 rfl) ?_
     refine dD ?_
     refine Di XP (fun axP axQ=>?_)
     refine Dl dP ?_
     refine dD ?_
     refine zI hF fun x112 aAS hx115 hF=>?_
     refine Di hx115 (fun aDE aDF=>?_)
     refine Dl dP ?_
     refine bnd hF fun ac2 auu hF=>VS rfl rfl .no (.cons .q9 (.cons .q8 .nil)) (.dep rfl .nil) (fun ha=>jH (pre:=[]) (.cons aG (.cons aG .nil)) (fun _=>(.cons (.cons .nil))) (bV air.h (.cons (EN ha (.tmp rfl rfl) rfl) (.cons (EN ha (.tmp rfl rfl) rfl) (.cons (EN ha (.tmp rfl rfl) rfl) .nil))) (aga auu))) (fun FV=>?_)
     refine cO rfl rfl .no (.cons .q11 .nil) (.dep rfl .nil) (fun ha=>gD (e':=(zg [FV.1.v,FV.2.2.1.v])) (v:=(zg [FV.1.v,FV.2.2.1.v])) iL.h.sz (EN ha (.tmp rfl rfl) rfl) (EN ha (.tmp rfl rfl) rfl) rfl rfl rfl rfl rfl) (fun _=>?_)
     refine du ?_
     cases hF
     exact⟨_,_,FV.1,FV.2.1,FV.2.2.1,FV.2.2.2,_,rfl,aA,ay⟩
   refine aZ ?_
   refine zI hF fun akk aAT aa4 hF=>?_
   refine Ai aa4 (fun aDG aDH=>?_)
   refine Al dP ?_
   refine aU ?_
   refine Ci hF (fun Qu hF=>?_) (fun Qu hF=>?_)
   · refine au ?_
     refine aN (iD iL.h rfl (vs:=[]) .nil (cells:=[(.slice none 0 0),(.slice none 0 0)]) rfl) ?_
     refine As (.agg ([(.slice none 0 0),(.slice none 0 0)]:List Value).toArray) ?_
     refine bv ?_
     cases hF
     replace hF:=akm
     try dsimp only at hF
     cases hF
     exact gU (⟨none,0,0⟩,[],⟨none,0,0⟩,[]) (.cellA rfl rfl .h rfl si.h iL.h.sz rfl rfl (.tmp rfl rfl .nil)) rfl (.conv .nil (gV (Ro:=(aC az)) (E:=3)) (.cons .nil) (.conv .nil (gV (Ro:=(aC az)) (E:=3)) (.cons .nil) (.sel (.cons (.t .h) (.cons .h .nil)))))
   refine au ?_
   cases hF
   exact⟨_,_,v72,TW,v75,TZ,_,rfl,aA,ay⟩
 rintro _ _ ⟨c130,Sd,v131,ac3,XQ,ac4,aDI,rfl,rfl,hE⟩
 replace hF:=akm
 try dsimp only at hF
 refine bu hE ?_
 refine aZ ?_
 rw[wk wO]
 exact⟨_,bY _,_,wO+1,Ce,_,_,v131,ac3,XQ,ac4,rfl,aA,axL,ay,hF⟩
def Eh(aB:Atom)(iO:bz):List Fact->Nat->(List bz)->Option ((List bz))
 |[],k26,c20=>some c20
 |x28::pu,k26,c20=>((OV iO aB x28).bind fun jS=>
     if jS.2 then (
       (app c20 ([jS.1]:List bz)).bind fun z48=>
       some z48)
     else (
       some c20)).bind fun zb=>
   match zb with
   |rT=>Eh aB iO pu (k26+1) rT
def Ei(aB:Atom)(bO:List Fact):List bz->Nat->(List bz)->Option ((List bz))
 |[],k9,c3=>some c3
 |iO::gJ,k9,c3=>(Eh aB iO bO 0 c3).bind fun kS=>
   match kS with
   |uH=>Ei aB bO gJ (k9+1) uH
def Bf(ai:List bz)(aB:Atom)(bO:List Fact):Option ((List bz)):=
 Ei aB bO ai 0 ([]:List bz)
theorem UX{ai:List bz}{ae:Sv}{aB:Atom}{aV:Sv}{bO:List Fact}{bM:Sv}{R:(List bz)}(hF:Bf ai aB bO=some R):
   Fw.Spec Tryz.prog 174 [ae.v,(zg [(zi aB.Rel),aV.v]),bM.v] [su ae ai,ah aV aB.Terms,bH bM bO] (fun p:Sv×List Nat=>p.1.v) (fun p=>[tL p.2 p.1 R]):=by
 refine Se 44 Tryz.func174 [.tmp 6] ?_
 intro H0 F0
 unfold Bf at hF
 refine au ?_
 refine bP (fun k1=>?_)
 refine bv ?_
 refine dH rfl (bQ (g:=true) w_.h iL.h .nil (vs:=[]) rfl rfl rfl (by simp)) (fun k2=>?_)
 refine dR (.cons .h .nil) (bS (Ro:=sj) (E:=183) (F:=[]) (xs:=([]:List bz)) bR rfl rfl) ?_
 refine bE ?_
 refine bn (bU (m:=ai.length) (fun m7 f' cs'=>∃(g:Fr)(k9:Nat)(gJ c3:List bz)(v4:Sv)(F5:List Nat),m7=gJ.length/\f'=aQ g [(0,ae.v),(2,bM.v),(4,(pz k1)),(7,v4.v),(8,(zi (k9:Int)))]/\List.drop k9 ai=gJ/\aO cs' [su ae ai,bH bM bO,aX k1 159 (zg [(zi aB.Rel),aV.v]),ah aV aB.Terms,tL F5 v4 c3]/\Ei aB bO gJ k9 c3=some R) ⟨_,0,_,_,⟨(some ⟨k2,0,none⟩),0,1⟩,(k2::[]),rfl,aA,rfl,ay,hF⟩ ?_)
 rintro m7 _ _ ⟨g8,k9,gJ,c3,v4,F5,rfl,rfl,mR,hE,hF⟩
 refine Kb hE ai (fun Qp=>?_)
 rcases gJ with _|⟨iO,gJ⟩
 · have yL:=dn mR
   rw[Ei]at hF
   refine bJ ?_
   refine dL ?_
   refine gF ?_
   cases hF
   exact Er (v4,F5)
 obtain⟨yL,kr,rF⟩:=dA mR
 rw[Ei]at hF
 refine bJ ?_
 refine dK ?_
 refine au ?_
 obtain⟨kS,vQ,wz⟩:=bind_some hF
 refine iF (fun f' cs'=>∃(uH:List bz)(v58:Sv)(F59:List Nat)(g:Fr),uH=kS/\f'=aQ g [(0,ae.v),(2,bM.v),(4,(pz k1)),(7,v58.v),(8,(zi (k9:Int)))]/\aO cs' [su ae ai,bH bM bO,aX k1 159 (zg [(zi aB.Rel),aV.v]),ah aV aB.Terms,tL F59 v58 uH]) ?_ ?_
 · replace hF:=vQ
   refine bn (dC (aN (jW (v:=(zi 0)) (.int _ _)) ?_))
   refine au ?_
   refine bn (bU (m:=bO.length) (fun m24 f' cs'=>∃(g:Fr)(k26:Nat)(pu:List Fact)(c20:List bz)(v21:Sv)(vD:List Nat),m24=pu.length/\f'=aQ g [(0,ae.v),(2,bM.v),(4,(pz k1)),(7,v21.v),(8,(zi (k9:Int))),(9,(zi (k26:Int)))]/\List.drop k26 bO=pu/\aO cs' [su ae ai,bH bM bO,aX k1 159 (zg [(zi aB.Rel),aV.v]),ah aV aB.Terms,tL vD v21 c20]/\Eh aB iO pu k26 c20=some kS) ⟨_,0,_,_,v4,F5,rfl,aA,rfl,ay,hF⟩ ?_)
   rintro m24 _ _ ⟨TE,k26,pu,c20,v21,vD,rfl,rfl,hd29,hE,hF⟩
   refine Kb hE bO (fun atn=>?_)
   rcases pu with _|⟨x28,pu⟩
   · have aco:=dn hd29
     rw[Eh]at hF
     refine bJ ?_
     refine dL ?_
     refine bi ?_
     cases hF
     exact⟨_,v21,vD,_,rfl,aA,ay⟩
   obtain⟨aco,hx31,hd32⟩:=dA hd29
   rw[Eh]at hF
   refine bJ ?_
   refine dK ?_
   refine au ?_
   obtain⟨zb,Qq,RU⟩:=bind_some hF
   refine iF (fun f' cs'=>∃(rT:List bz)(v53:Sv)(Km:List Nat)(g:Fr),rT=zb/\f'=aQ g [(0,ae.v),(2,bM.v),(4,(pz k1)),(7,v53.v),(8,(zi (k9:Int))),(9,(zi (k26:Int)))]/\aO cs' [su ae ai,bH bM bO,aX k1 159 (zg [(zi aB.Rel),aV.v]),ah aV aB.Terms,tL Km v53 rT]) ?_ ?_
   · replace hF:=Qq
     refine bn (dV [0,1,2,3,4,5,6,7,8,13,9,10,11,12,14,15] [0,0,3,7,0,0,0,96,224,511,1023,2047,2047,0,12287,32767] [9,14] mixed (by decide+kernel) ?_)
     refine bX ?_
     refine Di kr (fun TG TH=>?_)
     refine zZ (A9 iO) ED (fun p39=>?_)
     refine dD ?_
     refine Di hx31 (fun k40 j41=>?_)
     refine jR (lZ x28) mq (fun p42=>?_)
     refine iy rfl .no rfl (fun ha=>rY (g:=true) iL.h rfl rfl) (fun Yy=>?_)
     refine bnd hF fun jS wu hF=>pq rfl rfl .no (.rd .q3 rfl (.rd .q4 rfl (.rd .q9 rfl (.rd (.t .h) rfl .nil)))) (.own .h (fun _ h=>h) .nil) (fun ha=>bV asK.h (.cons (EN ha (.tmp rfl rfl) rfl) (.cons (EN ha (.tmp rfl rfl) rfl) (.cons (EN ha (.tmp rfl rfl) rfl) .nil))) (amC wu)) (fun p46=>?_)
     refine du ?_
     refine bN rfl .no (fun ha=>kD (l:=[(zg [p46.1.v,p46.2.2.1.v]),(.bool jS.2)]) (v:=(zg [p46.1.v,p46.2.2.1.v])) (EN ha (.tmp rfl rfl) rfl) rfl) ?_
     refine bN rfl .no (fun ha=>kD (l:=[(zg [p46.1.v,p46.2.2.1.v]),(.bool jS.2)]) (v:=(.bool jS.2)) (EN ha (.tmp rfl rfl) rfl) rfl) ?_
     refine cO rfl rfl .no (.cons .q2 .nil) (.dep rfl .nil) (fun ha=>gD (e':=(zg [p46.1.v,p46.2.2.1.v])) (v:=(zg [p46.1.v,p46.2.2.1.v])) iL.h.sz (EN ha (.tmp rfl rfl) rfl) (EN ha (.tmp rfl rfl) rfl) rfl rfl rfl rfl rfl) (fun _=>?_)
     refine bX ?_
     refine bv ?_
     refine Ci hF (fun axR hF=>?_) (fun axR hF=>?_)
     · refine bv ?_
       refine dH rfl (bQ (g:=true) w_.h iL.h cu (vs:=[(zg [p46.1.v,p46.2.2.1.v])]) rfl rfl rfl (by intro v hv; simp at hv; rcases hv with rfl<;>rfl)) (fun TT=>?_)
       refine dR (.cons .h (.cons (.t .h) (.cons (.t .h) .nil))) (bS (Ro:=sj) (E:=183) (F:=((p46.2.1++p46.2.2.2)++[])) (xs:=([jS.1]:List bz)) (ed aaL bR cK) rfl rfl) ?_
       refine bnd hF fun z48 rz hF=>ek (.cons .q11 (.cons .h .nil)) (dX (Ro:=sj) w_.h Wn iL.h rfl rfl rfl (.tmp rfl rfl) (.tmp rfl rfl) rz fU) (fun p50=>?_)
       refine aU ?_
       cases hF
       exact⟨_,p50.1,p50.2,_,rfl,aA,ay⟩
     refine au ?_
     cases hF
     exact⟨_,v21,vD,_,rfl,aA,ay⟩
   rintro _ _ ⟨rT,v53,Km,g56,rfl,rfl,hE⟩
   replace hF:=RU
   try dsimp only at hF
   refine bu hE ?_
   refine aZ ?_
   rw[wk k26]
   exact⟨_,bY _,_,k26+1,pu,_,v53,Km,rfl,aA,hd32,ay,hF⟩
 rintro _ _ ⟨uH,v58,F59,g61,rfl,rfl,hE⟩
 replace hF:=wz
 try dsimp only at hF
 refine bu hE ?_
 refine aZ ?_
 rw[wk k9]
 exact⟨_,bY _,_,k9+1,gJ,_,v58,F59,rfl,aA,rF,ay,hF⟩
def GV(bO:List Fact):List Atom->Nat->(List bz)->Option ((List bz))
 |[],k9,c3=>some c3
 |iO::gJ,k9,c3=>(Bf c3 iO bO).bind fun oM=>
   GV bO gJ (k9+1) oM
def OE(aK:Query)(bO:List Fact):Option ((List bz)):=
 GV bO aK.Atoms 0 ([(⟨[],[]⟩:bz)]:List bz)
theorem amf{aK:Query}{ae aP:Sv}{bO:List Fact}{ax:Sv}{R:(List bz)}(hF:OE aK bO=some R):
   Fw.Spec Tryz.prog 203 [(zg [ae.v,aP.v]),ax.v] [ah ae aK.Head,eX aP aK.Atoms,bH ax bO] (fun p:Sv×List Nat=>p.1.v) (fun p=>[tL p.2 p.1 R]):=by
 refine Se 25 Tryz.func203 [.tmp 4] ?_
 intro H0 F0
 unfold OE at hF
 refine au ?_
 refine bP (fun k1=>?_)
 refine bv ?_
 refine aN (iD iL.h rfl (vs:=[]) .nil (cells:=[(.slice none 0 0),(.slice none 0 0)]) rfl) ?_
 refine dH rfl (bQ (g:=true) w_.h iL.h cu (vs:=[(.agg ([(.slice none 0 0),(.slice none 0 0)]:List Value).toArray)]) rfl rfl rfl (by intro v hv; simp at hv; rcases hv with rfl<;>rfl)) (fun k2=>?_)
 iterate 2 refine Mv .nil (gV (Ro:=(aC az)) (E:=3)) cK ?_
 refine dR (.cons .q2 (.cons (.t .h) (.cons .h .nil))) (bS (Ro:=sj) (E:=183) (F:=(([]++[])++[])) (xs:=([(⟨[],[]⟩:bz)]:List bz)) (ed (aaL (v0:=⟨none,0,0⟩) (v1:=⟨none,0,0⟩) (a:=(⟨[],[]⟩:bz))) bR cK) rfl rfl) ?_
 refine bE ?_
 refine bn (bU (m:=aK.Atoms.length) (fun m7 f' cs'=>∃(g:Fr)(k9:Nat)(gJ:List Atom)(c3:List bz)(v4:Sv)(F5:List Nat),m7=gJ.length/\f'=aQ g [(1,ax.v),(2,(pz k1)),(5,v4.v),(6,(zi (k9:Int)))]/\List.drop k9 aK.Atoms=gJ/\aO cs' [bH ax bO,aX k1 120 (zg [ae.v,aP.v]),ah ae aK.Head,eX aP aK.Atoms,tL F5 v4 c3]/\GV bO gJ k9 c3=some R) ⟨_,0,_,_,⟨(some ⟨k2,0,none⟩),1,1⟩,(k2::(([]++[])++[])),rfl,aA,rfl,ay,hF⟩ ?_)
 rintro m7 _ _ ⟨g8,k9,gJ,c3,v4,F5,rfl,rfl,mR,hE,hF⟩
 refine Kb hE aK.Atoms (fun Qp=>?_)
 rcases gJ with _|⟨iO,gJ⟩
 · have yL:=dn mR
   rw[GV]at hF
   refine dN ?_
   refine dL ?_
   refine gF ?_
   cases hF
   exact Er (v4,F5)
 obtain⟨yL,kr,rF⟩:=dA mR
 rw[GV]at hF
 refine dN ?_
 refine dK ?_
 refine bJ ?_
 refine Ai kr (fun k18 j19=>?_)
 refine ni (EC iO) Ij (fun mi=>?_)
 refine au ?_
 refine bnd hF fun oM ug hF=>uZ (.cons .q6 (.rd .h rfl (.rd .q2 rfl .nil))) (jV aG (fun _=>(.cons .nil)) (bV Wm.h cu (UX ug))) (fun o6=>?_)
 refine bJ ?_
 rw[wk k9]
 exact⟨_,bY _,_,k9+1,gJ,_,o6.1,o6.2,rfl,aA,rF,ay,hF⟩
def Iu(aR:List Int):List Int->Nat->Option (Bool)
 |[],k4=>some true
 |x6::aM,k4=>(ix aR (k4:Int)).bind fun nD=>
   if ((x6:Int)!=nD)then (
     some false)
   else (
     Iu aR aM (k4+1))
def Mj(aB:List Int)(aR:List Int):Option (Bool):=
 if (((aB.length:Int):Int)!=(aR.length:Int))then (
   some false)
 else (
   Iu aR aB 0)
theorem Zo{aB:List Int}{ae:Sv}{aR:List Int}{ax:Sv}{R:Bool}(hF:Mj aB aR=some R):
   Fw.Spec Tryz.prog 69 [ae.v,ax.v] [ah ae aB,ah ax aR] (fun _:Unit=>(.bool R)) (fun _=>[]):=by
 refine Se 26 Tryz.func69 [.tmp 4] ?_
 intro H0 F0
 unfold Mj at hF
 refine CB ?_
 refine Ci hF (fun yS hF=>?_) (fun yS hF=>?_)
 · exact ze hF
 refine aZ ?_
 refine bn (bU (m:=aB.length) (fun m2 f' cs'=>∃(g:Fr)(k4:Nat)(aM:List Int),m2=aM.length/\f'=aQ g [(0,ae.v),(1,ax.v),(5,(zi (k4:Int)))]/\List.drop k4 aB=aM/\aO cs' [ah ae aB,ah ax aR]/\Iu aR aM k4=some R) ⟨_,0,_,rfl,aA,rfl,ay,hF⟩ ?_)
 rintro m2 _ _ ⟨g3,k4,aM,rfl,rfl,hd7,hE,hF⟩
 refine Kb hE aB (fun kY=>?_)
 rcases aM with _|⟨x6,aM⟩
 · have gH:=dn hd7
   rw[Iu]at hF
   refine bJ ?_
   refine dL ?_
   exact ze hF
 obtain⟨gH,bZ,gG⟩:=dA hd7
 rw[Iu]at hF
 refine bJ ?_
 refine dK ?_
 refine aU ?_
 refine dV [0,1,2,3,4,5,6,7,8] [0,0,3,7,0,0,48,112,255] [] mixed (by decide+kernel) ?_
 refine bX ?_
 refine Di bZ (fun k13 oK=>?_)
 refine Dl dP ?_
 refine bX ?_
 refine zI hF fun nD acr mQ hF=>?_
 refine Di mQ (fun k19 Gi=>?_)
 refine Dl dP ?_
 refine bX ?_
 refine Ci hF (fun vZ hF=>?_) (fun vZ hF=>?_)
 · exact ze hF
 refine bE ?_
 rw[wk k4]
 exact⟨_,bY _,_,k4+1,aM,rfl,aA,gG,ay,hF⟩
def GK(aK:Query)(Cf:List Int):List bz->Nat->Option (bz×Bool)
 |[],xE=>some ((⟨[],[]⟩:bz),false)
 |x43::Cg,xE=>(LU aK x43).bind fun wN=>
   (Mj wN Cf).bind fun NG=>
   if NG then (
     (Mi x43).bind fun AL=>
     some (AL,true))
   else (
     GK aK Cf Cg (xE+1))
def Oq(aK:Query)(bO:List Fact)(Cf:List Int):Option (bz×Bool):=
 (OE aK bO).bind fun r3=>
 GK aK Cf r3 0
theorem alY{aK:Query}{ae aP:Sv}{bO:List Fact}{ax:Sv}{Cf:List Int}{bM:Sv}{R:bz×Bool}(hF:Oq aK bO Cf=some R):
   Fw.Spec Tryz.prog 195 [(zg [ae.v,aP.v]),ax.v,bM.v] [ah ae aK.Head,eX aP aK.Atoms,bH ax bO,ah bM Cf] (fun p:Sv×List Nat×Sv×List Nat=>(.tuple [(zg [p.1.v,p.2.2.1.v]),(.bool R.2)].toArray)) (fun p=>[bI p.2.1 p.1 R.1.Vars,bI p.2.2.2 p.2.2.1 R.1.Values]):=by
 refine Se 33 Tryz.func195 [.cell 6 183,.tmp 7] ?_
 intro H0 F0
 unfold Oq at hF
 refine au ?_
 refine bP (fun k1=>?_)
 refine d_ (fun k2=>?_)
 refine aZ ?_
 refine bnd hF fun r3 hx4 hF=>gB (amf hx4) (fun p5=>?_)
 refine bE ?_
 refine bn (iG .h aG ?_)
 refine bU (m:=r3.length) (fun m39 f' cs'=>∃(g:Fr)(xE:Nat)(Cg:List bz),m39=Cg.length/\f'=aQ g [(2,bM.v),(3,(pz k1)),(6,(pz k2)),(8,p5.1.v),(9,(zi (xE:Int)))]/\List.drop xE r3=Cg/\aO cs' [ah bM Cf,aX k1 120 (zg [ae.v,aP.v]),ah ae aK.Head,eX aP aK.Atoms,aW k2 183 (.agg ([(.slice none 0 0),(.slice none 0 0)]:List Value).toArray),su p5.1 r3]/\GK aK Cf Cg xE=some R) ⟨_,0,_,rfl,aA,rfl,ay,hF⟩ ?_
 rintro m39 _ _ ⟨Yo,xE,Cg,rfl,rfl,Nj,hE,hF⟩
 refine Kb hE r3 (fun aAU=>?_)
 rcases Cg with _|⟨x43,Cg⟩
 · have axS:=dn Nj
   rw[GK]at hF
   refine bJ ?_
   refine dL ?_
   refine aZ ?_
   refine aN (iD iL.h rfl (vs:=[]) .nil (cells:=[(.slice none 0 0),(.slice none 0 0)]) rfl) ?_
   refine As (.agg ([(.slice none 0 0),(.slice none 0 0)]:List Value).toArray) ?_
   refine bv ?_
   cases hF
   exact gU (⟨none,0,0⟩,[],⟨none,0,0⟩,[]) (.cellA rfl rfl .h rfl si.h iL.h.sz rfl rfl (.tmp rfl rfl .nil)) rfl (.conv .nil (gV (Ro:=(aC az)) (E:=3)) (.cons .nil) (.conv .nil (gV (Ro:=(aC az)) (E:=3)) (.cons .nil) (.sel (.cons (.t .h) (.cons .h .nil)))))
 obtain⟨axS,FJ,axT⟩:=dA Nj
 rw[GK]at hF
 refine bJ ?_
 refine dK ?_
 refine aU ?_
 refine dV [0,1,2,3,4,6,5,7] [0,0,0,6,14,31,0,127] [5,7] mixed (by decide+kernel) ?_
 refine dD ?_
 refine Di FJ (fun Yr Yt=>?_)
 refine zZ (A9 x43) ED (fun p52=>?_)
 refine du ?_
 refine bnd hF fun wN ui hF=>qE (afH ui) (fun p55=>?_)
 refine bnd hF fun NG R7 hF=>cO rfl rfl .no (.cons .h (.rd .q3 rfl .nil)) .nil (fun ha=>jV aG (fun _=>.nil) (bV awn.h (.cons (EN ha (.tmp rfl rfl) rfl) (.cons (EN ha (.tmp rfl rfl) rfl) .nil)) (Zo R7))) (fun _=>?_)
 refine du ?_
 refine Ci hF (fun RS hF=>?_) (fun RS hF=>?_)
 · refine bv ?_
   refine Ai FJ (fun k59 j60=>?_)
   refine yj (A9 x43) ED (fun p61=>?_)
   refine bnd hF fun AL CZ hF=>Av (agb CZ) (fun p64=>?_)
   refine As (zg [p64.1.v,p64.2.2.1.v]) ?_
   refine bv ?_
   cases hF
   exact gU (p64.1,p64.2.1,p64.2.2.1,p64.2.2.2) (.cellA rfl rfl .h rfl si.h iL.h.sz rfl rfl (.tmp rfl rfl .nil)) rfl (.sel (.cons (.t .h) (.cons (.t .h) .nil)))
 refine bE ?_
 rw[wk xE]
 exact⟨_,bY _,_,xE+1,Cg,rfl,aA,axT,ay,hF⟩
def Ot(fuel:Nat)(ag:List Int)(sO:Query)(aK:Query):Option (Bool):=
 ((zw ag sO).bind fun r5=>
   bif (!r5)then (some true)
   else ((zw ag aK).bind fun r9=>
     bif (!r9)then (some true)
     else (some (((sO.Head.length:Int):Int)!=(aK.Head.length:Int))))).bind fun o3=>
 match o3 with
 |c13=>if c13 then (
     some false)
   else (
     (Pf fuel sO aK).bind fun jY=>
     if (!jY.2.2)then (
       some false)
     else (
       (LU sO jY.2.1).bind fun qI=>
       (Oq aK jY.1 qI).bind fun lh=>
       some lh.2))
theorem alZ{fuel:Nat}{ag:List Int}{ae:Sv}{sO:Query}{ax aV:Sv}{aK:Query}{bM dJ:Sv}{R:Bool}(hF:Ot fuel ag sO aK=some R):
   Fw.Spec Tryz.prog 185 [ae.v,(zg [ax.v,aV.v]),(zg [bM.v,dJ.v])] [ah ae ag,ah ax sO.Head,eX aV sO.Atoms,ah bM aK.Head,eX dJ aK.Atoms] (fun _:Unit=>(.bool R)) (fun _=>[]):=by
 refine Se 50 Tryz.func185 [.tmp 6] ?_
 intro H0 F0
 unfold Ot at hF
 refine au ?_
 refine bP (fun k1=>?_)
 refine bP (fun k2=>?_)
 refine bv ?_
 obtain⟨o3,wy,hO4⟩:=bind_some hF
 refine au ?_
 refine fe (fun f' cs'=>∃(c13:Bool)(g:Fr),c13=o3/\f'=aQ g [(4,(pz k1)),(5,(pz k2)),(30,(.bool c13))]/\aO cs' [aX k1 120 (zg [ax.v,aV.v]),ah ax sO.Head,eX aV sO.Atoms,aX k2 120 (zg [bM.v,dJ.v]),ah bM aK.Head,eX dJ aK.Atoms]) ?_ ?_
 · replace hF:=wy
   refine aU ?_
   refine bnd hF fun r5 hx6 hF=>bC (Le hx6) (fun _=>?_)
   refine aU ?_
   rcases bD (!r5)with kw|kw
   · rw[kw]
     try rw[kw]at hF; dsimp only[aJ,aI]at hF
     exact bK hF
   rw[kw]
   try rw[kw]at hF; dsimp only[aJ,aI]at hF
   refine aZ ?_
   refine bnd hF fun r9 jI hF=>bC (Le jI) (fun _=>?_)
   refine bi ?_
   rcases bD (!r9)with lI|lI
   · rw[lI]
     try rw[lI]at hF; dsimp only[aJ,aI]at hF
     exact bK hF
   rw[lI]
   try rw[lI]at hF; dsimp only[aJ,aI]at hF
   exact bK hF
 rintro _ _ ⟨c13,g27,rfl,rfl,hE⟩
 replace hF:=hO4
 try dsimp only at hF
 refine bu hE ?_
 refine Ci hF (fun Df hF=>?_) (fun Df hF=>?_)
 · exact ze hF
 refine bi ?_
 refine bnd hF fun jY kG hF=>Cx3 (am5 kG) (fun p16=>?_)
 refine au ?_
 refine zx ?_
 refine zx ?_
 refine zx ?_
 refine d_ (fun k17=>?_)
 refine au ?_
 refine As (zg [p16.2.2.1.v,p16.2.2.2.2.1.v]) ?_
 refine bJ ?_
 refine Ci hF (fun ac5 hF=>?_) (fun ac5 hF=>?_)
 · exact ze hF
 refine au ?_
 refine dV [0,1,2,3,9,4,5,6,7,8,10,11] [0,0,0,0,12,31,63,127,127,0,767,2047] [4,5,10] mixed (by decide+kernel) ?_
 refine dD ?_
 refine dO rfl .no .h (fun ha hp=>fP si.h iL.h.sz rfl (EN ha (.tmp rfl rfl) rfl) hp.2 rfl) ?_
 refine iy rfl .no rfl (fun ha=>rY (g:=true) iL.h rfl rfl) (fun k18=>?_)
 refine bnd hF fun qI wo hF=>Mw rfl rfl .no (.cons .q4 (.cons .q3 (.rd .q4 rfl (.rd .q5 rfl .nil)))) (.own .h (fun _ h=>h) (.dep rfl .nil)) (fun ha=>jH (pre:=_) (.cons aG (.cons aG .nil)) (fun _=>(.cons .nil)) (jm (.rd .q2 rfl (.rd .q3 rfl (.rd .h rfl (.rd (.t .h) rfl .nil)))) (bV asI.h (.cons (EN ha (.tmp rfl rfl) rfl) (.cons (EN ha (.tmp rfl rfl) rfl) .nil)) (afH wo)))) (fun mW=>?_)
 refine bnd hF fun lh uf hF=>VS rfl rfl .no (.cons .q2 (.cons .q4 (.rd .q8 rfl (.rd .q9 rfl .nil)))) (.own .q2 (fun _ h=>h) (.dep rfl .nil)) (fun ha=>apz (pre:=_) (.cons aG (.cons aG .nil)) (fun _=>(.cons (.cons .nil))) (jm (.rd .q2 rfl (.rd .q3 rfl (.rd (.t .h) rfl (.rd .h rfl .nil)))) (bV asJ.h (.cons (EN ha (.tmp rfl rfl) rfl) (.cons (EN ha (.tmp rfl rfl) rfl) (.cons (EN ha (.tmp rfl rfl) rfl) .nil))) (alY uf)))) (fun nO=>?_)
 refine du ?_
 refine bN rfl .no (fun ha=>kD (l:=[(zg [nO.1.v,nO.2.2.1.v]),(.bool lh.2)]) (v:=(zg [nO.1.v,nO.2.2.1.v])) (EN ha (.tmp rfl rfl) rfl) rfl) ?_
 refine bN rfl .no (fun ha=>kD (l:=[(zg [nO.1.v,nO.2.2.1.v]),(.bool lh.2)]) (v:=(.bool lh.2)) (EN ha (.tmp rfl rfl) rfl) rfl) ?_
 refine cO rfl rfl .no (.cons .q6 .nil) (.dep rfl (.dep rfl .nil)) (fun ha=>gD (e':=(zg [nO.1.v,nO.2.2.1.v])) (v:=(zg [nO.1.v,nO.2.2.1.v])) iL.h.sz (EN ha (.tmp rfl rfl) rfl) (EN ha (.tmp rfl rfl) rfl) rfl rfl rfl rfl rfl) (fun _=>?_)
 refine bX ?_
 exact ze hF
def DV(ag:List Int)(aK:Query)(c6:List Query)(c9:Int)(z23:List Int)(fuel:Nat):List Atom->Nat->(List Atom)->Option ((List Query))
 |[],wP,c75=>((zw ag (⟨z23,c75⟩:Query)).bind fun Gs=>
     bif Gs then ((Ot fuel ag (⟨z23,c75⟩:Query) aK).bind fun T9=>
       some T9)
     else (some false)).bind fun Kn=>
   match Kn with
   |lL=>if lL then (
       (app c6 ([(⟨z23,c75⟩:Query)]:List Query)).bind fun akn=>
       some akn)
     else (
       some c6)
 |x83::Ch,wP,c75=>((Jt .i64 c9 (wP:Int)).bind fun ac6=>
     if (((yh .i64 ac6 1):Int)==1)then (
       (Mg x83.Rel x83.Terms).bind fun XR=>
       (app c75 ([XR]:List Atom)).bind fun z119=>
       some z119)
     else (
       some c75)).bind fun ac7=>
   match ac7 with
   |Sg=>DV ag aK c6 c9 z23 fuel Ch (wP+1) Sg
def DW(ag:List Int)(aK:Query)(fuel:Nat):Nat->(List Query)->Int->Option ((List Query))
 |0,_,_=>none
 |m10+1,c6,c9=>(WY .i64 1 (aK.Atoms.length:Int)).bind fun ic=>
   if (decide ((c9:Int)<ic))then (
     ((app ([]:List Int) aK.Head).bind fun z23=>
       DV ag aK c6 c9 z23 fuel aK.Atoms 0 ([]:List Atom)).bind fun Gq=>
     match Gq with
     |Si=>DW ag aK fuel m10 Si (IntKind.i64.wrap (c9+1)))
   else (
     some c6)
def NZ(fuel:Nat)(ag:List Int)(aK:Query):Option ((List Query)):=
 (zw ag aK).bind fun r3=>
 if (!r3)then (
   some ([]:List Query))
 else (
   DW ag aK fuel fuel ([]:List Query) 1)
theorem alv{fuel:Nat}{ag:List Int}{ae:Sv}{aK:Query}{ax aV:Sv}{R:(List Query)}(hF:NZ fuel ag aK=some R):
   Fw.Spec Tryz.prog 164 [ae.v,(zg [ax.v,aV.v])] [ah ae ag,ah ax aK.Head,eX aV aK.Atoms] (fun p:Sv×List Nat=>p.1.v) (fun p=>[MI p.2 p.1 R]):=by
 refine Se 72 Tryz.func164 [.tmp 4] ?_
 intro H0 F0
 unfold NZ at hF
 refine au ?_
 refine bP (fun k1=>?_)
 refine bv ?_
 refine dH rfl (bQ (g:=true) aaK.h Ji.h .nil (vs:=[]) rfl rfl rfl (by simp)) (fun k2=>?_)
 refine dR (.cons .h .nil) (bS (Ro:=zF) (E:=120) (F:=[]) (xs:=([]:List Query)) bR rfl rfl) ?_
 refine bE ?_
 refine bnd hF fun r3 hx4 hF=>bC (Le hx4) (fun _=>?_)
 refine aU ?_
 refine Ci hF (fun auv hF=>?_) (fun auv hF=>?_)
 · refine aZ ?_
   cases hF
   exact Er (⟨(some ⟨k2,0,none⟩),0,1⟩,(k2::[]))
 refine aZ ?_
 refine bn (bU (m:=fuel) (fun m10 f' cs'=>∃(g:Fr)(c6:List Query)(c9:Int)(v7:Sv)(F8:List Nat),f'=aQ g [(0,ae.v),(3,(pz k1)),(5,v7.v),(6,(zi c9))]/\aO cs' [ah ae ag,aX k1 120 (zg [ax.v,aV.v]),ah ax aK.Head,eX aV aK.Atoms,MI F8 v7 c6]/\DW ag aK fuel m10 c6 c9=some R) ⟨_,_,_,⟨(some ⟨k2,0,none⟩),0,1⟩,(k2::[]),aA,ay,hF⟩ ?_)
 rintro m10 _ _ ⟨g11,c6,c9,v7,F8,rfl,hE,hF⟩
 refine bu hE ?_
 rcases m10 with _|m10
 · rw[DW]at hF
   exact absurd hF (by simp)
 rw[DW]at hF
 refine bE ?_
 refine bnd hF fun ic kR hF=>aN (arN (i:=1) (j:=(aK.Atoms.length:Int)) (.int _ _) (.tmp rfl rfl) kR) ?_
 refine aU ?_
 refine Ci hF (fun auw hF=>?_) (fun auw hF=>?_)
 · refine au ?_
   obtain⟨Gq,aaZ,acH⟩:=bind_some hF
   refine iF (fun f' cs'=>∃(Si:List Query)(XT:Sv)(ac8:List Nat)(g:Fr),Si=Gq/\f'=aQ g [(0,ae.v),(3,(pz k1)),(5,XT.v),(6,(zi c9))]/\aO cs' [ah ae ag,aX k1 120 (zg [ax.v,aV.v]),ah ax aK.Head,eX aV aK.Atoms,MI ac8 XT Si]) ?_ ?_
   · replace hF:=aaZ
     refine bn (dC (dH rfl (bQ (g:=true) di.h dx.h .nil (vs:=[]) rfl rfl rfl (by simp)) (fun k22=>?_)))
     refine dR (.cons .h .nil) (bS (Ro:=(aC az)) (E:=3) (F:=[]) (xs:=([]:List Int)) bR rfl rfl) ?_
     refine aU ?_
     refine bnd hF fun z23 hx24 hF=>ek (.cons .h (.rd .q2 rfl .nil)) (dX (Ro:=(aC az)) di.h jc dx.h rfl rfl rfl (.tmp rfl rfl) (.tmp rfl rfl) hx24 mr) (fun p25=>?_)
     refine aN (iD Ji.h rfl (vs:=[p25.1.v]) cu (cells:=[p25.1.v,(.slice none 0 0)]) rfl) ?_
     refine d_ (fun k26=>?_)
     refine As (zg [p25.1.v,(.slice none 0 0)]) ?_
     refine aZ ?_
     refine bn (bU (m:=aK.Atoms.length) (fun m79 f' cs'=>∃(g:Fr)(wP:Nat)(Ch c75:List Atom)(v76:Sv)(DI:List Nat),m79=Ch.length/\f'=aQ g [(0,ae.v),(3,(pz k1)),(5,v7.v),(6,(zi c9)),(7,(pz k26)),(8,(zi (wP:Int)))]/\List.drop wP aK.Atoms=Ch/\aO cs' [ah ae ag,aX k1 120 (zg [ax.v,aV.v]),ah ax aK.Head,eX aV aK.Atoms,MI F8 v7 c6,aW k26 120 (zg [p25.1.v,v76.v]),bI p25.2 p25.1 z23,qo DI v76 c75]/\DV ag aK c6 c9 z23 fuel Ch wP c75=some Gq) ⟨_,0,_,_,⟨none,0,0⟩,[],rfl,aA,rfl,(.conv .nil (gV (Ro:=nH) (E:=159)) (.cons .nil) ay),hF⟩ ?_)
     rintro m79 _ _ ⟨g80,wP,Ch,c75,v76,DI,rfl,rfl,ako,hE,hF⟩
     refine Kb hE aK.Atoms (fun aAV=>?_)
     rcases Ch with _|⟨x83,Ch⟩
     · have axU:=dn ako
       rw[DV]at hF
       refine dN ?_
       refine dL ?_
       refine bi ?_
       obtain⟨Kn,aa5,ac9⟩:=bind_some hF
       refine au ?_
       refine fe (fun f' cs'=>∃(lL:Bool)(g:Fr),lL=Kn/\f'=aQ g [(0,ae.v),(3,(pz k1)),(5,v7.v),(6,(zi c9)),(7,(pz k26)),(66,(.bool lL))]/\aO cs' [ah ae ag,aX k1 120 (zg [ax.v,aV.v]),ah ax aK.Head,eX aV aK.Atoms,MI F8 v7 c6,aW k26 120 (zg [p25.1.v,v76.v]),bI p25.2 p25.1 z23,qo DI v76 c75]) ?_ ?_
       · replace hF:=aa5
         refine aU ?_
         refine bnd hF fun Gs hx93 hF=>uZ (.cons .q7 (.cons .q6 (.rd .h rfl .nil))) (jH (pre:=_) (.cons aG (.cons aG .nil)) (fun _=>.nil) (jm (.rd .q2 rfl (.rd .h rfl (.rd (.t .h) rfl .nil))) (bV asF.h cu (Le hx93)))) (fun _=>?_)
         refine au ?_
         rcases bD Gs with Sj|Sj
         · rw[Sj]
           try rw[Sj]at hF; dsimp only[aJ,aI]at hF
           refine bJ ?_
           refine bnd hF fun T9 ac_ hF=>uZ (.cons .h (.cons .h (.rd .h rfl (.rd .q2 rfl (.rd .q3 rfl .nil))))) (jH (pre:=_) (.cons aG (.cons aG .nil)) (fun _=>.nil) (jm (.rd .q2 rfl (.rd .h rfl (.rd (.t .h) rfl (.rd .q3 rfl (.rd .q4 rfl .nil))))) (bV asG.h cu (alZ ac_)))) (fun _=>?_)
           exact bK hF
         rw[Sj]
         try rw[Sj]at hF; dsimp only[aJ,aI]at hF
         exact bK hF
       rintro _ _ ⟨lL,axo,rfl,rfl,hE⟩
       replace hF:=ac9
       try dsimp only at hF
       refine bu hE ?_
       refine Ci hF (fun aux hF=>?_) (fun aux hF=>?_)
       · refine bv ?_
         refine dH rfl (bQ (g:=true) aaK.h Ji.h cu (vs:=[(zg [p25.1.v,v76.v])]) rfl rfl rfl (by intro v hv; simp at hv; rcases hv with rfl<;>rfl)) (fun aDJ=>?_)
         refine dR (.cons .h (.cons .q6 (.cons .q6 .nil))) (bS (Ro:=zF) (E:=120) (F:=((p25.2++DI)++[])) (xs:=([(⟨z23,c75⟩:Query)]:List Query)) (ed (asM (a:=(⟨z23,c75⟩:Query))) bR cK) rfl rfl) ?_
         refine bnd hF fun akn hx102 hF=>ek (.cons .q5 (.cons .h .nil)) (dX (Ro:=zF) aaK.h asN Ji.h rfl rfl rfl (.tmp rfl rfl) (.tmp rfl rfl) hx102 fU) (fun akp=>?_)
         refine aU ?_
         cases hF
         exact⟨_,akp.1,akp.2,_,rfl,aA,ay⟩
       refine au ?_
       cases hF
       exact⟨_,v7,F8,_,rfl,aA,ay⟩
     obtain⟨axU,Xr,axV⟩:=dA ako
     rw[DV]at hF
     refine dN ?_
     refine dK ?_
     refine au ?_
     obtain⟨ac7,aqz,auy⟩:=bind_some hF
     refine iF (fun f' cs'=>∃(Sg:List Atom)(v124:Sv)(ac':List Nat)(g:Fr),Sg=ac7/\f'=aQ g [(0,ae.v),(3,(pz k1)),(5,v7.v),(6,(zi c9)),(7,(pz k26)),(8,(zi (wP:Int)))]/\aO cs' [ah ae ag,aX k1 120 (zg [ax.v,aV.v]),ah ax aK.Head,eX aV aK.Atoms,MI F8 v7 c6,aW k26 120 (zg [p25.1.v,v124.v]),bI p25.2 p25.1 z23,qo ac' v124 Sg]) ?_ ?_
     · replace hF:=aqz
       refine bn (dC (Cm (zi c9) rfl rfl ?_))
       refine au ?_
       refine bnd hF fun ac6 auz hF=>aN (aaG (i:=c9) (j:=(wP:Int)) (.tmp rfl rfl) (.tmp rfl rfl) auz) ?_
       refine aN (V7 (i:=ac6) (j:=1) (.tmp rfl rfl) (.int _ _)) ?_
       refine aU ?_
       refine Ci hF (fun auA hF=>?_) (fun auA hF=>?_)
       · refine jD [0,1,2,3,4,5,6,7,8,9,10,11,12,13,14,15,16,17,18] [0,1,0,4,0,28,60,124,0,256,0,1792,3840,7936,16380,32764,65535,131071,262143] [14,16,18] mixed (by decide+kernel) ?_
         refine du ?_
         refine dO rfl .no .q5 (fun ha hp=>fw (v:=v76.v) aaH.h (EN ha (.tmp rfl rfl) rfl) hp.2 rfl rfl) ?_
         refine dD ?_
         refine Di Xr (fun axP axQ=>?_)
         refine du ?_
         refine Dl aac ?_
         refine dD ?_
         refine Di Xr (fun aDK aDL=>?_)
         refine du ?_
         refine oz (R':=(aD 3 az)) iC.h rfl .no (.tmp rfl rfl) rfl .h zC (fun aDM=>?_)
         refine bnd hF fun XR Wq hF=>cO rfl rfl .no (.rd .h rfl .nil) (.own .q8 (fun _ h=>h) .nil) (fun ha=>bV aiq.h (.cons (EN ha (.tmp rfl rfl) rfl) (.cons (EN ha (.tmp rfl rfl) rfl) .nil)) (af_ Wq)) (fun akq=>?_)
         refine iy rfl .no rfl (fun ha=>bQ (g:=true) (len:=1) (parts:=[(0,.tmp 54)]) Fp.h qO.h (.cons (EN ha (.tmp rfl rfl) rfl) .nil) (vs:=[(zg [(zi XR.Rel),akq.1.v])]) rfl rfl rfl (by intro v hv; simp at hv; rcases hv with rfl<;>rfl)) (fun aDN=>?_)
         refine jk (.cons .h (.cons .h .nil)) (bS (Ro:=nH) (E:=159) (F:=(akq.2++[])) (xs:=([XR]:List Atom)) (ed Wh bR cK) rfl rfl) ?_
         refine bnd hF fun z119 auB hF=>cO rfl rfl .no (.cons .q11 (.cons .h .nil)) (.dep rfl (.dep rfl .nil)) (fun ha=>dX (Ro:=nH) Fp.h Wi qO.h rfl rfl rfl (EN ha (.tmp rfl rfl) rfl) (EN ha (.tmp rfl rfl) rfl) auB fU) (fun ada=>?_)
         refine du ?_
         refine cO rfl rfl .no (.cons .q9 .nil) (.dep rfl (.dep rfl .nil)) (fun ha=>gD (e':=(zg [p25.1.v,ada.1.v])) aaI.h.sz (EN ha (.tmp rfl rfl) rfl) (EN ha (.tmp rfl rfl) rfl) rfl rfl rfl rfl rfl) (fun _=>?_)
         refine du ?_
         cases hF
         exact⟨_,ada.1,ada.2,_,rfl,aA,ay⟩
       refine au ?_
       cases hF
       exact⟨_,v76,DI,_,rfl,aA,ay⟩
     rintro _ _ ⟨Sg,v124,ac',axG,rfl,rfl,hE⟩
     replace hF:=auy
     try dsimp only at hF
     refine bu hE ?_
     refine aZ ?_
     rw[wk wP]
     exact⟨_,bY _,_,wP+1,Ch,_,v124,ac',rfl,aA,axV,ay,hF⟩
   rintro _ _ ⟨Si,XT,ac8,aDO,rfl,rfl,hE⟩
   replace hF:=acH
   try dsimp only at hF
   refine bu hE ?_
   refine aZ ?_
   exact⟨m10,bY _,_,_,_,XT,ac8,aA,ay,hF⟩
 refine gF ?_
 cases hF
 exact Er (v7,F8)
def Ht:List Method->Nat->(List Method)->Option ((List Method))
 |[],k8,c2=>some c2
 |eY::fO,k8,c2=>(if ((eY.Limit:Int)!=0)then (
       (app c2 ([(⟨(-1),eY.Inputs,eY.Limit,eY.Cost,eY.Quota⟩:Method)]:List Method)).bind fun z24=>
       some z24)
     else (
       (app c2 ([eY]:List Method)).bind fun z28=>
       some z28)).bind fun wQ=>
   match wQ with
   |c32=>Ht fO (k8+1) c32
def Ph(ai:List Method):Option ((List Method)):=
 Ht ai 0 ([]:List Method)
theorem am6{ai:List Method}{ae:Sv}{R:(List Method)}(hF:Ph ai=some R):
   Fw.Spec Tryz.prog 166 [ae.v] [bW ae ai] (fun p:Sv×List Nat=>p.1.v) (fun p=>[ab8 p.2 p.1 R]):=by
 refine Se 26 Tryz.func166 [.tmp 2] ?_
 intro H0 F0
 unfold Ph at hF
 refine bi ?_
 refine dH rfl (bQ (g:=true) CU.h qy.h .nil (vs:=[]) rfl rfl rfl (by simp)) (fun k1=>?_)
 refine dR (.cons .h .nil) (bS (Ro:=(aC qW)) (E:=57) (F:=[]) (xs:=([]:List Method)) bR rfl rfl) ?_
 refine bE ?_
 refine bn (bU (m:=ai.length) (fun m6 f' cs'=>∃(g:Fr)(k8:Nat)(fO c2:List Method)(v3:Sv)(F4:List Nat),m6=fO.length/\f'=aQ g [(0,ae.v),(3,v3.v),(4,(zi (k8:Int)))]/\List.drop k8 ai=fO/\aO cs' [bW ae ai,ab8 F4 v3 c2]/\Ht fO k8 c2=some R) ⟨_,0,_,_,⟨(some ⟨k1,0,none⟩),0,1⟩,(k1::[]),rfl,aA,rfl,ay,hF⟩ ?_)
 rintro m6 _ _ ⟨g7,k8,fO,c2,v3,F4,rfl,rfl,j5,hE,hF⟩
 refine Kb hE ai (fun MJ=>?_)
 rcases fO with _|⟨eY,fO⟩
 · have v_:=dn j5
   rw[Ht]at hF
   refine bJ ?_
   refine dL ?_
   refine gF ?_
   cases hF
   exact Er (v3,F4)
 obtain⟨v_,iJ,sG⟩:=dA j5
 rw[Ht]at hF
 refine bJ ?_
 refine dK ?_
 refine au ?_
 obtain⟨wQ,Qv,Sk⟩:=bind_some hF
 refine iF (fun f' cs'=>∃(c32:List Method)(v33:Sv)(Kl:List Nat)(g:Fr),c32=wQ/\f'=aQ g [(0,ae.v),(3,v33.v),(4,(zi (k8:Int)))]/\aO cs' [bW ae ai,ab8 Kl v33 c32]) ?_ ?_
 · replace hF:=Qv
   refine bn (dC (Cm ae.v rfl rfl ?_))
   refine au ?_
   refine Ai iJ (fun k19 Gi=>?_)
   refine ni (uO eY) vH (fun mW=>?_)
   refine d_ (fun k22=>?_)
   refine As (zg [(zi eY.Rel),mW.v,(zi eY.Limit),(zi eY.Cost),(zi eY.Quota)]) ?_
   refine bJ ?_
   refine Ci hF (fun Ry hF=>?_) (fun Ry hF=>?_)
   · refine aU ?_
     refine As (zg [(zi (-1)),mW.v,(zi eY.Limit),(zi eY.Cost),(zi eY.Quota)]) ?_
     refine bi ?_
     refine dH rfl (bQ (g:=true) CU.h qy.h cu (vs:=[(zg [(zi (-1)),mW.v,(zi eY.Limit),(zi eY.Cost),(zi eY.Quota)])]) rfl rfl rfl (by intro v hv; simp at hv; rcases hv with rfl<;>rfl)) (fun k23=>?_)
     refine dR (.cons .h (.rd (.t .h) rfl .nil)) (bS (Ro:=(aC qW)) (E:=57) (F:=([]++[])) (xs:=([(⟨(-1),eY.Inputs,eY.Limit,eY.Cost,eY.Quota⟩:Method)]:List Method)) (ed (ajx (a:=(⟨(-1),eY.Inputs,eY.Limit,eY.Cost,eY.Quota⟩:Method))) bR cK) rfl rfl) ?_
     refine bnd hF fun z24 hx25 hF=>ek (.cons .q5 (.cons .h .nil)) (dX (Ro:=(aC qW)) CU.h Xb qy.h rfl rfl rfl (.tmp rfl rfl) (.tmp rfl rfl) hx25 fU) (fun p26=>?_)
     refine aU ?_
     cases hF
     exact⟨_,p26.1,p26.2,_,rfl,aA,ay⟩
   refine bi ?_
   refine dH rfl (bQ (g:=true) CU.h qy.h cu (vs:=[(zg [(zi eY.Rel),mW.v,(zi eY.Limit),(zi eY.Cost),(zi eY.Quota)])]) rfl rfl rfl (by intro v hv; simp at hv; rcases hv with rfl<;>rfl)) (fun k27=>?_)
   refine dR (.cons .h (.rd (.t .h) rfl .nil)) (bS (Ro:=(aC qW)) (E:=57) (F:=([]++[])) (xs:=([eY]:List Method)) (ed ajx bR cK) rfl rfl) ?_
   refine bnd hF fun z28 hx29 hF=>ek (.cons .q5 (.cons .h .nil)) (dX (Ro:=(aC qW)) CU.h Xb qy.h rfl rfl rfl (.tmp rfl rfl) (.tmp rfl rfl) hx29 fU) (fun p30=>?_)
   refine aU ?_
   cases hF
   exact⟨_,p30.1,p30.2,_,rfl,aA,ay⟩
 rintro _ _ ⟨c32,v33,Kl,g36,rfl,rfl,hE⟩
 replace hF:=Sk
 try dsimp only at hF
 refine bu hE ?_
 refine aZ ?_
 rw[wk k8]
 exact⟨_,bY _,_,k8+1,fO,_,v33,Kl,rfl,aA,sG,ay,hF⟩
def G7(ai:List Method):List Step->Nat->Int->Option (Int)
 |[],k5,c1=>some c1
 |x7::eQ,k5,c1=>(((iT x7.Method 0 (IntKind.i64.wrap ((ai.length:Int)-1))).bind fun jP=>
       bif jP then ((ix ai x7.Method).bind fun nR=>
         (iT nR.Cost 0 99).bind fun r32=>
         some r32)
       else (some false)).bind fun o16=>
     match o16 with
     |zk=>if zk then (
         (ix ai x7.Method).bind fun x38=>
         some (IntKind.i64.wrap (c1+x38.Cost)))
       else (
         some c1)).bind fun zl=>
   match zl with
   |c46=>G7 ai eQ (k5+1) c46
def Lt(ai:List Method)(dY:List Step):Option (Int):=
 G7 ai dY 0 0
theorem Y0{ai:List Method}{ae:Sv}{dY:List Step}{ax:Sv}{R:Int}(hF:Lt ai dY=some R):
   Fw.Spec Tryz.prog 167 [ae.v,ax.v] [bW ae ai,iH ax dY] (fun _:Unit=>(zi R)) (fun _=>[]):=by
 refine Se 46 Tryz.func167 [.tmp 4] ?_
 intro H0 F0
 unfold Lt at hF
 refine kF ?_
 refine bn (bU (m:=dY.length) (fun m3 f' cs'=>∃(g:Fr)(k5:Nat)(eQ:List Step)(c1:Int),m3=eQ.length/\f'=aQ g [(0,ae.v),(1,ax.v),(5,(zi c1)),(6,(zi (k5:Int)))]/\List.drop k5 dY=eQ/\aO cs' [bW ae ai,iH ax dY]/\G7 ai eQ k5 c1=some R) ⟨_,0,_,_,rfl,aA,rfl,ay,hF⟩ ?_)
 rintro m3 _ _ ⟨g4,k5,eQ,c1,rfl,rfl,nQ,hE,hF⟩
 refine Kb hE dY (fun Jk=>?_)
 rcases eQ with _|⟨x7,eQ⟩
 · have uG:=dn nQ
   rw[G7]at hF
   refine bJ ?_
   refine dL ?_
   exact ze hF
 obtain⟨uG,jI,j5⟩:=dA nQ
 rw[G7]at hF
 refine bJ ?_
 refine dK ?_
 refine au ?_
 obtain⟨zl,Qw,Sl⟩:=bind_some hF
 refine iF (fun f' cs'=>∃(c46:Int)(g:Fr),c46=zl/\f'=aQ g [(0,ae.v),(1,ax.v),(5,(zi c46)),(6,(zi (k5:Int)))]/\aO cs' [bW ae ai,iH ax dY]) ?_ ?_
 · replace hF:=Qw
   refine bn ?_
   obtain⟨o16,aa6,adb⟩:=bind_some hF
   refine au ?_
   refine fe (fun f' cs'=>∃(zk:Bool)(g:Fr),zk=o16/\f'=aQ g [(0,ae.v),(1,ax.v),(5,(zi c1)),(6,(zi (k5:Int))),(33,(.bool zk))]/\aO cs' [bW ae ai,iH ax dY]) ?_ ?_
   · replace hF:=aa6
     refine aU ?_
     refine Ai jI (fun k18 j19=>?_)
     refine au ?_
     refine Al Bz ?_
     refine bv ?_
     refine bnd hF fun jP lG hF=>bC (jT lG) (fun _=>?_)
     refine au ?_
     rcases bD jP with ku|ku
     · rw[ku]
       try rw[ku]at hF; dsimp only[aJ,aI]at hF
       refine bJ ?_
       refine Ai jI (fun k24 j25=>?_)
       refine bv ?_
       refine Al Bz ?_
       refine au ?_
       refine zI hF fun nR Xu hx29 hF=>?_
       refine Ai hx29 (fun Gn j31=>?_)
       refine bv ?_
       refine Al MC ?_
       refine au ?_
       refine bnd hF fun r32 wm hF=>bC (jT wm) (fun _=>?_)
       exact bK hF
     rw[ku]
     try rw[ku]at hF; dsimp only[aJ,aI]at hF
     exact bK hF
   rintro _ _ ⟨zk,g45,rfl,rfl,hE⟩
   replace hF:=adb
   try dsimp only at hF
   refine bu hE ?_
   refine Ci hF (fun Jz hF=>?_) (fun Jz hF=>?_)
   · refine aZ ?_
     refine Ai jI (fun nE T_=>?_)
     refine au ?_
     refine Al Bz ?_
     refine zI hF fun x38 aj0 JI hF=>?_
     refine Ai JI (fun Yj j43=>?_)
     refine au ?_
     refine Al MC ?_
     exact bK hF
   exact bK hF
 rintro _ _ ⟨c46,g48,rfl,rfl,hE⟩
 replace hF:=Sl
 try dsimp only at hF
 refine bu hE ?_
 refine aZ ?_
 rw[wk k5]
 exact⟨_,bY _,_,k5+1,eQ,_,rfl,aA,j5,ay,hF⟩
def H9(aB:Atom)(iw:List Int):List Int->Nat->Option (Bool)
 |[],k6=>some true
 |x8::jQ,k6=>(iT x8 0 (IntKind.i64.wrap ((aB.Terms.length:Int)-1))).bind fun o9=>
   if (!o9)then (
     some false)
   else (
     (ix aB.Terms x8).bind fun j3=>
     ((BD j3).bind fun mX=>
       bif mX then ((BF iw j3).bind fun qG=>
         some (!qG))
       else (some false)).bind fun o28=>
     match o28 with
     |c37=>if c37 then (
         some false)
       else (
         H9 aB iw jQ (k6+1)))
def LW(aa:Method)(aB:Atom)(iw:List Int):Option (Bool):=
 if ((aa.Rel:Int)!=aB.Rel)then (
   some false)
 else (
   H9 aB iw aa.Inputs 0)
theorem afI{aa:Method}{aP:Sv}{aB:Atom}{aV:Sv}{iw:List Int}{bM:Sv}{R:Bool}(hF:LW aa aB iw=some R):
   Fw.Spec Tryz.prog 186 [(zg [(zi aa.Rel),aP.v,(zi aa.Limit),(zi aa.Cost),(zi aa.Quota)]),(zg [(zi aB.Rel),aV.v]),bM.v] [ah aP aa.Inputs,ah aV aB.Terms,ah bM iw] (fun _:Unit=>(.bool R)) (fun _=>[]):=by
 refine Se 49 Tryz.func186 [.tmp 6] ?_
 intro H0 F0
 unfold LW at hF
 refine au ?_
 refine bP (fun k1=>?_)
 refine bP (fun k2=>?_)
 refine kF ?_
 refine Ci hF (fun acu hF=>?_) (fun acu hF=>?_)
 · exact ze hF
 refine aZ ?_
 refine bn (bU (m:=aa.Inputs.length) (fun m4 f' cs'=>∃(g:Fr)(k6:Nat)(jQ:List Int),m4=jQ.length/\f'=aQ g [(2,bM.v),(3,(pz k1)),(4,(pz k2)),(7,(zi (k6:Int)))]/\List.drop k6 aa.Inputs=jQ/\aO cs' [ah bM iw,aX k1 57 (zg [(zi aa.Rel),aP.v,(zi aa.Limit),(zi aa.Cost),(zi aa.Quota)]),ah aP aa.Inputs,aX k2 159 (zg [(zi aB.Rel),aV.v]),ah aV aB.Terms]/\H9 aB iw jQ k6=some R) ⟨_,0,_,rfl,aA,rfl,ay,hF⟩ ?_)
 rintro m4 _ _ ⟨g5,k6,jQ,rfl,rfl,y_,hE,hF⟩
 refine Kb hE aa.Inputs (fun aaT=>?_)
 rcases jQ with _|⟨x8,jQ⟩
 · have hk10:=dn y_
   rw[H9]at hF
   refine dN ?_
   refine dL ?_
   exact ze hF
 obtain⟨hk10,lg,mR⟩:=dA y_
 rw[H9]at hF
 refine dN ?_
 refine dK ?_
 refine bv ?_
 refine dV [0,1,2,3,4,5,6,7,8,9,10] [0,1,0,7,15,0,32,96,224,511,1023] [9] mixed (by decide+kernel) ?_
 refine dD ?_
 refine Di lg (fun k15 Yq=>?_)
 refine Dl dP ?_
 refine nZ ?_
 refine bnd hF fun o9 mQ hF=>fu (jT mQ) (fun _=>?_)
 refine bX ?_
 refine Ci hF (fun acv hF=>?_) (fun acv hF=>?_)
 · exact ze hF
 refine au ?_
 refine dV [0,1,2,3,4,5,6,7,8,9] [0,1,0,4,0,28,60,127,255,511] [] mixed (by decide+kernel) ?_
 refine t_ ?_
 refine Di lg (fun k20 DF=>?_)
 refine Dl dP ?_
 refine zI hF fun j3 acR hx25 hF=>?_
 refine Di hx25 (fun k26 TU=>?_)
 refine Dl dP ?_
 refine bX ?_
 obtain⟨o28,auC,axW⟩:=bind_some hF
 refine au ?_
 refine fe (fun f' cs'=>∃(c37:Bool)(g:Fr),c37=o28/\f'=aQ g [(2,bM.v),(3,(pz k1)),(4,(pz k2)),(7,(zi (k6:Int))),(48,(.bool c37))]/\aO cs' [ah bM iw,aX k1 57 (zg [(zi aa.Rel),aP.v,(zi aa.Limit),(zi aa.Cost),(zi aa.Quota)]),ah aP aa.Inputs,aX k2 159 (zg [(zi aB.Rel),aV.v]),ah aV aB.Terms]) ?_ ?_
 · replace hF:=auC
   refine au ?_
   refine bnd hF fun mX hx31 hF=>bC (LC hx31) (fun _=>?_)
   refine au ?_
   rcases bD mX with rJ|rJ
   · rw[rJ]
     try rw[rJ]at hF; dsimp only[aJ,aI]at hF
     refine aZ ?_
     refine bnd hF fun qG yC hF=>bC (Pb yC) (fun _=>?_)
     exact bK hF
   rw[rJ]
   try rw[rJ]at hF; dsimp only[aJ,aI]at hF
   exact bK hF
 rintro _ _ ⟨c37,Yo,rfl,rfl,hE⟩
 replace hF:=axW
 try dsimp only at hF
 refine bu hE ?_
 refine Ci hF (fun De hF=>?_) (fun De hF=>?_)
 · exact ze hF
 refine bE ?_
 rw[wk k6]
 exact⟨_,bY _,_,k6+1,jQ,rfl,aA,mR,ay,hF⟩
def Iw:List Int->Nat->(List Int)->Option ((List Int))
 |[],k12,c6=>some c6
 |vF::pG,k12,c6=>((BD vF).bind fun gX=>
     if gX then (
       (Ja c6 vF).bind fun mX=>
       some mX)
     else (
       some c6)).bind fun y9=>
   match y9 with
   |c34=>Iw pG (k12+1) c34
def Ml(iw:List Int)(aB:Atom):Option ((List Int)):=
 (app ([]:List Int) iw).bind fun z3=>
 Iw aB.Terms 0 z3
theorem agc{iw:List Int}{ae:Sv}{aB:Atom}{aV:Sv}{R:(List Int)}(hF:Ml iw aB=some R):
   Fw.Spec Tryz.prog 187 [ae.v,(zg [(zi aB.Rel),aV.v])] [ah ae iw,ah aV aB.Terms] (fun p:Sv×List Nat=>p.1.v) (fun p=>[bI p.2 p.1 R]):=by
 refine Se 31 Tryz.func187 [.tmp 4] ?_
 intro H0 F0
 unfold Ml at hF
 refine au ?_
 refine bP (fun k1=>?_)
 refine bv ?_
 refine dH rfl (bQ (g:=true) di.h dx.h .nil (vs:=[]) rfl rfl rfl (by simp)) (fun k2=>?_)
 refine dR (.cons .h .nil) (bS (Ro:=(aC az)) (E:=3) (F:=[]) (xs:=([]:List Int)) bR rfl rfl) ?_
 refine au ?_
 refine bnd hF fun z3 hx4 hF=>ek (.cons .h (.rd (.t .h) rfl .nil)) (dX (Ro:=(aC az)) di.h jc dx.h rfl rfl rfl (.tmp rfl rfl) (.tmp rfl rfl) hx4 mr) (fun p5=>?_)
 refine bE ?_
 refine bn (bU (m:=aB.Terms.length) (fun m10 f' cs'=>∃(g:Fr)(k12:Nat)(pG c6:List Int)(v7:Sv)(F8:List Nat),m10=pG.length/\f'=aQ g [(3,(pz k1)),(5,v7.v),(6,(zi (k12:Int)))]/\List.drop k12 aB.Terms=pG/\aO cs' [aX k1 159 (zg [(zi aB.Rel),aV.v]),ah aV aB.Terms,bI F8 v7 c6]/\Iw pG k12 c6=some R) ⟨_,0,_,_,p5.1,p5.2,rfl,aA,rfl,ay,hF⟩ ?_)
 rintro m10 _ _ ⟨g11,k12,pG,c6,v7,F8,rfl,rfl,rF,hE,hF⟩
 refine Kb hE aB.Terms (fun auD=>?_)
 rcases pG with _|⟨vF,pG⟩
 · have adc:=dn rF
   rw[Iw]at hF
   refine dN ?_
   refine dL ?_
   refine gF ?_
   cases hF
   exact Er (v7,F8)
 obtain⟨adc,jO,ade⟩:=dA rF
 rw[Iw]at hF
 refine dN ?_
 refine dK ?_
 refine au ?_
 obtain⟨y9,Qo,Rw⟩:=bind_some hF
 refine iF (fun f' cs'=>∃(c34:List Int)(v35:Sv)(F36:List Nat)(g:Fr),c34=y9/\f'=aQ g [(3,(pz k1)),(5,v35.v),(6,(zi (k12:Int)))]/\aO cs' [aX k1 159 (zg [(zi aB.Rel),aV.v]),ah aV aB.Terms,bI F36 v35 c34]) ?_ ?_
 · replace hF:=Qo
   refine bn (dC (aN (iK (off:=1) apF.h (.tmp rfl rfl)) ?_))
   refine aU ?_
   refine Ai jO (fun k23 Yn=>?_)
   refine Al dP ?_
   refine bnd hF fun gX nL hF=>bC (LC nL) (fun _=>?_)
   refine au ?_
   refine Ci hF (fun axX hF=>?_) (fun axX hF=>?_)
   · refine aZ ?_
     refine Ai jO (fun k28 Yp=>?_)
     refine Al dP ?_
     refine bnd hF fun mX hx31 hF=>gB (ZB hx31) (fun p32=>?_)
     refine aU ?_
     cases hF
     exact⟨_,p32.1,p32.2,_,rfl,aA,ay⟩
   refine au ?_
   cases hF
   exact⟨_,v7,F8,_,rfl,aA,ay⟩
 rintro _ _ ⟨c34,v35,F36,g38,rfl,rfl,hE⟩
 replace hF:=Rw
 try dsimp only at hF
 refine bu hE ?_
 refine aZ ?_
 rw[wk k12]
 exact⟨_,bY _,_,k12+1,pG,_,v35,F36,rfl,aA,ade,ay,hF⟩
def Hu(ai:List Method)(aK:Query)(dY:List Step)(iw:List Int)(ff:(List Method)->Query->(List Step)->(List Int)->(List Step)->Option ((List Step)))(k23:Nat)(x25:Atom)(c34:Bool):Nat->(List Step)->Int->Option ((List Step))
 |0,_,_=>none
 |Ko+1,kN,c49=>if ((decide ((c49:Int)<(ai.length:Int)))&&(!c34))then (
     ((ix ai c49).bind fun Ke=>
       (LW Ke x25 iw).bind fun r72=>
       if r72 then (
         (app ([]:List Step) dY).bind fun z76=>
         (app z76 ([(⟨(k23:Int),c49⟩:Step)]:List Step)).bind fun z80=>
         (Ml iw x25).bind fun Gs=>
         (ff ai aK z80 Gs kN).bind fun Kq=>
         some Kq)
       else (
         some kN)).bind fun o60=>
     match o60 with
     |lL=>Hu ai aK dY iw ff k23 x25 c34 Ko lL (IntKind.i64.wrap (c49+1)))
   else (
     some kN)
def Ej(ai:List Method)(aK:Query)(dY:List Step)(iw:List Int)(ff:(List Method)->Query->(List Step)->(List Int)->(List Step)->Option ((List Step)))(c18:List Step)(k23:Nat)(x25:Atom):List Step->Nat->Bool->Option ((List Step))
 |[],nP,c34=>Hu ai aK dY iw ff k23 x25 c34 (((ai.length:Int)-0).toNat+2) c18 0
 |x40::pF,nP,c34=>Ej ai aK dY iw ff c18 k23 x25 pF (nP+1) (c34||((x40.Atom:Int)==(k23:Int)))
def Hw(ai:List Method)(aK:Query)(dY:List Step)(iw:List Int)(ff:(List Method)->Query->(List Step)->(List Int)->(List Step)->Option ((List Step))):List Atom->Nat->(List Step)->Option ((List Step))
 |[],k23,c18=>some c18
 |x25::pE,k23,c18=>(Ej ai aK dY iw ff c18 k23 x25 dY 0 false).bind fun o32=>
   match o32 with
   |Sm=>Hw ai aK dY iw ff pE (k23+1) Sm
def Zg(ff:(List Method)->Query->(List Step)->(List Int)->(List Step)->Option ((List Step)))(fuel:Nat)(ai:List Method)(aK:Query)(dY:List Step)(iw:List Int)(qm:List Step):Option ((List Step)):=
 if (((dY.length:Int):Int)==(aK.Atoms.length:Int))then (
   (bif (((qm.length:Int):Int)==0)then (some true)
     else ((Lt ai dY).bind fun r5=>
       (Lt ai qm).bind fun r8=>
       some (decide ((r5:Int)<r8)))).bind fun o2=>
   match o2 with
   |c11=>if c11 then (
       (app ([]:List Step) dY).bind fun Gh=>
       some Gh)
     else (
       some qm))
 else (
   Hw ai aK dY iw ff aK.Atoms 0 qm)
def H_(fuel:Nat):Nat->(List Method)->Query->(List Step)->(List Int)->(List Step)->Option ((List Step))
 |0,_,_,_,_,_=>none
 |n+1,ai,aK,dY,iw,qm=>Zg (H_ fuel n) fuel ai aK dY iw qm
def ZC(fuel:Nat)(ai:List Method)(aK:Query)(dY:List Step)(iw:List Int)(qm:List Step):Option ((List Step)):=
 H_ fuel fuel ai aK dY iw qm
theorem aeO(fuel:Nat):∀(n:Nat)(ai:List Method)(ae:Sv)(aK:Query)(ax:Sv)(aV:Sv)(dY:List Step)(bM:Sv)(iw:List Int)(ig:Sv)(qm:List Step)(kL:Sv)(R:(List Step))(hF:H_ fuel n ai aK dY iw qm=some R),
   Fw.Spec Tryz.prog 165 [ae.v,(zg [ax.v,aV.v]),bM.v,ig.v,kL.v] [bW ae ai,ah ax aK.Head,eX aV aK.Atoms,iH bM dY,ah ig iw,iH kL qm] (fun p:Sv=>p.v) (fun p=>[iH p R])
 |0,_,_,_,_,_,_,_,_,_,_,_,_,hF=>by cases hF
 |n+1,ai,ae,aK,ax,aV,dY,bM,iw,ig,qm,kL,R,hF=>by
   have ih:=aeO fuel n
   unfold H_ at hF
   generalize H_ fuel n=ff at hF ih
   refine Se 103 Tryz.func165 [.tmp 10] ?_
   intro H0 F0
   unfold Zg at hF
   refine au ?_
   refine bP (fun k1=>?_)
   refine CB ?_
   refine Ci hF (fun auE hF=>?_) (fun auE hF=>?_)
   · refine au ?_
     obtain⟨o2,gz,hO3⟩:=bind_some hF
     refine au ?_
     refine fe (fun f' cs'=>∃(c11:Bool)(g:Fr),c11=o2/\f'=aQ g [(2,bM.v),(4,kL.v),(33,(.bool c11))]/\aO cs' [iH bM dY,iH kL qm]) ?_ ?_
     · replace hF:=gz
       refine bi ?_
       rcases bD (((qm.length:Int):Int)==0)with hg4|hg4
       · rw[hg4]
         try rw[hg4]at hF; dsimp only[aJ,aI]at hF
         exact bK hF
       rw[hg4]
       try rw[hg4]at hF; dsimp only[aJ,aI]at hF
       refine aZ ?_
       refine bnd hF fun r5 hx6 hF=>bC (Y0 hx6) (fun _=>?_)
       refine aZ ?_
       refine bnd hF fun r8 bZ hF=>bC (Y0 bZ) (fun _=>?_)
       exact bK hF
     rintro _ _ ⟨c11,g17,rfl,rfl,hE⟩
     replace hF:=hO3
     try dsimp only at hF
     refine bu hE ?_
     refine Ci hF (fun C8 hF=>?_) (fun C8 hF=>?_)
     · refine au ?_
       refine dH rfl (bQ (g:=true) Fq.h Cz.h .nil (vs:=[]) rfl rfl rfl (by simp)) (fun k12=>?_)
       refine dR (.cons .h .nil) (bS (Ro:=(aC qP)) (E:=186) (F:=[]) (xs:=([]:List Step)) bR rfl rfl) ?_
       refine au ?_
       refine bnd hF fun Gh kr hF=>ek (.cons .h (.rd .h rfl .nil)) (dX (Ro:=(aC qP)) Fq.h aaM Cz.h rfl rfl rfl (.tmp rfl rfl) (.tmp rfl rfl) kr mr) (fun nA=>?_)
       refine bv ?_
       cases hF
       exact gU nA.1 (.tmp rfl rfl .nil) rfl (.frz .h aG (.sel (.rd .h rfl .nil)))
     refine bE ?_
     cases hF
     exact Er kL
   refine aZ ?_
   refine bn (bU (m:=aK.Atoms.length) (fun m21 f' cs'=>∃(g:Fr)(k23:Nat)(pE:List Atom)(c18:List Step)(v19:Sv),m21=pE.length/\f'=aQ g [(0,ae.v),(2,bM.v),(3,ig.v),(4,v19.v),(6,(pz k1)),(11,(zi (k23:Int)))]/\List.drop k23 aK.Atoms=pE/\aO cs' [bW ae ai,iH bM dY,ah ig iw,iH v19 c18,aX k1 120 (zg [ax.v,aV.v]),ah ax aK.Head,eX aV aK.Atoms]/\Hw ai aK dY iw ff pE k23 c18=some R) ⟨_,0,_,_,kL,rfl,aA,rfl,ay,hF⟩ ?_)
   rintro m21 _ _ ⟨g22,k23,pE,c18,v19,rfl,rfl,yB,hE,hF⟩
   refine Kb hE aK.Atoms (fun ato=>?_)
   rcases pE with _|⟨x25,pE⟩
   · have acx:=dn yB
     rw[Hw]at hF
     refine dN ?_
     refine dL ?_
     refine gF ?_
     cases hF
     exact Er v19
   obtain⟨acx,hx28,hd29⟩:=dA yB
   rw[Hw]at hF
   refine dN ?_
   refine dK ?_
   refine au ?_
   obtain⟨o32,aaW,acD⟩:=bind_some hF
   refine iF (fun f' cs'=>∃(Sm:List Step)(v109:Sv)(g:Fr),Sm=o32/\f'=aQ g [(0,ae.v),(2,bM.v),(3,ig.v),(4,v109.v),(6,(pz k1)),(11,(zi (k23:Int)))]/\aO cs' [bW ae ai,iH bM dY,ah ig iw,iH v109 Sm,aX k1 120 (zg [ax.v,aV.v]),ah ax aK.Head,eX aV aK.Atoms]) ?_ ?_
   · replace hF:=aaW
     refine bn (dC (aN (jW (v:=(.bool false)) (.bool _)) ?_))
     refine aZ ?_
     refine bn (bU (m:=dY.length) (fun TS f' cs'=>∃(g:Fr)(nP:Nat)(pF:List Step)(c34:Bool),TS=pF.length/\f'=aQ g [(0,ae.v),(2,bM.v),(3,ig.v),(4,v19.v),(6,(pz k1)),(11,(zi (k23:Int))),(12,(.bool c34)),(13,(zi (nP:Int)))]/\List.drop nP dY=pF/\aO cs' [bW ae ai,iH bM dY,ah ig iw,iH v19 c18,aX k1 120 (zg [ax.v,aV.v]),ah ax aK.Head,eX aV aK.Atoms]/\Ej ai aK dY iw ff c18 k23 x25 pF nP c34=some o32) ⟨_,0,_,_,rfl,aA,rfl,ay,hF⟩ ?_)
     rintro TS _ _ ⟨g37,nP,pF,c34,rfl,rfl,Dp,hE,hF⟩
     refine Kb hE dY (fun atU=>?_)
     rcases pF with _|⟨x40,pF⟩
     · have acQ:=dn Dp
       rw[Ej]at hF
       refine bJ ?_
       refine dL ?_
       refine bJ ?_
       refine bn (bU (m:=(((ai.length:Int)-0).toNat+2)) (fun Ko f' cs'=>∃(g:Fr)(kN:List Step)(c49:Int)(v48:Sv),f'=aQ g [(0,ae.v),(2,bM.v),(3,ig.v),(4,v48.v),(6,(pz k1)),(11,(zi (k23:Int))),(12,(.bool c34)),(14,(zi c49))]/\aO cs' [bW ae ai,iH bM dY,ah ig iw,iH v48 kN,aX k1 120 (zg [ax.v,aV.v]),ah ax aK.Head,eX aV aK.Atoms]/\Hu ai aK dY iw ff k23 x25 c34 Ko kN c49=some o32) ⟨_,_,_,v19,aA,ay,hF⟩ ?_)
       rintro Ko _ _ ⟨g51,kN,c49,v48,rfl,hE,hF⟩
       refine bu hE ?_
       rcases Ko with _|Ko
       · rw[Hu]at hF
         exact absurd hF (by simp)
       rw[Hu]at hF
       refine aU ?_
       refine fe (fun f' cs'=>∃(g:Fr),f'=aQ g [(0,ae.v),(2,bM.v),(3,ig.v),(4,v48.v),(6,(pz k1)),(11,(zi (k23:Int))),(12,(.bool c34)),(14,(zi c49)),(68,(.bool ((decide ((c49:Int)<(ai.length:Int)))&&(!c34))))]/\aO cs' [bW ae ai,iH bM dY,ah ig iw,iH v48 kN,aX k1 120 (zg [ax.v,aV.v]),ah ax aK.Head,eX aV aK.Atoms]) ?_ ?_
       · refine aZ ?_
         rcases bD (decide ((c49:Int)<(ai.length:Int)))with Sn|Sn
         · rw[Sn]
           try rw[Sn]at hF; dsimp only[aJ,aI]at hF
           refine bE ?_
           exact⟨_,aA,ay⟩
         rw[Sn]
         try rw[Sn]at hF; dsimp only[aJ,aI]at hF
         refine bi ?_
         exact⟨_,aA,ay⟩
       rintro _ _ ⟨g59,rfl,hE⟩
       refine bu hE ?_
       refine Ci hF (fun aa7 hF=>?_) (fun aa7 hF=>?_)
       · refine au ?_
         obtain⟨o60,auF,axY⟩:=bind_some hF
         refine iF (fun f' cs'=>∃(lL:List Step)(yH:Sv)(g:Fr),lL=o60/\f'=aQ g [(0,ae.v),(2,bM.v),(3,ig.v),(4,yH.v),(6,(pz k1)),(11,(zi (k23:Int))),(12,(.bool c34)),(14,(zi c49))]/\aO cs' [bW ae ai,iH bM dY,ah ig iw,iH yH lL,aX k1 120 (zg [ax.v,aV.v]),ah ax aK.Head,eX aV aK.Atoms]) ?_ ?_
         · replace hF:=auF
           refine bn (dV [0,1,2,3,4,5,6,7,8,9,10] [0,0,3,7,0,16,0,112,240,0,1023] [10] mixed (by decide+kernel) ?_)
           refine bX ?_
           refine zI hF fun Ke aDP RB hF=>?_
           refine Di RB (fun k66 j67=>?_)
           refine jR (uO Ke) vH (fun p68=>?_)
           refine dD ?_
           refine Di hx28 (fun k69 j70=>?_)
           refine jR (EC x25) Ij (fun p71=>?_)
           refine du ?_
           refine bnd hF fun r72 ace hF=>fu (afI ace) (fun _=>?_)
           refine du ?_
           refine Ci hF (fun axZ hF=>?_) (fun axZ hF=>?_)
           · refine au ?_
             refine dH rfl (bQ (g:=true) Fq.h Cz.h .nil (vs:=[]) rfl rfl rfl (by simp)) (fun k75=>?_)
             refine dR (.cons .h .nil) (bS (Ro:=(aC qP)) (E:=186) (F:=[]) (xs:=([]:List Step)) bR rfl rfl) ?_
             refine au ?_
             refine bnd hF fun z76 ax0 hF=>ek (.cons .h (.rd .q5 rfl .nil)) (dX (Ro:=(aC qP)) Fq.h aaM Cz.h rfl rfl rfl (.tmp rfl rfl) (.tmp rfl rfl) ax0 mr) (fun p78=>?_)
             refine aU ?_
             refine aN (iD Cz.h rfl (vs:=[(zi (k23:Int)),(zi c49)]) cu (cells:=[(zi (k23:Int)),(zi c49)]) rfl) ?_
             refine dH rfl (bQ (g:=true) Fq.h Cz.h cu (vs:=[(zg [(zi (k23:Int)),(zi c49)])]) rfl rfl rfl (by intro v hv; simp at hv; rcases hv with rfl<;>rfl)) (fun k79=>?_)
             refine dR (.cons .h .nil) (bS (Ro:=(aC qP)) (E:=186) (F:=([]++[])) (xs:=([(⟨(k23:Int),c49⟩:Step)]:List Step)) (ed (jF (fun _=>rfl)) bR cK) rfl rfl) ?_
             refine bnd hF fun z80 ax1 hF=>ek (.cons (.t .h) (.cons .h .nil)) (dX (Ro:=(aC qP)) Fq.h aaM Cz.h rfl rfl rfl (.tmp rfl rfl) (.tmp rfl rfl) ax1 fU) (fun p82=>?_)
             refine aU ?_
             refine iG .h aG ?_
             refine jD [0,1,2,3,4,5,6,7,8,10,9,11,12] [0,0,0,0,0,16,0,112,240,504,0,2047,4095] [9,11] mixed (by decide+kernel) ?_
             refine ab5 ?_
             refine Di hx28 (fun k89 j90=>?_)
             refine jR (EC x25) Ij (fun p91=>?_)
             refine du ?_
             refine bnd hF fun Gs hx93 hF=>cO rfl rfl .no (.rd .q9 rfl (.rd .h rfl .nil)) .nil (fun ha=>E9 (post':=fun Kr:Sv×List Nat=>[ah Kr.1 Gs]) (fun Kr=>(.frz .h aG ay)) (bV ait.h (.cons (EN ha (.tmp rfl rfl) rfl) (.cons (EN ha (.tmp rfl rfl) rfl) .nil)) (@agc iw ig x25 p91 _ hx93))) (fun Kr=>?_)
             refine bnd hF fun Kq hx96 hF=>cO rfl rfl .no (.rd .q8 rfl (.rd .q13 rfl (.rd .q14 rfl (.rd .q3 rfl (.rd .h rfl (.rd .q11 rfl .nil)))))) .nil (fun ha=>bV asP.h (.cons (EN ha (.tmp rfl rfl) rfl) (.cons (EN ha (.tmp rfl rfl) rfl) (.cons (EN ha (.tmp rfl rfl) rfl) (.cons (EN ha (.tmp rfl rfl) rfl) (.cons (EN ha (.tmp rfl rfl) rfl) .nil))))) (ih ai ae aK ax aV z80 p82.1 Gs Kr.1 kN v48 _ hx96)) (fun Yz=>?_)
             refine bX ?_
             cases hF
             exact⟨_,Yz,_,rfl,aA,ay⟩
           refine au ?_
           cases hF
           exact⟨_,v48,_,rfl,aA,ay⟩
         rintro _ _ ⟨lL,yH,adf,rfl,rfl,hE⟩
         replace hF:=axY
         try dsimp only at hF
         refine bu hE ?_
         refine aZ ?_
         exact⟨Ko,bY _,_,_,_,yH,aA,ay,hF⟩
       refine bi ?_
       cases hF
       exact⟨_,v48,_,rfl,aA,ay⟩
     obtain⟨acQ,qA,Nj⟩:=dA Dp
     rw[Ej]at hF
     refine bJ ?_
     refine dK ?_
     refine bv ?_
     refine fe (fun f' cs'=>∃(g:Fr),f'=aQ g [(0,ae.v),(2,bM.v),(3,ig.v),(4,v19.v),(6,(pz k1)),(11,(zi (k23:Int))),(12,(.bool (c34||((x40.Atom:Int)==(k23:Int))))),(13,(zi (nP:Int)))]/\aO cs' [bW ae ai,iH bM dY,ah ig iw,iH v19 c18,aX k1 120 (zg [ax.v,aV.v]),ah ax aK.Head,eX aV aK.Atoms]) ?_ ?_
     · refine aU ?_
       rcases bD c34 with yc|yc
       · rw[yc]
         try rw[yc]at hF; dsimp only[aJ,aI]at hF
         refine kF ?_
         exact⟨_,aA,ay⟩
       rw[yc]
       try rw[yc]at hF; dsimp only[aJ,aI]at hF
       refine aZ ?_
       refine Ai qA (fun axN axO=>?_)
       refine bv ?_
       refine Al I_ ?_
       refine bJ ?_
       exact⟨_,aA,ay⟩
     rintro _ _ ⟨aDQ,rfl,hE⟩
     refine bu hE ?_
     refine aZ ?_
     rw[wk nP]
     exact⟨_,bY _,_,nP+1,pF,_,rfl,aA,Nj,ay,hF⟩
   rintro _ _ ⟨Sm,v109,aDR,rfl,rfl,hE⟩
   replace hF:=acD
   try dsimp only at hF
   refine bu hE ?_
   refine aZ ?_
   rw[wk k23]
   exact⟨_,bY _,_,k23+1,pE,_,v109,rfl,aA,hd29,ay,hF⟩
theorem am7{fuel:Nat}{ai:List Method}{ae:Sv}{aK:Query}{ax aV:Sv}{dY:List Step}{bM:Sv}{iw:List Int}{ig:Sv}{qm:List Step}{kL:Sv}{R:(List Step)}(hF:ZC fuel ai aK dY iw qm=some R):
   Fw.Spec Tryz.prog 165 [ae.v,(zg [ax.v,aV.v]),bM.v,ig.v,kL.v] [bW ae ai,ah ax aK.Head,eX aV aK.Atoms,iH bM dY,ah ig iw,iH kL qm] (fun p:Sv=>p.v) (fun p=>[iH p R]):=aeO fuel fuel ai ae aK ax aV dY bM iw ig qm kL R hF
def Gy(ai:List Method)(fuel:Nat):List Query->Nat->(List Int)->(List Atom)->(List Step)->Int->Bool->Option (Ri×Bool)
 |[],yT,c175,um,FW,c183,yU=>some ((⟨(⟨c175,um⟩:Query),FW,c183⟩:Ri),yU)
 |Sq::BK,yT,c175,um,FW,c183,yU=>((Ph ai).bind fun Aa=>
     (ZC fuel Aa Sq ([]:List Step) ([]:List Int) ([]:List Step)).bind fun JV=>
     (Lt ai JV).bind fun FX=>
     if ((decide ((0:Int)<(JV.length:Int)))&&((!yU)||(decide ((FX:Int)<c183))))then (
       (Mh Sq).bind fun adg=>
       some (adg.Head,adg.Atoms,JV,FX,true))
     else (
       some (c175,um,FW,c183,yU))).bind fun JL=>
   match JL with
   |(Sr,c227,yO,c232,c233)=>Gy ai fuel BK (yT+1) Sr c227 yO c232 c233
def Oc(fuel:Nat)(ag:List Int)(ai:List Method)(aK:Query):Option (Ri×Bool):=
 (Mf ag ai aK).bind fun r4=>
 if (!r4)then (
   some ((⟨(⟨[],[]⟩:Query),[],0⟩:Ri),false))
 else (
   (NZ fuel ag aK).bind fun r7=>
   Gy ai fuel r7 0 ([]:List Int) ([]:List Atom) ([]:List Step) 0 false)
theorem alI{fuel:Nat}{ag:List Int}{ae:Sv}{ai:List Method}{ax:Sv}{aK:Query}{bM dJ:Sv}{R:Ri×Bool}(hF:Oc fuel ag ai aK=some R):
   Fw.Spec Tryz.prog 138 [ae.v,ax.v,(zg [bM.v,dJ.v])] [ah ae ag,bW ax ai,ah bM aK.Head,eX dJ aK.Atoms] (fun p:Sv×List Nat×Sv×List Nat×Sv=>(.tuple [(zg [p.1.v,p.2.2.1.v,p.2.2.2.2.v,(zi R.1.Cost)]),(.bool R.2)].toArray)) (fun p=>[bI p.2.1 p.1 R.1.Query.Head,qo p.2.2.2.1 p.2.2.1 R.1.Query.Atoms,iH p.2.2.2.2 R.1.Steps]):=by
 refine Se 66 Tryz.func138 [.cell 6 149,.tmp 7] ?_
 intro H0 F0
 unfold Oc at hF
 refine au ?_
 refine bP (fun k1=>?_)
 refine d_ (fun k2=>?_)
 refine bv ?_
 refine aN (iD Wl.h rfl (vs:=[]) .nil (cells:=[(.slice none 0 0),(.slice none 0 0),(.slice none 0 0),(zi 0)]) rfl) ?_
 refine d_ (fun k3=>?_)
 refine As (zg [(.slice none 0 0),(.slice none 0 0),(.slice none 0 0),(zi 0)]) ?_
 refine gF ?_
 refine bnd hF fun r4 hx5 hF=>bC (af9 hx5) (fun _=>?_)
 refine aU ?_
 refine Ci hF (fun auG hF=>?_) (fun auG hF=>?_)
 · refine aU ?_
   refine As (zg [(.slice none 0 0),(.slice none 0 0),(.slice none 0 0),(zi 0)]) ?_
   refine bv ?_
   cases hF
   exact gU (⟨none,0,0⟩,[],⟨none,0,0⟩,[],⟨none,0,0⟩) (.cellA rfl rfl .h rfl aip.h Wl.h.sz rfl rfl (.tmp rfl rfl .nil)) rfl (.conv .nil (gV (Ro:=(aC az)) (E:=3)) (.cons .nil) (.conv .nil (gV (Ro:=nH) (E:=159)) (.cons .nil) (.conv .nil (PU (R:=qP) (E:=186)) (.cons .nil) (.sel (.cons .q2 (.cons (.t .h) (.rd .h rfl .nil)))))))
 refine bi ?_
 refine bnd hF fun r7 uD hF=>gB (alv uD) (fun p9=>?_)
 refine bE ?_
 refine bn (iG .h aG ?_)
 refine bU (m:=r7.length) (fun akr f' cs'=>∃(g:Fr)(yT:Nat)(BK:List Query)(c175:List Int)(um:List Atom)(FW:List Step)(c183:Int)(yU:Bool)(FY:Sv)(Su:List Nat)(FZ:Sv)(Sw:List Nat)(v182:Sv),akr=BK.length/\f'=aQ g [(1,ax.v),(6,(pz k2)),(8,(pz k3)),(9,(.bool yU)),(10,p9.1.v),(11,(zi (yT:Int)))]/\List.drop yT r7=BK/\aO cs' [bW ax ai,aW k2 149 (zg [(.slice none 0 0),(.slice none 0 0),(.slice none 0 0),(zi 0)]),aW k3 149 (zg [FY.v,FZ.v,v182.v,(zi c183)]),bI Su FY c175,qo Sw FZ um,iH v182 FW,aaO p9.1 r7]/\Gy ai fuel BK yT c175 um FW c183 yU=some R) ⟨_,0,_,_,_,_,_,_,⟨none,0,0⟩,[],⟨none,0,0⟩,[],⟨none,0,0⟩,rfl,aA,rfl,(.conv .nil (gV (Ro:=(aC az)) (E:=3)) (.cons .nil) (.conv .nil (gV (Ro:=nH) (E:=159)) (.cons .nil) (.conv .nil (PU (R:=qP) (E:=186)) (.cons .nil) ay))),hF⟩ ?_
 rintro akr _ _ ⟨aDS,yT,BK,c175,um,FW,c183,yU,FY,Su,FZ,Sw,v182,rfl,rfl,aiJ,hE,hF⟩
 refine Kb hE r7 (fun azA=>?_)
 rcases BK with _|⟨Sq,BK⟩
 · have auH:=dn aiJ
   rw[Gy]at hF
   refine bJ ?_
   refine dL ?_
   refine bJ ?_
   refine As (zg [FY.v,FZ.v,v182.v,(zi c183)]) ?_
   refine bv ?_
   cases hF
   exact gU (FY,Su,FZ,Sw,v182) (.cellA rfl rfl .h rfl aip.h Wl.h.sz rfl rfl (.tmp rfl rfl .nil)) rfl (.sel (.cons .q3 (.cons .q3 (.rd .q3 rfl .nil))))
 obtain⟨auH,aiK,auI⟩:=dA aiJ
 rw[Gy]at hF
 refine bJ ?_
 refine dK ?_
 refine au ?_
 obtain⟨JL,aaq,aa0⟩:=bind_some hF
 refine iF (fun f' cs'=>∃(Sr:List Int)(c227:List Atom)(yO:List Step)(c232:Int)(c233:Bool)(XU:Sv)(adh:List Nat)(v228:Sv)(adi:List Nat)(Dk:Sv)(g:Fr),JL=(Sr,c227,yO,c232,c233)/\f'=aQ g [(1,ax.v),(6,(pz k2)),(8,(pz k3)),(9,(.bool c233)),(10,p9.1.v),(11,(zi (yT:Int)))]/\aO cs' [bW ax ai,aW k2 149 (zg [(.slice none 0 0),(.slice none 0 0),(.slice none 0 0),(zi 0)]),aW k3 149 (zg [XU.v,v228.v,Dk.v,(zi c232)]),bI adh XU Sr,qo adi v228 c227,iH Dk yO,aaO p9.1 r7]) ?_ ?_
 · replace hF:=aaq
   refine bn (dV [0,2,3,4,5,6,7,8,1,9,10] [0,1,0,0,12,28,0,0,0,511,1023] [1,9] mixed (by decide+kernel) ?_)
   refine dD ?_
   refine Di aiK (fun axI aDT=>?_)
   refine zZ (Zl Sq) af4 (fun axD=>?_)
   refine iy rfl .no rfl (fun ha=>bQ (g:=true) (len:=0) (parts:=[]) Fq.h Cz.h .nil (vs:=[]) rfl rfl rfl (by simp)) (fun uq=>?_)
   refine jk (.cons .h .nil) (bS (Ro:=(aC qP)) (E:=186) (F:=[]) (xs:=([]:List Step)) bR rfl rfl) ?_
   refine jk .nil (aam (R:=qP) (E:=186) (k:=uq) (i:=0) (m:=1)) ?_
   refine iy rfl .no rfl (fun ha=>bQ (g:=true) (len:=0) (parts:=[]) di.h dx.h .nil (vs:=[]) rfl rfl rfl (by simp)) (fun aks=>?_)
   refine jk (.cons .h .nil) (bS (Ro:=(aC az)) (E:=3) (F:=[]) (xs:=([]:List Int)) bR rfl rfl) ?_
   refine jk .nil (aam (R:=az) (E:=3) (k:=aks) (i:=0) (m:=1)) ?_
   refine iy rfl .no rfl (fun ha=>bQ (g:=true) (len:=0) (parts:=[]) Fq.h Cz.h .nil (vs:=[]) rfl rfl rfl (by simp)) (fun xu=>?_)
   refine jk (.cons .h .nil) (bS (Ro:=(aC qP)) (E:=186) (F:=[]) (xs:=([]:List Step)) bR rfl rfl) ?_
   refine jk .nil (aam (R:=qP) (E:=186) (k:=xu) (i:=0) (m:=1)) ?_
   refine bnd hF fun Aa aa1 hF=>cO rfl rfl .no (.rd .q9 rfl .nil) (.own (.t .h) (by simp[aT]) (.own .q3 (by simp[aT]) (.own .q5 (by simp[aT]) .nil))) (fun ha=>E9 (post':=fun XB:Sv×List Nat=>[bW XB.1 Aa]) (fun XB=>(.frz .h aG ay)) (bV asO.h (.cons (EN ha (.tmp rfl rfl) rfl) .nil) (@am6 ai ax _ aa1))) (fun XB=>?_)
   refine bnd hF fun JV aaR hF=>qE (@am7 _ _ _ _ _ _ _ (⟨(some ⟨uq,0,none⟩),0,1⟩) _ (⟨(some ⟨aks,0,none⟩),0,1⟩) _ (⟨(some ⟨xu,0,none⟩),0,1⟩) _ aaR) (fun Nq=>?_)
   refine bX ?_
   refine bv ?_
   refine bnd hF fun FX auJ hF=>bC (Y0 auJ) (fun _=>?_)
   refine bv ?_
   refine fe (fun f' cs'=>∃(g:Fr),f'=aQ g [(1,ax.v),(6,(pz k2)),(8,(pz k3)),(9,(.bool yU)),(10,p9.1.v),(11,(zi (yT:Int))),(12,Nq.v),(13,(zi FX)),(55,(.bool ((decide ((0:Int)<(JV.length:Int)))&&((!yU)||(decide ((FX:Int)<c183))))))]/\aO cs' [bW ax ai,aW k2 149 (zg [(.slice none 0 0),(.slice none 0 0),(.slice none 0 0),(zi 0)]),aW k3 149 (zg [FY.v,FZ.v,v182.v,(zi c183)]),bI Su FY c175,qo Sw FZ um,iH v182 FW,aaO p9.1 r7,iH Nq JV]) ?_ ?_
   · refine bi ?_
     rcases bD (decide ((0:Int)<(JV.length:Int)))with Qx|Qx
     · rw[Qx]
       try rw[Qx]at hF; dsimp only[aJ,aI]at hF
       refine bE ?_
       rcases bD (!yU)with Qy|Qy
       · rw[Qy]
         try rw[Qy]at hF; dsimp only[aJ,aI]at hF
         refine dN ?_
         exact⟨_,aA,ay⟩
       rw[Qy]
       try rw[Qy]at hF; dsimp only[aJ,aI]at hF
       refine Fs ?_
       exact⟨_,aA,ay⟩
     rw[Qx]
     try rw[Qx]at hF; dsimp only[aJ,aI]at hF
     refine kF ?_
     exact⟨_,aA,ay⟩
   rintro _ _ ⟨aDU,rfl,hE⟩
   refine bu hE ?_
   refine Ci hF (fun auK hF=>?_) (fun auK hF=>?_)
   · refine bv ?_
     refine Ai aiK (fun aDV aDW=>?_)
     refine yj (Zl Sq) af4 (fun aDX=>?_)
     refine bnd hF fun adg auL hF=>Av (af' auL) (fun Ae=>?_)
     refine aU ?_
     refine aN (iD Wl.h rfl (vs:=[(zg [Ae.1.v,Ae.2.2.1.v]),Nq.v,(zi FX)]) cu (cells:=[Ae.1.v,Ae.2.2.1.v,Nq.v,(zi FX)]) rfl) ?_
     refine As (zg [Ae.1.v,Ae.2.2.1.v,Nq.v,(zi FX)]) ?_
     refine bi ?_
     cases hF
     exact⟨_,_,_,_,_,Ae.1,Ae.2.1,Ae.2.2.1,Ae.2.2.2,Nq,_,rfl,aA,ay⟩
   refine au ?_
   cases hF
   exact⟨_,_,_,_,_,FY,Su,FZ,Sw,v182,_,rfl,aA,ay⟩
 rintro _ _ ⟨Sr,c227,yO,c232,c233,XU,adh,v228,adi,Dk,aDY,rfl,rfl,hE⟩
 replace hF:=aa0
 try dsimp only at hF
 refine bu hE ?_
 refine aZ ?_
 rw[wk yT]
 exact⟨_,bY _,_,yT+1,BK,_,_,_,_,_,XU,adh,v228,adi,Dk,rfl,aA,auI,ay,hF⟩
def Ia(ai:List Method)(aK:Query):List Step->Nat->(List Int)->(List Int)->Option (Bool)
 |[],k20,c11,c14=>some true
 |j3::lC,k20,c11,c14=>((iT j3.Atom 0 (IntKind.i64.wrap ((aK.Atoms.length:Int)-1))).bind fun qF=>
     bif (!qF)then (some true)
     else ((BF c14 j3.Atom).bind fun wR=>
       bif wR then (some true)
       else ((iT j3.Method 0 (IntKind.i64.wrap ((ai.length:Int)-1))).bind fun sN=>
         bif (!sN)then (some true)
         else ((ix ai j3.Method).bind fun x51=>
           (ix aK.Atoms j3.Atom).bind fun Aw=>
           (LW x51 Aw c11).bind fun r67=>
           some (!r67))))).bind fun xI=>
   match xI with
   |c70=>if c70 then (
       some false)
     else (
       (app c14 ([j3.Atom]:List Int)).bind fun z74=>
       (ix aK.Atoms j3.Atom).bind fun x79=>
       (Ml c11 x79).bind fun r86=>
       Ia ai aK lC (k20+1) r86 z74)
def PD(ag:List Int)(ai:List Method)(aK:Query)(dY:List Step):Option (Bool):=
 ((Mf ag ai aK).bind fun r4=>
   bif (!r4)then (some true)
   else (some (((dY.length:Int):Int)!=(aK.Atoms.length:Int)))).bind fun o2=>
 match o2 with
 |c8=>if c8 then (
     some false)
   else (
     Ia ai aK dY 0 ([]:List Int) ([]:List Int))
theorem anL{ag:List Int}{ae:Sv}{ai:List Method}{ax:Sv}{aK:Query}{bM dJ:Sv}{dY:List Step}{ig:Sv}{R:Bool}(hF:PD ag ai aK dY=some R):
   Fw.Spec Tryz.prog 169 [ae.v,ax.v,(zg [bM.v,dJ.v]),ig.v] [ah ae ag,bW ax ai,ah bM aK.Head,eX dJ aK.Atoms,iH ig dY] (fun _:Unit=>(.bool R)) (fun _=>[]):=by
 refine Se 106 Tryz.func169 [.tmp 8] ?_
 intro H0 F0
 unfold PD at hF
 refine au ?_
 refine bP (fun k1=>?_)
 refine bv ?_
 obtain⟨o2,gz,hO3⟩:=bind_some hF
 refine au ?_
 refine fe (fun f' cs'=>∃(c8:Bool)(g:Fr),c8=o2/\f'=aQ g [(1,ax.v),(3,ig.v),(6,(pz k1)),(24,(.bool c8))]/\aO cs' [bW ax ai,iH ig dY,aX k1 120 (zg [bM.v,dJ.v]),ah bM aK.Head,eX dJ aK.Atoms]) ?_ ?_
 · replace hF:=gz
   refine bv ?_
   refine bnd hF fun r4 hx5 hF=>bC (af9 hx5) (fun _=>?_)
   refine aU ?_
   rcases bD (!r4)with bq|bq
   · rw[bq]
     try rw[bq]at hF; dsimp only[aJ,aI]at hF
     exact bK hF
   rw[bq]
   try rw[bq]at hF; dsimp only[aJ,aI]at hF
   exact bK hF
 rintro _ _ ⟨c8,g93,rfl,rfl,hE⟩
 replace hF:=hO3
 try dsimp only at hF
 refine bu hE ?_
 refine Ci hF (fun ax2 hF=>?_) (fun ax2 hF=>?_)
 · exact ze hF
 refine aU ?_
 refine dH rfl (bQ (g:=true) di.h dx.h .nil (vs:=[]) rfl rfl rfl (by simp)) (fun k9=>?_)
 refine dR (.cons .h .nil) (bS (Ro:=(aC az)) (E:=3) (F:=[]) (xs:=([]:List Int)) bR rfl rfl) ?_
 refine bv ?_
 refine dH rfl (bQ (g:=true) di.h dx.h .nil (vs:=[]) rfl rfl rfl (by simp)) (fun k10=>?_)
 refine dR (.cons .h .nil) (bS (Ro:=(aC az)) (E:=3) (F:=[]) (xs:=([]:List Int)) bR rfl rfl) ?_
 refine bE ?_
 refine bn (bU (m:=dY.length) (fun m18 f' cs'=>∃(g:Fr)(k20:Nat)(lC:List Step)(c11 c14:List Int)(v12:Sv)(F13:List Nat)(v15:Sv)(zm:List Nat),m18=lC.length/\f'=aQ g [(1,ax.v),(3,ig.v),(6,(pz k1)),(9,v12.v),(10,v15.v),(11,(zi (k20:Int)))]/\List.drop k20 dY=lC/\aO cs' [bW ax ai,iH ig dY,aX k1 120 (zg [bM.v,dJ.v]),ah bM aK.Head,eX dJ aK.Atoms,bI F13 v12 c11,bI zm v15 c14]/\Ia ai aK lC k20 c11 c14=some R) ⟨_,0,_,_,_,⟨(some ⟨k9,0,none⟩),0,1⟩,(k9::[]),⟨(some ⟨k10,0,none⟩),0,1⟩,(k10::[]),rfl,aA,rfl,ay,hF⟩ ?_)
 rintro m18 _ _ ⟨g19,k20,lC,c11,c14,v12,F13,v15,zm,rfl,rfl,FO,hE,hF⟩
 refine Kb hE dY (fun aiC=>?_)
 rcases lC with _|⟨j3,lC⟩
 · have JH:=dn FO
   rw[Ia]at hF
   refine bJ ?_
   refine dL ?_
   exact ze hF
 obtain⟨JH,hx25,yB⟩:=dA FO
 rw[Ia]at hF
 refine bJ ?_
 refine dK ?_
 refine bv ?_
 obtain⟨xI,Qs,R5⟩:=bind_some hF
 refine dV [0,1,2,3,4,5,6,7,8,9,10,11,12,13,14,15,16,17,18,19,20,21,22,23,24,25,26,27,28,29,30,31,32,33,34,35,36,37,38,39,40,41,42,43,44,45,46,47,48,49,50,51,52,53] [0,0,3,7,15,0,32,96,224,511,1023,2047,4095,4095,4095,28671,61439,126975,262143,524287,1048575,2097151,2097151,8388607,16777215,33554431,2097151,69206015,203423743,536870911,1073741823,2147483647,4294967295,8589934591,8589934591,8589934591,60129542143,128849018879,266287972351,549755813887,1099511627775,8589934591,2207613190143,8589934591,8589934591,26396869001215,61581241090047,131949985267711,279284543389695,560759520100351,8589934591,2251799813685247,4503599627370495,9007199254740991] [9,18,29,51] mixed (by decide+kernel) ?_
 refine kX (fun f' cs'=>∃(c70:Bool)(g:Fr),c70=xI/\f'=aQ g [(1,ax.v),(3,ig.v),(6,(pz k1)),(9,v12.v),(10,v15.v),(11,(zi (k20:Int))),(86,(.bool c70))]/\aO cs' [bW ax ai,iH ig dY,aX k1 120 (zg [bM.v,dJ.v]),ah bM aK.Head,eX dJ aK.Atoms,bI F13 v12 c11,bI zm v15 c14]) ?_ ?_
 · replace hF:=Qs
   refine bX ?_
   refine Di hx25 (fun Gl Ym=>?_)
   refine du ?_
   refine Dl I_ ?_
   refine nZ ?_
   refine bnd hF fun qF hx34 hF=>fu (jT hx34) (fun _=>?_)
   refine bX ?_
   rcases bD (!qF)with ry|ry
   · rw[ry]
     try rw[ry]at hF; dsimp only[aJ,aI]at hF
     exact eD hF
   rw[ry]
   try rw[ry]at hF; dsimp only[aJ,aI]at hF
   refine dD ?_
   refine Di hx25 (fun TG TH=>?_)
   refine du ?_
   refine Dl I_ ?_
   refine bnd hF fun wR uh hF=>cO rfl rfl (.on 44 rfl rfl rfl) (.cons .q8 .nil) .nil (fun ha=>jV aG (fun _=>.nil) (bV Wj.h (.cons (EN ha (.tmp rfl rfl) rfl) (.cons (EN ha (.tmp rfl rfl) rfl) .nil)) (Pb uh))) (fun _=>?_)
   refine bX ?_
   rcases bD wR with rC|rC
   · rw[rC]
     try rw[rC]at hF; dsimp only[aJ,aI]at hF
     exact eD hF
   rw[rC]
   try rw[rC]at hF; dsimp only[aJ,aI]at hF
   refine bX ?_
   refine Di hx25 (fun Yy j44=>?_)
   refine du ?_
   refine Dl Bz ?_
   refine dD ?_
   refine bnd hF fun sN FJ hF=>fu (jT FJ) (fun _=>?_)
   refine dD ?_
   rcases bD (!sN)with Sy|Sy
   · rw[Sy]
     try rw[Sy]at hF; dsimp only[aJ,aI]at hF
     exact eD hF
   rw[Sy]
   try rw[Sy]at hF; dsimp only[aJ,aI]at hF
   refine dD ?_
   refine Di hx25 (fun Tz Yw=>?_)
   refine du ?_
   refine Dl Bz ?_
   refine zI hF fun x51 aDZ ui hF=>?_
   refine Di ui (fun k55 j56=>?_)
   refine jR (uO x51) vH (fun p57=>?_)
   refine nZ ?_
   refine Di hx25 (fun k58 j59=>?_)
   refine du ?_
   refine Dl I_ ?_
   refine zI hF fun Aw ajE CZ hF=>?_
   refine Di CZ (fun k64 j65=>?_)
   refine jR (EC Aw) Ij (fun p66=>?_)
   refine du ?_
   refine bnd hF fun r67 ax3 hF=>cO rfl rfl (.on 65 rfl rfl rfl) (.cons (.t (.t (.t (.t (.t (.t (.t (.t (.t (.t (.t (.t (.t (.t (.t .h))))))))))))))) (.rd .q3 rfl (.rd .h rfl .nil))) .nil (fun ha=>jV aG (fun _=>.nil) (jm (.rd (.t .h) rfl (.rd .q2 rfl (.rd .h rfl .nil))) (bV asQ.h (.cons (EN ha (.tmp rfl rfl) rfl) (.cons (EN ha (.tmp rfl rfl) rfl) (.cons (EN ha (.tmp rfl rfl) rfl) .nil))) (afI ax3)))) (fun _=>?_)
   exact eD hF
 rintro _ _ ⟨c70,g91,rfl,rfl,hE⟩
 replace hF:=R5
 try dsimp only at hF
 refine bu hE ?_
 refine Ci hF (fun ax4 hF=>?_) (fun ax4 hF=>?_)
 · exact ze hF
 refine aZ ?_
 refine Ai hx25 (fun wJ j72=>?_)
 refine au ?_
 refine Al I_ ?_
 refine dH rfl (bQ (g:=true) di.h dx.h cu (vs:=[(zi j3.Atom)]) rfl rfl rfl (by intro v hv; simp at hv; rcases hv with rfl<;>rfl)) (fun k73=>?_)
 refine dR (.cons .h .nil) (bS (Ro:=(aC az)) (E:=3) (F:=([]++[])) (xs:=([j3.Atom]:List Int)) (ed (jF (fun _=>rfl)) bR cK) rfl rfl) ?_
 refine bnd hF fun z74 adj hF=>ek (.cons .q8 (.cons .h .nil)) (dX (Ro:=(aC az)) di.h jc dx.h rfl rfl rfl (.tmp rfl rfl) (.tmp rfl rfl) adj fU) (fun eZ=>?_)
 refine aU ?_
 refine jD [0,1,2,3,4,5,6,7,8,9,10,11] [0,0,2,0,0,24,56,120,254,510,1023,2047] [10] mixed (by decide+kernel) ?_
 refine t_ ?_
 refine Di hx25 (fun k77 j78=>?_)
 refine du ?_
 refine Dl I_ ?_
 refine zI hF fun x79 aD0 ax5 hF=>?_
 refine Di ax5 (fun k83 j84=>?_)
 refine jR (EC x79) Ij (fun p85=>?_)
 refine bnd hF fun r86 adk hF=>pq rfl rfl .no (.cons .q10 (.rd .h rfl .nil)) .nil (fun ha=>jV aG (fun _=>(.cons .nil)) (bV ait.h (.cons (EN ha (.tmp rfl rfl) rfl) (.cons (EN ha (.tmp rfl rfl) rfl) .nil)) (agc adk))) (fun p88=>?_)
 refine bX ?_
 refine aZ ?_
 rw[wk k20]
 exact⟨_,bY _,_,k20+1,lC,_,_,p88.1,p88.2,eZ.1,eZ.2,rfl,aA,yB,ay,hF⟩
def Ib(ai:List Method):List Step->Nat->Option (Bool)
 |[],k4=>some true
 |x6::aM,k4=>((iT x6.Method 0 (IntKind.i64.wrap ((ai.length:Int)-1))).bind fun o9=>
     bif (!o9)then (some true)
     else ((ix ai x6.Method).bind fun TJ=>
       some ((TJ.Limit:Int)!=0))).bind fun mo=>
   match mo with
   |lM=>if lM then (
       some false)
     else (
       Ib ai aM (k4+1))
def Vp(ai:List Method)(dY:List Step):Option (Bool):=
 Ib ai dY 0
theorem anM{ai:List Method}{ae:Sv}{dY:List Step}{ax:Sv}{R:Bool}(hF:Vp ai dY=some R):
   Fw.Spec Tryz.prog 170 [ae.v,ax.v] [bW ae ai,iH ax dY] (fun _:Unit=>(.bool R)) (fun _=>[]):=by
 refine Se 34 Tryz.func170 [.tmp 4] ?_
 intro H0 F0
 unfold Vp at hF
 refine bJ ?_
 refine bn (bU (m:=dY.length) (fun m2 f' cs'=>∃(g:Fr)(k4:Nat)(aM:List Step),m2=aM.length/\f'=aQ g [(0,ae.v),(1,ax.v),(5,(zi (k4:Int)))]/\List.drop k4 dY=aM/\aO cs' [bW ae ai,iH ax dY]/\Ib ai aM k4=some R) ⟨_,0,_,rfl,aA,rfl,ay,hF⟩ ?_)
 rintro m2 _ _ ⟨g3,k4,aM,rfl,rfl,hd7,hE,hF⟩
 refine Kb hE dY (fun kY=>?_)
 rcases aM with _|⟨x6,aM⟩
 · have gH:=dn hd7
   rw[Ib]at hF
   refine bJ ?_
   refine dL ?_
   exact ze hF
 obtain⟨gH,bZ,gG⟩:=dA hd7
 rw[Ib]at hF
 refine bJ ?_
 refine dK ?_
 refine aU ?_
 obtain⟨mo,vP,wh⟩:=bind_some hF
 refine au ?_
 refine fe (fun f' cs'=>∃(lM:Bool)(g:Fr),lM=mo/\f'=aQ g [(0,ae.v),(1,ax.v),(5,(zi (k4:Int))),(33,(.bool lM))]/\aO cs' [bW ae ai,iH ax dY]) ?_ ?_
 · replace hF:=vP
   refine aU ?_
   refine Ai bZ (fun k15 Yq=>?_)
   refine au ?_
   refine Al Bz ?_
   refine bv ?_
   refine bnd hF fun o9 mQ hF=>bC (jT mQ) (fun _=>?_)
   refine aU ?_
   rcases bD (!o9)with rA|rA
   · rw[rA]
     try rw[rA]at hF; dsimp only[aJ,aI]at hF
     exact bK hF
   rw[rA]
   try rw[rA]at hF; dsimp only[aJ,aI]at hF
   refine bJ ?_
   refine Ai bZ (fun k21 NB=>?_)
   refine bv ?_
   refine Al Bz ?_
   refine au ?_
   refine zI hF fun TJ aw8 nL hF=>?_
   refine Ai nL (fun k27 j28=>?_)
   refine bv ?_
   refine Al P7 ?_
   exact bK hF
 rintro _ _ ⟨lM,g32,rfl,rfl,hE⟩
 replace hF:=wh
 try dsimp only at hF
 refine bu hE ?_
 refine Ci hF (fun Ry hF=>?_) (fun Ry hF=>?_)
 · exact ze hF
 refine bE ?_
 rw[wk k4]
 exact⟨_,bY _,_,k4+1,aM,rfl,aA,gG,ay,hF⟩
end Go.Proofs.YtfcjmpkenaiomaaGreat
