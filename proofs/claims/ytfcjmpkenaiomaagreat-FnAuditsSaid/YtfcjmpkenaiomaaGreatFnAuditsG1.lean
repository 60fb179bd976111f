/-
  Functions of the program as Lean functions, and that the calls return what these say: part 2. No conditions.
-/
import Derived.Test.YtfcjmpkenaiomaaGreatFnAuditsG0
import Derived.KernelRfl
set_option maxRecDepth 100000
set_option maxHeartbeats 1000000
set_option linter.unusedVariables false
namespace Go.Proofs.YtfcjmpkenaiomaaGreat
open Go Go.Fw

def xe(bF:Fact):List Fact->Nat->(List Fact)->Bool->Option ((List Fact))
 |[],k13,c6,c9=>if (!c9)then (
     (wy bF.Rel bF.Values).bind fun kX=>
     (app c6 ([kX]:List Fact)).bind fun z26=>
     some z26)
   else (
     some c6)
 |nu::Bu,k13,c6,c9=>((bif (!c9)then ((w9 bF nu).bind fun Np=>
         some (decide ((Np:Int)<0)))
       else (some false)).bind fun o32=>
     match o32 with
     |lQ=>if lQ then (
         (wy bF.Rel bF.Values).bind fun Aa=>
         (app c6 ([Aa]:List Fact)).bind fun z46=>
         (wy nu.Rel nu.Values).bind fun Yp=>
         (app z46 ([Yp]:List Fact)).bind fun z58=>
         some (z58,true))
       else (
         (wy nu.Rel nu.Values).bind fun Yq=>
         (app c6 ([Yq]:List Fact)).bind fun z70=>
         some (z70,c9))).bind fun JM=>
   match JM with
   |(c75,yR)=>xe bF Bu (k13+1) c75 yR
def xn(ai:List Fact)(bF:Fact):Option ((List Fact)):=
 (Ej ai bF).bind fun r3=>
 xe bF ai 0 ([]:List Fact) r3
theorem KM{ai:List Fact}{ae:Sv}{bF:Fact}{aV:Sv}{R:(List Fact)}(hF:xn ai bF=some R):
   Fw.Spec Tryz.prog 90 [ae.v,(zg [(zi bF.Rel),aV.v])] [bG ae ai,ah aV bF.Values] (fun p:Sv×List Nat=>p.1.v) (fun p=>[eG p.2 p.1 R]):=by
 refine Se 62 Tryz.func90 [.tmp 4] ?_
 intro H0 F0
 unfold xn at hF
 refine au ?_
 refine bN (fun k1=>?_)
 refine bu ?_
 refine dF rfl (bO (g:=true) fH.h dZ.h .nil (vs:=[]) rfl rfl rfl (by simp)) (fun k2=>?_)
 refine dP (.cons .h .nil) (bQ (Ro:=gN) (E:=70) (F:=[]) (xs:=([]:List Fact)) bP rfl rfl) ?_
 refine aY ?_
 refine bnd hF fun r3 hx4 hF=>bD (Zc hx4) (fun _=>?_)
 refine bB ?_
 refine bi (bT (m:=ai.length) (fun m11 f' cs'=>∃(g:Fr)(k13:Nat)(Bu c6:List Fact)(c9:Bool)(v7:Sv)(F8:List Nat),m11=Bu.length/\f'=aQ g [(0,ae.v),(3,(pz k1)),(5,v7.v),(6,(.bool c9)),(7,(zi (k13:Int)))]/\List.drop k13 ai=Bu/\aN cs' [bG ae ai,aX k1 70 (zg [(zi bF.Rel),aV.v]),ah aV bF.Values,eG F8 v7 c6]/\xe bF Bu k13 c6 c9=some R) ⟨_,0,_,_,_,⟨(some ⟨k2,0,none⟩),0,1⟩,(k2::[]),rfl,aA,rfl,ay,hF⟩ ?_)
 rintro m11 _ _ ⟨g12,k13,Bu,c6,c9,v7,F8,rfl,rfl,Xg,hE,hF⟩
 refine Kb hE ai (fun aAG=>?_)
 rcases Bu with _|⟨nu,Bu⟩
 · have axh:=dn Xg
   rw[xe]at hF
   refine bH ?_
   refine dJ ?_
   refine gB ?_
   refine Ci hF (fun Cz hF=>?_) (fun Cz hF=>?_)
   · refine bB ?_
     refine bnd hF fun kX sW hF=>gy (Eg sW) (fun nH=>?_)
     refine dF rfl (bO (g:=true) fH.h dZ.h b_ (vs:=[(zg [(zi kX.Rel),nH.1.v])]) rfl rfl rfl (by intro v hv; simp at hv; rcases hv with rfl<;>rfl)) (fun k25=>?_)
     refine dP (.cons .h (.cons .h .nil)) (bQ (Ro:=gN) (E:=70) (F:=(nH.2++[])) (xs:=([kX]:List Fact)) (d_ xR bP cK) rfl rfl) ?_
     refine bnd hF fun z26 hx27 hF=>ed (.cons .q4 (.cons .h .nil)) (dV (Ro:=gN) fH.h xS dZ.h rfl rfl rfl (.tmp rfl rfl) (.tmp rfl rfl) hx27 fw) (fun p28=>?_)
     refine bH ?_
     cases hF
     exact Er (p28.1,p28.2)
   refine bB ?_
   cases hF
   exact Er (v7,F8)
 obtain⟨axh,mJ,Xc⟩:=dz Xg
 rw[xe]at hF
 refine bH ?_
 refine dI ?_
 refine au ?_
 obtain⟨JM,aaM,ack⟩:=bind_some hF
 refine iC (fun f' cs'=>∃(c75:List Fact)(yR:Bool)(v76:Sv)(C8:List Nat)(g:Fr),JM=(c75,yR)/\f'=aQ g [(0,ae.v),(3,(pz k1)),(5,v76.v),(6,(.bool yR)),(7,(zi (k13:Int)))]/\aN cs' [bG ae ai,aX k1 70 (zg [(zi bF.Rel),aV.v]),ah aV bF.Values,eG C8 v76 c75]) ?_ ?_
 · replace hF:=aaM
   refine bi (lX ?_)
   obtain⟨o32,aaN,acl⟩:=bind_some hF
   refine dS [0,1,2,3,4,5,6,7,8,9,10] [0,1,3,7,7,7,55,119,255,511,1023] [8] mixed (by decide+kernel) ?_
   refine kS (fun f' cs'=>∃(lQ:Bool)(g:Fr),lQ=o32/\f'=aQ g [(0,ae.v),(3,(pz k1)),(5,v7.v),(6,(.bool c9)),(7,(zi (k13:Int))),(28,(.bool lQ))]/\aN cs' [bG ae ai,aX k1 70 (zg [(zi bF.Rel),aV.v]),ah aV bF.Values,eG F8 v7 c6]) ?_ ?_
   · replace hF:=aaN
     refine dm ?_
     rcases bE (!c9)with yl|yl
     · rw[yl]
       try rw[yl]at hF; dsimp only[aJ,aI]at hF
       refine dm ?_
       refine Di mJ (fun nk j36=>?_)
       refine jP (lU nu) mf (fun p37=>?_)
       refine bnd hF fun Np hx39 hF=>eZ (NM hx39) (fun _=>?_)
       exact eu hF
     rw[yl]
     try rw[yl]at hF; dsimp only[aJ,aI]at hF
     exact eu hF
   rintro _ _ ⟨lQ,g74,rfl,rfl,hE⟩
   replace hF:=acl
   try dsimp only at hF
   refine bq hE ?_
   refine Ci hF (fun axi hF=>?_) (fun axi hF=>?_)
   · refine bB ?_
     refine bnd hF fun Aa ql hF=>gy (Eg ql) (fun p44=>?_)
     refine dF rfl (bO (g:=true) fH.h dZ.h b_ (vs:=[(zg [(zi Aa.Rel),p44.1.v])]) rfl rfl rfl (by intro v hv; simp at hv; rcases hv with rfl<;>rfl)) (fun k45=>?_)
     refine dP (.cons .h (.cons .h .nil)) (bQ (Ro:=gN) (E:=70) (F:=(p44.2++[])) (xs:=([Aa]:List Fact)) (d_ xR bP cK) rfl rfl) ?_
     refine bnd hF fun z46 Cw hF=>ed (.cons .q4 (.cons .h .nil)) (dV (Ro:=gN) fH.h xS dZ.h rfl rfl rfl (.tmp rfl rfl) (.tmp rfl rfl) Cw fw) (fun p48=>?_)
     refine aY ?_
     refine jf [0,1,2,3,4,5,6,7,8,9,10,11,12,13,14] [0,0,0,6,14,30,0,0,192,448,960,2046,4094,8191,16383] [11,13] mixed (by decide+kernel) ?_
     refine dm ?_
     refine Di mJ (fun Tj Yr=>?_)
     refine du ?_
     refine Dl Bp ?_
     refine bR ?_
     refine Di mJ (fun tQ j52=>?_)
     refine du ?_
     refine n_ (R':=(aD 3 az)) iA.h rfl .no (.tmp rfl rfl) rfl .h Ey (fun w53=>?_)
     refine bnd hF fun Yp Jf hF=>qw (Eg Jf) (fun p56=>?_)
     refine iq rfl .no rfl (fun ha=>bO (g:=true) (len:=1) (parts:=[(0,.tmp 48)]) fH.h dZ.h (.cons (EN ha (.tmp rfl rfl) rfl) .nil) (vs:=[(zg [(zi Yp.Rel),p56.1.v])]) rfl rfl rfl (by intro v hv; simp at hv; rcases hv with rfl<;>rfl)) (fun k57=>?_)
     refine iR (.cons .h (.cons .h .nil)) (bQ (Ro:=gN) (E:=70) (F:=(p56.2++[])) (xs:=([Yp]:List Fact)) (d_ xR bP cK) rfl rfl) ?_
     refine bnd hF fun z58 Cq hF=>cO rfl rfl .no (.cons .q4 (.cons .h .nil)) (.dep rfl .nil) (fun ha=>dV (Ro:=gN) fH.h xS dZ.h rfl rfl rfl (EN ha (.tmp rfl rfl) rfl) (EN ha (.tmp rfl rfl) rfl) Cq fw) (fun p60=>?_)
     refine bR ?_
     cases hF
     exact⟨_,_,p60.1,p60.2,_,rfl,aA,ay⟩
   refine au ?_
   refine jf [0,1,2,3,4,5,6,7,8,9,10,11,12,13,14] [0,0,0,6,14,30,0,0,192,448,960,2046,4094,8191,16383] [11,13] mixed (by decide+kernel) ?_
   refine dm ?_
   refine Di mJ (fun k61 j62=>?_)
   refine du ?_
   refine Dl Bp ?_
   refine bR ?_
   refine Di mJ (fun k63 j64=>?_)
   refine du ?_
   refine n_ (R':=(aD 3 az)) iA.h rfl .no (.tmp rfl rfl) rfl .h Ey (fun w65=>?_)
   refine bnd hF fun Yq Q7 hF=>qw (Eg Q7) (fun p68=>?_)
   refine iq rfl .no rfl (fun ha=>bO (g:=true) (len:=1) (parts:=[(0,.tmp 48)]) fH.h dZ.h (.cons (EN ha (.tmp rfl rfl) rfl) .nil) (vs:=[(zg [(zi Yq.Rel),p68.1.v])]) rfl rfl rfl (by intro v hv; simp at hv; rcases hv with rfl<;>rfl)) (fun k69=>?_)
   refine iR (.cons .h (.cons .h .nil)) (bQ (Ro:=gN) (E:=70) (F:=(p68.2++[])) (xs:=([Yq]:List Fact)) (d_ xR bP cK) rfl rfl) ?_
   refine bnd hF fun z70 axj hF=>cO rfl rfl .no (.cons .q7 (.cons .h .nil)) (.dep rfl .nil) (fun ha=>dV (Ro:=gN) fH.h xS dZ.h rfl rfl rfl (EN ha (.tmp rfl rfl) rfl) (EN ha (.tmp rfl rfl) rfl) axj fw) (fun p72=>?_)
   refine bR ?_
   cases hF
   exact⟨_,_,p72.1,p72.2,_,rfl,aA,ay⟩
 rintro _ _ ⟨c75,yR,v76,C8,g80,rfl,rfl,hE⟩
 replace hF:=ack
 try dsimp only at hF
 refine bq hE ?_
 refine aY ?_
 rw[wk k13]
 exact⟨_,bX _,_,k13+1,Bu,_,_,v76,C8,rfl,aA,Xc,ay,hF⟩
def Dk(aS:Source)(ak:qb):List Fact->Nat->(List Fact)->Option (Source×Bool)
 |[],vP,nW=>some ((⟨nW,(IntKind.i64.wrap (aS.Version+1))⟩:Source),true)
 |Tz::Bv,vP,nW=>((w9 Tz ak.Fact).bind fun r85=>
     if ((r85:Int)!=0)then (
       (wy Tz.Rel Tz.Values).bind fun FM=>
       (app nW ([FM]:List Fact)).bind fun z97=>
       some z97)
     else (
       some nW)).bind fun o80=>
   match o80 with
   |RB=>Dk aS ak Bv (vP+1) RB
def Oa(ag:List Int)(aS:Source)(ak:qb):Option (Source×Bool):=
 (Lh aS).bind fun r4=>
 ((K6 ag aS).bind fun lS=>
   bif (!lS)then (some true)
   else ((Lx ag ak.Fact).bind fun jW=>
     bif (!jW)then (some true)
     else (bif (decide ((1000:Int)<=aS.Version))then (some true)
       else ((Ej aS.Facts ak.Fact).bind fun qA=>
         bif (qA==ak.Add)then (some true)
         else (bif ak.Add then (some (decide ((24:Int)<=(aS.Facts.length:Int))))
           else (some false)))))).bind fun o8=>
 match o8 with
 |c24=>if c24 then (
     some (r4,false))
   else (
     if ak.Add then (
       (xn aS.Facts ak.Fact).bind fun gV=>
       some ((⟨gV,(IntKind.i64.wrap (aS.Version+1))⟩:Source),true))
     else (
       Dk aS ak aS.Facts 0 ([]:List Fact)))
theorem alI{ag:List Int}{ae:Sv}{aS:Source}{ax:Sv}{ak:qb}{tC:Sv}{R:Source×Bool}(hF:Oa ag aS ak=some R):
   Fw.Spec Tryz.prog 134 [ae.v,(zg [ax.v,(zi aS.Version)]),(zg [(.bool ak.Add),(zi ak.Fact.Rel),tC.v])] [ah ae ag,bG ax aS.Facts,ah tC ak.Fact.Values] (fun p:Sv×List Nat=>(.tuple [(zg [p.1.v,(zi R.1.Version)]),(.bool R.2)].toArray)) (fun p=>[eG p.2 p.1 R.1.Facts]):=by
 refine Se 99 Tryz.func134 [.cell 6 29,.tmp 7] ?_
 intro H0 F0
 unfold Oa at hF
 refine au ?_
 refine bN (fun k1=>?_)
 refine bN (fun k2=>?_)
 refine dX (fun k3=>?_)
 refine bg ?_
 refine bnd hF fun r4 hx5 hF=>gy (afp hx5) (fun p6=>?_)
 refine dX (fun k7=>?_)
 refine As (zg [p6.1.v,(zi r4.Version)]) ?_
 refine aT ?_
 obtain⟨o8,Jb,JL⟩:=bind_some hF
 refine dS [0,1,2,3,4,5,6,7,8,9,10,11,12,13,14,15,16,17,18,19,20,22,23,21,24,25,26,27,28,29,30,31,32,33,34,35] [0,0,3,7,15,31,31,95,255,511,1023,2047,4095,8191,16383,32767,65535,131071,262143,131071,655359,2097151,131071,4325375,16777215,33554431,67108863,134217727,268435455,536870911,1073741823,2147483647,4294967295,8589934591,17179869183,34359738367] [2,8,21] mixed (by decide+kernel) ?_
 refine kS (fun f' cs'=>∃(c24:Bool)(g:Fr),c24=o8/\f'=aQ g [(4,(pz k1)),(5,(pz k2)),(6,(pz k3)),(8,(pz k7)),(47,(.bool c24))]/\aN cs' [aX k1 29 (zg [ax.v,(zi aS.Version)]),bG ax aS.Facts,aX k2 114 (zg [(.bool ak.Add),(zi ak.Fact.Rel),tC.v]),ah tC ak.Fact.Values,aW k3 29 (zg [(.slice none 0 0),(zi 0)]),aW k7 29 (zg [p6.1.v,(zi r4.Version)]),eG p6.2 p6.1 r4.Facts]) ?_ ?_
 · replace hF:=Jb
   refine bR ?_
   refine bnd hF fun lS kW hF=>eZ (ae8 kW) (fun _=>?_)
   refine bR ?_
   rcases bE (!lS)with jr|jr
   · rw[jr]
     try rw[jr]at hF; dsimp only[aJ,aI]at hF
     exact eu hF
   rw[jr]
   try rw[jr]at hF; dsimp only[aJ,aI]at hF
   refine bR ?_
   refine wJ rfl (.on 16 rfl rfl rfl) .q3 rfl (fun ha hp=>j3 (s:=2) (l:=[(zi ak.Fact.Rel),tC.v]) u7.h dZ.h.sz (EN ha (.tmp rfl rfl) rfl) hp.2 rfl (by decide) (Nat.le_of_ble_eq_true rfl) rfl) ?_
   refine bnd hF fun jW kz hF=>eZ (afR kz) (fun _=>?_)
   refine dm ?_
   rcases bE (!jW)with lw|lw
   · rw[lw]
     try rw[lw]at hF; dsimp only[aJ,aI]at hF
     exact eu hF
   rw[lw]
   try rw[lw]at hF; dsimp only[aJ,aI]at hF
   refine sV ?_
   rcases bE (decide ((1000:Int)<=aS.Version))with jq|jq
   · rw[jq]
     try rw[jq]at hF; dsimp only[aJ,aI]at hF
     exact eu hF
   rw[jq]
   try rw[jq]at hF; dsimp only[aJ,aI]at hF
   refine dm ?_
   refine wJ rfl (.on 28 rfl rfl rfl) .q3 rfl (fun ha hp=>j3 (s:=2) (l:=[(zi ak.Fact.Rel),tC.v]) u7.h dZ.h.sz (EN ha (.tmp rfl rfl) rfl) hp.2 rfl (by decide) (Nat.le_of_ble_eq_true rfl) rfl) ?_
   refine bR ?_
   refine bnd hF fun qA vw hF=>eZ (Zc vw) (fun _=>?_)
   refine bW rfl (.on 28 rfl rfl rfl) (fun ha=>arG (a:=qA) (b:=ak.Add) Tryz.underlying4 (EN ha (.tmp rfl rfl) rfl) (EN ha (.tmp rfl rfl) rfl)) ?_
   refine bR ?_
   rcases bE (qA==ak.Add)with ym|ym
   · rw[ym]
     try rw[ym]at hF; dsimp only[aJ,aI]at hF
     exact eu hF
   rw[ym]
   try rw[ym]at hF; dsimp only[aJ,aI]at hF
   refine dm ?_
   rcases bE ak.Add with j6|j6
   · rw[j6]
     try rw[j6]at hF; dsimp only[aJ,aI]at hF
     exact eu hF
   rw[j6]
   try rw[j6]at hF; dsimp only[aJ,aI]at hF
   exact eu hF
 rintro _ _ ⟨c24,aCW,rfl,rfl,hE⟩
 replace hF:=JL
 try dsimp only at hF
 refine bq hE ?_
 refine Ci hF (fun aaO hF=>?_) (fun aaO hF=>?_)
 · refine aT ?_
   refine As (zg [p6.1.v,(zi r4.Version)]) ?_
   refine bu ?_
   cases hF
   exact gQ (p6.1,p6.2) (.cellA rfl rfl .h rfl xP.h u6.h.sz rfl rfl (.tmp rfl rfl .nil)) rfl (.sel (.cons .q6 .nil))
 refine bB ?_
 refine As (zg [p6.1.v,(zi (IntKind.i64.wrap (aS.Version+1)))]) ?_
 refine bB ?_
 refine Ci hF (fun atu hF=>?_) (fun atu hF=>?_)
 · refine bg ?_
   refine fo .q3 (fun hp=>j3 (s:=2) (l:=[(zi ak.Fact.Rel),tC.v]) u7.h dZ.h.sz (.tmp rfl rfl) hp.2 rfl (by decide) (Nat.le_of_ble_eq_true rfl) rfl) ?_
   refine bnd hF fun gV nE hF=>gy (KM nE) (fun p27=>?_)
   refine au ?_
   refine As (zg [p27.1.v,(zi (IntKind.i64.wrap (aS.Version+1)))]) ?_
   refine bu ?_
   refine As (zg [p27.1.v,(zi (IntKind.i64.wrap (aS.Version+1)))]) ?_
   refine bu ?_
   cases hF
   exact gQ (p27.1,p27.2) (.cellA rfl rfl .h rfl xP.h u6.h.sz rfl rfl (.tmp rfl rfl .nil)) rfl (.sel (.cons .q2 .nil))
 refine aT ?_
 refine dF rfl (bO (g:=true) fH.h dZ.h .nil (vs:=[]) rfl rfl rfl (by simp)) (fun k28=>?_)
 refine dP (.cons .h .nil) (bQ (Ro:=gN) (E:=70) (F:=[]) (xs:=([]:List Fact)) bP rfl rfl) ?_
 refine au ?_
 refine As (zg [(.slice (some ⟨k28,0,none⟩) 0 1),(zi (IntKind.i64.wrap (aS.Version+1)))]) ?_
 refine aY ?_
 refine bi (bT (m:=aS.Facts.length) (fun m69 f' cs'=>∃(g:Fr)(vP:Nat)(Bv nW:List Fact)(v66:Sv)(wX:List Nat),m69=Bv.length/\f'=aQ g [(4,(pz k1)),(5,(pz k2)),(6,(pz k3)),(8,(pz k7)),(9,(zi (vP:Int)))]/\List.drop vP aS.Facts=Bv/\aN cs' [aX k1 29 (zg [ax.v,(zi aS.Version)]),bG ax aS.Facts,aX k2 114 (zg [(.bool ak.Add),(zi ak.Fact.Rel),tC.v]),ah tC ak.Fact.Values,aW k3 29 (zg [(.slice none 0 0),(zi 0)]),aW k7 29 (zg [v66.v,(zi (IntKind.i64.wrap (aS.Version+1)))]),eG wX v66 nW]/\Dk aS ak Bv vP nW=some R) ⟨_,0,_,_,⟨(some ⟨k28,0,none⟩),0,1⟩,(k28::[]),rfl,aA,rfl,ay,hF⟩ ?_)
 rintro m69 _ _ ⟨g70,vP,Bv,nW,v66,wX,rfl,rfl,ajK,hE,hF⟩
 refine Kb hE aS.Facts (fun aAH=>?_)
 rcases Bv with _|⟨Tz,Bv⟩
 · have axk:=dn ajK
   rw[Dk]at hF
   refine dL ?_
   refine dJ ?_
   refine bB ?_
   refine As (zg [v66.v,(zi (IntKind.i64.wrap (aS.Version+1)))]) ?_
   refine bu ?_
   cases hF
   exact gQ (v66,wX) (.cellA rfl rfl .h rfl xP.h u6.h.sz rfl rfl (.tmp rfl rfl .nil)) rfl (.sel (.cons .q6 .nil))
 obtain⟨axk,RD,Xh⟩:=dz ajK
 rw[Dk]at hF
 refine dL ?_
 refine dI ?_
 refine au ?_
 obtain⟨o80,atv,axl⟩:=bind_some hF
 refine iC (fun f' cs'=>∃(RB:List Fact)(Xi:Sv)(acm:List Nat)(g:Fr),RB=o80/\f'=aQ g [(4,(pz k1)),(5,(pz k2)),(6,(pz k3)),(8,(pz k7)),(9,(zi (vP:Int)))]/\aN cs' [aX k1 29 (zg [ax.v,(zi aS.Version)]),bG ax aS.Facts,aX k2 114 (zg [(.bool ak.Add),(zi ak.Fact.Rel),tC.v]),ah tC ak.Fact.Values,aW k3 29 (zg [(.slice none 0 0),(zi 0)]),aW k7 29 (zg [Xi.v,(zi (IntKind.i64.wrap (aS.Version+1)))]),eG acm Xi RB]) ?_ ?_
 · replace hF:=atv
   refine bi (dS [0,1,2,3,4,5,6,7,8] [0,1,0,7,15,0,32,127,255] [7] mixed (by decide+kernel) ?_)
   refine dm ?_
   refine Di RD (fun k82 j83=>?_)
   refine jP (lU Tz) mf (fun p84=>?_)
   refine du ?_
   refine wJ rfl .no .q4 rfl (fun ha hp=>j3 (s:=2) (l:=[(zi ak.Fact.Rel),tC.v]) u7.h dZ.h.sz (EN ha (.tmp rfl rfl) rfl) hp.2 rfl (by decide) (Nat.le_of_ble_eq_true rfl) rfl) ?_
   refine bnd hF fun r85 Xj hF=>eZ (NM Xj) (fun _=>?_)
   refine bR ?_
   refine Ci hF (fun aaP hF=>?_) (fun aaP hF=>?_)
   · refine jf [0,1,2,3,4,5,6,7,8,9,10,11,12,13,14,15,16,17,18] [0,1,0,4,0,28,60,124,0,256,0,1792,3840,7936,16380,32764,65535,131071,262143] [14,16,18] mixed (by decide+kernel) ?_
     refine du ?_
     refine dM rfl .no .q7 (fun ha hp=>fe (v:=v66.v) xQ.h (EN ha (.tmp rfl rfl) rfl) hp.2 rfl rfl) ?_
     refine dm ?_
     refine Di RD (fun k88 j89=>?_)
     refine du ?_
     refine Dl Bp ?_
     refine dm ?_
     refine Di RD (fun k90 j91=>?_)
     refine du ?_
     refine n_ (R':=(aD 3 az)) iA.h rfl .no (.tmp rfl rfl) rfl .h Ey (fun w92=>?_)
     refine bnd hF fun FM acn hF=>cO rfl rfl .no (.rd .h rfl .nil) (.own .q10 (fun _ h=>h) .nil) (fun ha=>bU awc.h (.cons (EN ha (.tmp rfl rfl) rfl) (.cons (EN ha (.tmp rfl rfl) rfl) .nil)) (Eg acn)) (fun p95=>?_)
     refine iq rfl .no rfl (fun ha=>bO (g:=true) (len:=1) (parts:=[(0,.tmp 94)]) fH.h dZ.h (.cons (EN ha (.tmp rfl rfl) rfl) .nil) (vs:=[(zg [(zi FM.Rel),p95.1.v])]) rfl rfl rfl (by intro v hv; simp at hv; rcases hv with rfl<;>rfl)) (fun k96=>?_)
     refine iR (.cons .h (.cons .h .nil)) (bQ (Ro:=gN) (E:=70) (F:=(p95.2++[])) (xs:=([FM]:List Fact)) (d_ xR bP cK) rfl rfl) ?_
     refine bnd hF fun z97 hx98 hF=>cO rfl rfl .no (.cons .q12 (.cons .h .nil)) (.dep rfl (.dep rfl .nil)) (fun ha=>dV (Ro:=gN) fH.h xS dZ.h rfl rfl rfl (EN ha (.tmp rfl rfl) rfl) (EN ha (.tmp rfl rfl) rfl) hx98 fw) (fun p99=>?_)
     refine du ?_
     refine cO rfl rfl .no (.cons .q11 .nil) (.dep rfl (.dep rfl .nil)) (fun ha=>gz (e':=(zg [p99.1.v,(zi (IntKind.i64.wrap (aS.Version+1)))])) WY.h.sz (EN ha (.tmp rfl rfl) rfl) (EN ha (.tmp rfl rfl) rfl) rfl rfl rfl rfl rfl) (fun _=>?_)
     refine du ?_
     cases hF
     exact⟨_,p99.1,p99.2,_,rfl,aA,ay⟩
   refine au ?_
   cases hF
   exact⟨_,v66,wX,_,rfl,aA,ay⟩
 rintro _ _ ⟨RB,Xi,acm,axm,rfl,rfl,hE⟩
 replace hF:=axl
 try dsimp only at hF
 refine bq hE ?_
 refine aY ?_
 rw[wk vP]
 exact⟨_,bX _,_,vP+1,Bv,_,Xi,acm,rfl,aA,Xh,ay,hF⟩
def Am(aa:aZ)(ak:qb):Option (aZ×Bool):=
 (AB aa).bind fun r4=>
 (qC aa).bind fun r8=>
 if (!r8)then (
   some (r4,false))
 else (
   (Oa aa.Schema aa.Source ak).bind fun Ns=>
   if (!Ns.2)then (
     some (r4,false))
   else (
     some ((⟨r4.Schema,r4.Methods,r4.Rules,Ns.1,r4.Cache,r4.Now,r4.Log,r4.Times,r4.Spent,r4.Results⟩:aZ),true)))
theorem Uy{aa:aZ}{ae aO cu dA dw dB dE dG:Sv}{ak:qb}{nG:Sv}{R:aZ×Bool}(hF:Am aa ak=some R):
   Fw.Spec Tryz.prog 98 [(zg [ae.v,aO.v,cu.v,dA.v,(zi aa.Source.Version),dw.v,(zi aa.Cache.Age),(zi aa.Now),dB.v,dE.v,(zi aa.Spent),dG.v]),(zg [(.bool ak.Add),(zi ak.Fact.Rel),nG.v])] [ah ae aa.Schema,bV aO aa.Methods,eY cu aa.Rules,bG dA aa.Source.Facts,dK dw aa.Cache.Entries,eD dB aa.Log,ah dE aa.Times,bC (aD 152 (aD 24 (aD 3 az))) dG.v aa.Results,ah nG ak.Fact.Values] (fun p:Sv×List Nat×Sv×List Nat×Sv×List Nat×Sv×List Nat×Sv×List Nat×Sv×List Nat×Sv×List Nat×Sv×List Nat=>(.tuple [(zg [p.1.v,p.2.2.1.v,p.2.2.2.2.1.v,p.2.2.2.2.2.2.1.v,(zi R.1.Source.Version),p.2.2.2.2.2.2.2.2.1.v,(zi R.1.Cache.Age),(zi R.1.Now),p.2.2.2.2.2.2.2.2.2.2.1.v,p.2.2.2.2.2.2.2.2.2.2.2.2.1.v,(zi R.1.Spent),p.2.2.2.2.2.2.2.2.2.2.2.2.2.2.1.v]),(.bool R.2)].toArray)) (fun p=>[bI p.2.1 p.1 R.1.Schema,nC p.2.2.2.1 p.2.2.1 R.1.Methods,mi p.2.2.2.2.2.1 p.2.2.2.2.1 R.1.Rules,eG p.2.2.2.2.2.2.2.1 p.2.2.2.2.2.2.1 R.1.Source.Facts,ol p.2.2.2.2.2.2.2.2.2.1 p.2.2.2.2.2.2.2.2.1 R.1.Cache.Entries,kF p.2.2.2.2.2.2.2.2.2.2.2.1 p.2.2.2.2.2.2.2.2.2.2.1 R.1.Log,bI p.2.2.2.2.2.2.2.2.2.2.2.2.2.1 p.2.2.2.2.2.2.2.2.2.2.2.2.1 R.1.Times,aU (aF 152 (aF 24 (aF 3 (aC az)))) p.2.2.2.2.2.2.2.2.2.2.2.2.2.2.2 p.2.2.2.2.2.2.2.2.2.2.2.2.2.2.1.v R.1.Results]):=by
 refine Se 30 Tryz.func98 [.cell 4 36,.tmp 5] ?_
 intro H0 F0
 unfold Am at hF
 refine au ?_
 refine bN (fun k1=>?_)
 refine bN (fun k2=>?_)
 refine dX (fun k3=>?_)
 refine bg ?_
 refine bnd hF fun r4 hx5 hF=>Ti (Oq hx5) (fun p6=>?_)
 refine dX (fun k7=>?_)
 refine As (zg [p6.1.v,p6.2.2.1.v,p6.2.2.2.2.1.v,p6.2.2.2.2.2.2.1.v,(zi r4.Source.Version),p6.2.2.2.2.2.2.2.2.1.v,(zi r4.Cache.Age),(zi r4.Now),p6.2.2.2.2.2.2.2.2.2.2.1.v,p6.2.2.2.2.2.2.2.2.2.2.2.2.1.v,(zi r4.Spent),p6.2.2.2.2.2.2.2.2.2.2.2.2.2.2.1.v]) ?_
 refine bg ?_
 refine bnd hF fun r8 bY hF=>bD (uG bY) (fun _=>?_)
 refine aT ?_
 refine Ci hF (fun Cs hF=>?_) (fun Cs hF=>?_)
 · refine aT ?_
   refine As (zg [p6.1.v,p6.2.2.1.v,p6.2.2.2.2.1.v,p6.2.2.2.2.2.2.1.v,(zi r4.Source.Version),p6.2.2.2.2.2.2.2.2.1.v,(zi r4.Cache.Age),(zi r4.Now),p6.2.2.2.2.2.2.2.2.2.2.1.v,p6.2.2.2.2.2.2.2.2.2.2.2.2.1.v,(zi r4.Spent),p6.2.2.2.2.2.2.2.2.2.2.2.2.2.2.1.v]) ?_
   refine bu ?_
   cases hF
   exact gQ (p6.1,p6.2.1,p6.2.2.1,p6.2.2.2.1,p6.2.2.2.2.1,p6.2.2.2.2.2.1,p6.2.2.2.2.2.2.1,p6.2.2.2.2.2.2.2.1,p6.2.2.2.2.2.2.2.2.1,p6.2.2.2.2.2.2.2.2.2.1,p6.2.2.2.2.2.2.2.2.2.2.1,p6.2.2.2.2.2.2.2.2.2.2.2.1,p6.2.2.2.2.2.2.2.2.2.2.2.2.1,p6.2.2.2.2.2.2.2.2.2.2.2.2.2.1,p6.2.2.2.2.2.2.2.2.2.2.2.2.2.2.1,p6.2.2.2.2.2.2.2.2.2.2.2.2.2.2.2) (.cellA rfl rfl .h rfl jl.h fG.h.sz rfl rfl (.tmp rfl rfl .nil)) rfl (.sel (.cons .q2 (.cons .q2 (.cons .q2 (.cons .q2 (.cons .q2 (.cons .q2 (.cons .q2 (.cons .q2 .nil)))))))))
 refine aY ?_
 refine fo .q11 (fun hp=>j3 (s:=2) (l:=[dA.v,(zi aa.Source.Version)]) xP.h u6.h.sz (.tmp rfl rfl) hp.2 rfl (by decide) (Nat.le_of_ble_eq_true rfl) rfl) ?_
 refine au ?_
 refine bnd hF fun Ns axn hF=>gy (alI axn) (fun TA=>?_)
 refine au ?_
 refine zx ?_
 refine zx ?_
 refine dX (fun k14=>?_)
 refine As (zg [TA.1.v,(zi Ns.1.Version)]) ?_
 refine bH ?_
 refine Ci hF (fun axo hF=>?_) (fun axo hF=>?_)
 · refine aT ?_
   refine As (zg [p6.1.v,p6.2.2.1.v,p6.2.2.2.2.1.v,p6.2.2.2.2.2.2.1.v,(zi r4.Source.Version),p6.2.2.2.2.2.2.2.2.1.v,(zi r4.Cache.Age),(zi r4.Now),p6.2.2.2.2.2.2.2.2.2.2.1.v,p6.2.2.2.2.2.2.2.2.2.2.2.2.1.v,(zi r4.Spent),p6.2.2.2.2.2.2.2.2.2.2.2.2.2.2.1.v]) ?_
   refine bu ?_
   cases hF
   exact gQ (p6.1,p6.2.1,p6.2.2.1,p6.2.2.2.1,p6.2.2.2.2.1,p6.2.2.2.2.2.1,p6.2.2.2.2.2.2.1,p6.2.2.2.2.2.2.2.1,p6.2.2.2.2.2.2.2.2.1,p6.2.2.2.2.2.2.2.2.2.1,p6.2.2.2.2.2.2.2.2.2.2.1,p6.2.2.2.2.2.2.2.2.2.2.2.1,p6.2.2.2.2.2.2.2.2.2.2.2.2.1,p6.2.2.2.2.2.2.2.2.2.2.2.2.2.1,p6.2.2.2.2.2.2.2.2.2.2.2.2.2.2.1,p6.2.2.2.2.2.2.2.2.2.2.2.2.2.2.2) (.cellA rfl rfl .h rfl jl.h fG.h.sz rfl rfl (.tmp rfl rfl .nil)) rfl (.sel (.cons .q4 (.cons .q4 (.cons .q4 (.cons .q4 (.cons .q4 (.cons .q4 (.cons .q4 (.cons .q4 .nil)))))))))
 refine bg ?_
 refine As (zg [p6.1.v,p6.2.2.1.v,p6.2.2.2.2.1.v,TA.1.v,(zi Ns.1.Version),p6.2.2.2.2.2.2.2.2.1.v,(zi r4.Cache.Age),(zi r4.Now),p6.2.2.2.2.2.2.2.2.2.2.1.v,p6.2.2.2.2.2.2.2.2.2.2.2.2.1.v,(zi r4.Spent),p6.2.2.2.2.2.2.2.2.2.2.2.2.2.2.1.v]) ?_
 refine bu ?_
 refine As (zg [p6.1.v,p6.2.2.1.v,p6.2.2.2.2.1.v,TA.1.v,(zi Ns.1.Version),p6.2.2.2.2.2.2.2.2.1.v,(zi r4.Cache.Age),(zi r4.Now),p6.2.2.2.2.2.2.2.2.2.2.1.v,p6.2.2.2.2.2.2.2.2.2.2.2.2.1.v,(zi r4.Spent),p6.2.2.2.2.2.2.2.2.2.2.2.2.2.2.1.v]) ?_
 refine bu ?_
 cases hF
 exact gQ (p6.1,p6.2.1,p6.2.2.1,p6.2.2.2.1,p6.2.2.2.2.1,p6.2.2.2.2.2.1,TA.1,TA.2,p6.2.2.2.2.2.2.2.2.1,p6.2.2.2.2.2.2.2.2.2.1,p6.2.2.2.2.2.2.2.2.2.2.1,p6.2.2.2.2.2.2.2.2.2.2.2.1,p6.2.2.2.2.2.2.2.2.2.2.2.2.1,p6.2.2.2.2.2.2.2.2.2.2.2.2.2.1,p6.2.2.2.2.2.2.2.2.2.2.2.2.2.2.1,p6.2.2.2.2.2.2.2.2.2.2.2.2.2.2.2) (.cellA rfl rfl .h rfl jl.h fG.h.sz rfl rfl (.tmp rfl rfl .nil)) rfl (.sel (.cons .q4 (.cons .q4 (.cons .q4 (.cons .q3 (.cons .q4 (.cons .q4 (.cons .q4 (.cons .q4 .nil)))))))))
def K7(ak:Cache)(lF:cB)(ek:Int):Option (Bool):=
 some ((decide ((lF.At:Int)<=ek))&&((decide (((IntKind.i64.wrap (ek-lF.At)):Int)<=ak.Age))&&(decide ((0:Int)<=lF.At))))
theorem ae9{ak:Cache}{ae:Sv}{lF:cB}{aV nG:Sv}{ek:Int}{R:Bool}(hF:K7 ak lF ek=some R):
   Fw.Spec Tryz.prog 160 [(zg [ae.v,(zi ak.Age)]),(zg [(zi lF.Access.Method),aV.v,nG.v,(zi lF.At)]),(zi ek)] [dK ae ak.Entries,ah aV lF.Access.Values,bG nG lF.Facts] (fun _:Unit=>(.bool R)) (fun _=>[]):=by
 refine Se 25 Tryz.func160 [.tmp 6] ?_
 intro H0 F0
 unfold K7 at hF
 refine au ?_
 refine bN (fun k1=>?_)
 refine bN (fun k2=>?_)
 refine bu ?_
 refine eX (fun f' cs'=>∃(g:Fr),f'=aQ g [(6,(.bool ((decide ((lF.At:Int)<=ek))&&((decide (((IntKind.i64.wrap (ek-lF.At)):Int)<=ak.Age))&&(decide ((0:Int)<=lF.At))))))]/\aN cs' []) ?_ ?_
 · refine aY ?_
   rcases bE (decide ((lF.At:Int)<=ek))with hg3|hg3
   · rw[hg3]
     try rw[hg3]at hF; dsimp only[aJ,aI]at hF
     refine Qf ?_
     rcases bE (decide (((IntKind.i64.wrap (ek-lF.At)):Int)<=ak.Age))with hg4|hg4
     · rw[hg4]
       try rw[hg4]at hF; dsimp only[aJ,aI]at hF
       refine gB ?_
       exact⟨_,aA,ay⟩
     rw[hg4]
     try rw[hg4]at hF; dsimp only[aJ,aI]at hF
     refine bB ?_
     exact⟨_,aA,ay⟩
   rw[hg3]
   try rw[hg3]at hF; dsimp only[aJ,aI]at hF
   refine asY ?_
   exact⟨_,aA,ay⟩
 rintro _ _ ⟨g5,rfl,hE⟩
 refine bq hE ?_
 exact ze hF
def DZ(ak:Cache)(ek:Int):List cB->Nat->(List cB)->Int->Option (Cache×Int)
 |[],vQ,lQ,nS=>some ((⟨lQ,ak.Age⟩:Cache),nS)
 |TC::Bw,vQ,lQ,nS=>((H6 TC).bind fun Ab=>
     (K7 ak TC ek).bind fun r69=>
     if r69 then (
       (app lQ ([Ab]:List cB)).bind fun z73=>
       some (z73,nS))
     else (
       some (lQ,(IntKind.i64.wrap (nS+1))))).bind fun o57=>
   match o57 with
   |(yQ,c80)=>DZ ak ek Bw (vQ+1) yQ c80
def Pn(ak:Cache)(ek:Int):Option (Cache×Int):=
 DZ ak ek ak.Entries 0 ([]:List cB) 0
theorem anu{ak:Cache}{ae:Sv}{ek:Int}{R:Cache×Int}(hF:Pn ak ek=some R):
   Fw.Spec Tryz.prog 136 [(zg [ae.v,(zi ak.Age)]),(zi ek)] [dK ae ak.Entries] (fun p:Sv×List Nat=>(.tuple [(zg [p.1.v,(zi R.1.Age)]),(zi R.2)].toArray)) (fun p=>[ol p.2 p.1 R.1.Entries]):=by
 refine Se 44 Tryz.func136 [.cell 4 32,.tmp 5] ?_
 intro H0 F0
 unfold Pn at hF
 refine au ?_
 refine bN (fun k1=>?_)
 refine dX (fun k2=>?_)
 refine aY ?_
 refine aP (iB oL.h rfl (vs:=[(zi ak.Age)]) b_ (cells:=[(.slice none 0 0),(zi ak.Age)]) rfl) ?_
 refine dX (fun k3=>?_)
 refine As (zg [(.slice none 0 0),(zi ak.Age)]) ?_
 refine dL ?_
 refine bi (bT (m:=ak.Entries.length) (fun m46 f' cs'=>∃(g:Fr)(vQ:Nat)(Bw lQ:List cB)(nS:Int)(v42:Sv)(wR:List Nat),m46=Bw.length/\f'=aQ g [(1,(zi ek)),(2,(pz k1)),(4,(pz k2)),(6,(pz k3)),(7,(zi nS)),(8,(zi (vQ:Int)))]/\List.drop vQ ak.Entries=Bw/\aN cs' [aX k1 32 (zg [ae.v,(zi ak.Age)]),dK ae ak.Entries,aW k2 32 (zg [(.slice none 0 0),(zi 0)]),aW k3 32 (zg [v42.v,(zi ak.Age)]),ol wR v42 lQ]/\DZ ak ek Bw vQ lQ nS=some R) ⟨_,0,_,_,_,⟨none,0,0⟩,[],rfl,aA,rfl,(.conv .nil (gT (Ro:=qM) (E:=47)) (.cons .nil) ay),hF⟩ ?_)
 rintro m46 _ _ ⟨g47,vQ,Bw,lQ,nS,v42,wR,rfl,rfl,ajL,hE,hF⟩
 refine Kb hE ak.Entries (fun aAI=>?_)
 rcases Bw with _|⟨TC,Bw⟩
 · have axp:=dn ajL
   rw[DZ]at hF
   refine dL ?_
   refine dJ ?_
   refine bH ?_
   refine As (zg [v42.v,(zi ak.Age)]) ?_
   refine bu ?_
   cases hF
   exact gQ (v42,wR) (.cellA rfl rfl .h rfl uu.h oL.h.sz rfl rfl (.tmp rfl rfl .nil)) rfl (.sel (.cons .q4 .nil))
 obtain⟨axp,MP,Xk⟩:=dz ajL
 rw[DZ]at hF
 refine dL ?_
 refine dI ?_
 refine au ?_
 obtain⟨o57,atw,axq⟩:=bind_some hF
 refine iC (fun f' cs'=>∃(yQ:List cB)(c80:Int)(v78:Sv)(F79:List Nat)(g:Fr),o57=(yQ,c80)/\f'=aQ g [(1,(zi ek)),(2,(pz k1)),(4,(pz k2)),(6,(pz k3)),(7,(zi c80)),(8,(zi (vQ:Int)))]/\aN cs' [aX k1 32 (zg [ae.v,(zi ak.Age)]),dK ae ak.Entries,aW k2 32 (zg [(.slice none 0 0),(zi 0)]),aW k3 32 (zg [v78.v,(zi ak.Age)]),ol F79 v78 yQ]) ?_ ?_
 · replace hF:=atw
   refine bi (dY (aP (iY (off:=0) VL.h (.tmp rfl rfl)) ?_))
   refine aT ?_
   refine Ai MP (fun k59 j60=>?_)
   refine xO (wu TC) xk (fun p61=>?_)
   refine bnd hF fun Ab Cr hF=>zV (Y7 Cr) (fun p64=>?_)
   refine dX (fun k65=>?_)
   refine As (zg [(zi Ab.Access.Method),p64.1.v,p64.2.2.1.v,(zi Ab.At)]) ?_
   refine au ?_
   refine dS [0,1,2,3,4,5,6,7] [0,0,2,0,14,30,0,127] [7] mixed (by decide+kernel) ?_
   refine nQ ?_
   refine Di MP (fun k66 j67=>?_)
   refine zJ (wu TC) xk (fun p68=>?_)
   refine du ?_
   refine bnd hF fun r69 axr hF=>eZ (ae9 axr) (fun _=>?_)
   refine du ?_
   refine Ci hF (fun abW hF=>?_) (fun abW hF=>?_)
   · refine bg ?_
     refine dF rfl (bO (g:=true) uw.h qj.h b_ (vs:=[(zg [(zi Ab.Access.Method),p64.1.v,p64.2.2.1.v,(zi Ab.At)])]) rfl rfl rfl (by intro v hv; simp at hv; rcases hv with rfl<;>rfl)) (fun k72=>?_)
     refine dP (.cons .h (.cons .q4 (.cons .q4 .nil))) (bQ (Ro:=qM) (E:=47) (F:=((p64.2.1++p64.2.2.2)++[])) (xs:=([Ab]:List cB)) (d_ WS bP cK) rfl rfl) ?_
     refine bnd hF fun z73 aco hF=>ed (.cons .q12 (.cons .h .nil)) (dV (Ro:=qM) uw.h MK qj.h rfl rfl rfl (.tmp rfl rfl) (.tmp rfl rfl) aco fw) (fun p75=>?_)
     refine au ?_
     refine As (zg [p75.1.v,(zi ak.Age)]) ?_
     refine au ?_
     cases hF
     exact⟨_,_,p75.1,p75.2,_,rfl,aA,ay⟩
   refine aY ?_
   cases hF
   exact⟨_,_,v42,wR,_,rfl,aA,ay⟩
 rintro _ _ ⟨yQ,c80,v78,F79,g82,rfl,rfl,hE⟩
 replace hF:=axq
 try dsimp only at hF
 refine bq hE ?_
 refine aY ?_
 rw[wk vQ]
 exact⟨_,bX _,_,vQ+1,Bw,_,_,v78,F79,rfl,aA,Xk,ay,hF⟩
def Aw(aa:aZ)(gU:Int):Option (aZ×Bool):=
 (AB aa).bind fun r3=>
 ((qC aa).bind fun r9=>
   bif (!r9)then (some true)
   else ((iO gU 1 100).bind fun oN=>
     bif (!oN)then (some true)
     else (some (decide ((10000:Int)<(IntKind.i64.wrap (aa.Now+gU))))))).bind fun o7=>
 match o7 with
 |c17=>if c17 then (
     some (r3,false))
   else (
     (Pn r3.Cache (IntKind.i64.wrap (aa.Now+gU))).bind fun ng=>
     some ((⟨r3.Schema,r3.Methods,r3.Rules,r3.Source,ng.1,(IntKind.i64.wrap (aa.Now+gU)),r3.Log,r3.Times,r3.Spent,r3.Results⟩:aZ),true))
theorem UH{aa:aZ}{ae aO cu dA dw dB dE dG:Sv}{gU:Int}{R:aZ×Bool}(hF:Aw aa gU=some R):
   Fw.Spec Tryz.prog 100 [(zg [ae.v,aO.v,cu.v,dA.v,(zi aa.Source.Version),dw.v,(zi aa.Cache.Age),(zi aa.Now),dB.v,dE.v,(zi aa.Spent),dG.v]),(zi gU)] [ah ae aa.Schema,bV aO aa.Methods,eY cu aa.Rules,bG dA aa.Source.Facts,dK dw aa.Cache.Entries,eD dB aa.Log,ah dE aa.Times,bC (aD 152 (aD 24 (aD 3 az))) dG.v aa.Results] (fun p:Sv×List Nat×Sv×List Nat×Sv×List Nat×Sv×List Nat×Sv×List Nat×Sv×List Nat×Sv×List Nat×Sv×List Nat=>(.tuple [(zg [p.1.v,p.2.2.1.v,p.2.2.2.2.1.v,p.2.2.2.2.2.2.1.v,(zi R.1.Source.Version),p.2.2.2.2.2.2.2.2.1.v,(zi R.1.Cache.Age),(zi R.1.Now),p.2.2.2.2.2.2.2.2.2.2.1.v,p.2.2.2.2.2.2.2.2.2.2.2.2.1.v,(zi R.1.Spent),p.2.2.2.2.2.2.2.2.2.2.2.2.2.2.1.v]),(.bool R.2)].toArray)) (fun p=>[bI p.2.1 p.1 R.1.Schema,nC p.2.2.2.1 p.2.2.1 R.1.Methods,mi p.2.2.2.2.2.1 p.2.2.2.2.1 R.1.Rules,eG p.2.2.2.2.2.2.2.1 p.2.2.2.2.2.2.1 R.1.Source.Facts,ol p.2.2.2.2.2.2.2.2.2.1 p.2.2.2.2.2.2.2.2.1 R.1.Cache.Entries,kF p.2.2.2.2.2.2.2.2.2.2.2.1 p.2.2.2.2.2.2.2.2.2.2.1 R.1.Log,bI p.2.2.2.2.2.2.2.2.2.2.2.2.2.1 p.2.2.2.2.2.2.2.2.2.2.2.2.1 R.1.Times,aU (aF 152 (aF 24 (aF 3 (aC az)))) p.2.2.2.2.2.2.2.2.2.2.2.2.2.2.2 p.2.2.2.2.2.2.2.2.2.2.2.2.2.2.1.v R.1.Results]):=by
 refine Se 43 Tryz.func100 [.cell 4 36,.tmp 5] ?_
 intro H0 F0
 unfold Aw at hF
 refine au ?_
 refine bN (fun k1=>?_)
 refine dX (fun k2=>?_)
 refine bg ?_
 refine bnd hF fun r3 hx4 hF=>Ti (Oq hx4) (fun p5=>?_)
 refine dX (fun k6=>?_)
 refine As (zg [p5.1.v,p5.2.2.1.v,p5.2.2.2.2.1.v,p5.2.2.2.2.2.2.1.v,(zi r3.Source.Version),p5.2.2.2.2.2.2.2.2.1.v,(zi r3.Cache.Age),(zi r3.Now),p5.2.2.2.2.2.2.2.2.2.2.1.v,p5.2.2.2.2.2.2.2.2.2.2.2.2.1.v,(zi r3.Spent),p5.2.2.2.2.2.2.2.2.2.2.2.2.2.2.1.v]) ?_
 refine aT ?_
 obtain⟨o7,axs,hO8⟩:=bind_some hF
 refine au ?_
 refine eX (fun f' cs'=>∃(c17:Bool)(g:Fr),c17=o7/\f'=aQ g [(1,(zi gU)),(2,(pz k1)),(4,(pz k2)),(6,(pz k6)),(25,(.bool c17))]/\aN cs' [aX k1 36 (zg [ae.v,aO.v,cu.v,dA.v,(zi aa.Source.Version),dw.v,(zi aa.Cache.Age),(zi aa.Now),dB.v,dE.v,(zi aa.Spent),dG.v]),ah ae aa.Schema,bV aO aa.Methods,eY cu aa.Rules,bG dA aa.Source.Facts,dK dw aa.Cache.Entries,eD dB aa.Log,ah dE aa.Times,bC (aD 152 (aD 24 (aD 3 az))) dG.v aa.Results,aW k2 36 (.agg ([(.slice none 0 0),(.slice none 0 0),(.slice none 0 0),(.slice none 0 0),(zi 0),(.slice none 0 0),(zi 0),(zi 0),(.slice none 0 0),(.slice none 0 0),(zi 0),(.slice none 0 0)]:List Value).toArray),aW k6 36 (zg [p5.1.v,p5.2.2.1.v,p5.2.2.2.2.1.v,p5.2.2.2.2.2.2.1.v,(zi r3.Source.Version),p5.2.2.2.2.2.2.2.2.1.v,(zi r3.Cache.Age),(zi r3.Now),p5.2.2.2.2.2.2.2.2.2.2.1.v,p5.2.2.2.2.2.2.2.2.2.2.2.2.1.v,(zi r3.Spent),p5.2.2.2.2.2.2.2.2.2.2.2.2.2.2.1.v]),bI p5.2.1 p5.1 r3.Schema,nC p5.2.2.2.1 p5.2.2.1 r3.Methods,mi p5.2.2.2.2.2.1 p5.2.2.2.2.1 r3.Rules,eG p5.2.2.2.2.2.2.2.1 p5.2.2.2.2.2.2.1 r3.Source.Facts,ol p5.2.2.2.2.2.2.2.2.2.1 p5.2.2.2.2.2.2.2.2.1 r3.Cache.Entries,kF p5.2.2.2.2.2.2.2.2.2.2.2.1 p5.2.2.2.2.2.2.2.2.2.2.1 r3.Log,bI p5.2.2.2.2.2.2.2.2.2.2.2.2.2.1 p5.2.2.2.2.2.2.2.2.2.2.2.2.1 r3.Times,aU (aF 152 (aF 24 (aF 3 (aC az)))) p5.2.2.2.2.2.2.2.2.2.2.2.2.2.2.2 p5.2.2.2.2.2.2.2.2.2.2.2.2.2.2.1.v r3.Results]) ?_ ?_
 · replace hF:=axs
   refine au ?_
   refine bnd hF fun r9 jm hF=>bD (uG jm) (fun _=>?_)
   refine aT ?_
   rcases bE (!r9)with lC|lC
   · rw[lC]
     try rw[lC]at hF; dsimp only[aJ,aI]at hF
     exact bJ hF
   rw[lC]
   try rw[lC]at hF; dsimp only[aJ,aI]at hF
   refine bu ?_
   refine bnd hF fun oN j5 hF=>bD (jR j5) (fun _=>?_)
   refine bg ?_
   rcases bE (!oN)with yn|yn
   · rw[yn]
     try rw[yn]at hF; dsimp only[aJ,aI]at hF
     exact bJ hF
   rw[yn]
   try rw[yn]at hF; dsimp only[aJ,aI]at hF
   exact bJ hF
 rintro _ _ ⟨c17,g23,rfl,rfl,hE⟩
 replace hF:=hO8
 try dsimp only at hF
 refine bq hE ?_
 refine Ci hF (fun ve hF=>?_) (fun ve hF=>?_)
 · refine aT ?_
   refine As (zg [p5.1.v,p5.2.2.1.v,p5.2.2.2.2.1.v,p5.2.2.2.2.2.2.1.v,(zi r3.Source.Version),p5.2.2.2.2.2.2.2.2.1.v,(zi r3.Cache.Age),(zi r3.Now),p5.2.2.2.2.2.2.2.2.2.2.1.v,p5.2.2.2.2.2.2.2.2.2.2.2.2.1.v,(zi r3.Spent),p5.2.2.2.2.2.2.2.2.2.2.2.2.2.2.1.v]) ?_
   refine bu ?_
   cases hF
   exact gQ (p5.1,p5.2.1,p5.2.2.1,p5.2.2.2.1,p5.2.2.2.2.1,p5.2.2.2.2.2.1,p5.2.2.2.2.2.2.1,p5.2.2.2.2.2.2.2.1,p5.2.2.2.2.2.2.2.2.1,p5.2.2.2.2.2.2.2.2.2.1,p5.2.2.2.2.2.2.2.2.2.2.1,p5.2.2.2.2.2.2.2.2.2.2.2.1,p5.2.2.2.2.2.2.2.2.2.2.2.2.1,p5.2.2.2.2.2.2.2.2.2.2.2.2.2.1,p5.2.2.2.2.2.2.2.2.2.2.2.2.2.2.1,p5.2.2.2.2.2.2.2.2.2.2.2.2.2.2.2) (.cellA rfl rfl .h rfl jl.h fG.h.sz rfl rfl (.tmp rfl rfl .nil)) rfl (.sel (.cons .q11 (.cons .q11 (.cons .q11 (.cons .q11 (.cons .q11 (.cons .q11 (.cons .q11 (.cons .q11 .nil)))))))))
 refine bH ?_
 refine As (zg [p5.1.v,p5.2.2.1.v,p5.2.2.2.2.1.v,p5.2.2.2.2.2.2.1.v,(zi r3.Source.Version),p5.2.2.2.2.2.2.2.2.1.v,(zi r3.Cache.Age),(zi (IntKind.i64.wrap (aa.Now+gU))),p5.2.2.2.2.2.2.2.2.2.2.1.v,p5.2.2.2.2.2.2.2.2.2.2.2.2.1.v,(zi r3.Spent),p5.2.2.2.2.2.2.2.2.2.2.2.2.2.2.1.v]) ?_
 refine bu ?_
 refine fo .h (fun hp=>j3 (s:=2) (l:=[p5.2.2.2.2.2.2.2.2.1.v,(zi r3.Cache.Age)]) uu.h oL.h.sz (.tmp rfl rfl) hp.2 rfl (by decide) (Nat.le_of_ble_eq_true rfl) rfl) ?_
 refine aT ?_
 refine bnd hF fun ng kM hF=>uq (.cons (.t (.t (.t (.t (.t (.t (.t (.t (.t (.t (.t (.t (.t (.t (.t .h))))))))))))))) .nil) (jT aG (fun _=>(.cons .nil)) (bU asw.h b_ (anu kM))) (fun l_=>?_)
 refine au ?_
 refine zx ?_
 refine zx ?_
 refine dX (fun k21=>?_)
 refine As (zg [l_.1.v,(zi ng.1.Age)]) ?_
 refine aY ?_
 refine As (zg [p5.1.v,p5.2.2.1.v,p5.2.2.2.2.1.v,p5.2.2.2.2.2.2.1.v,(zi r3.Source.Version),l_.1.v,(zi ng.1.Age),(zi (IntKind.i64.wrap (aa.Now+gU))),p5.2.2.2.2.2.2.2.2.2.2.1.v,p5.2.2.2.2.2.2.2.2.2.2.2.2.1.v,(zi r3.Spent),p5.2.2.2.2.2.2.2.2.2.2.2.2.2.2.1.v]) ?_
 refine bu ?_
 refine As (zg [p5.1.v,p5.2.2.1.v,p5.2.2.2.2.1.v,p5.2.2.2.2.2.2.1.v,(zi r3.Source.Version),l_.1.v,(zi ng.1.Age),(zi (IntKind.i64.wrap (aa.Now+gU))),p5.2.2.2.2.2.2.2.2.2.2.1.v,p5.2.2.2.2.2.2.2.2.2.2.2.2.1.v,(zi r3.Spent),p5.2.2.2.2.2.2.2.2.2.2.2.2.2.2.1.v]) ?_
 refine bu ?_
 cases hF
 exact gQ (p5.1,p5.2.1,p5.2.2.1,p5.2.2.2.1,p5.2.2.2.2.1,p5.2.2.2.2.2.1,p5.2.2.2.2.2.2.1,p5.2.2.2.2.2.2.2.1,l_.1,l_.2,p5.2.2.2.2.2.2.2.2.2.2.1,p5.2.2.2.2.2.2.2.2.2.2.2.1,p5.2.2.2.2.2.2.2.2.2.2.2.2.1,p5.2.2.2.2.2.2.2.2.2.2.2.2.2.1,p5.2.2.2.2.2.2.2.2.2.2.2.2.2.2.1,p5.2.2.2.2.2.2.2.2.2.2.2.2.2.2.2) (.cellA rfl rfl .h rfl jl.h fG.h.sz rfl rfl (.tmp rfl rfl .nil)) rfl (.sel (.cons .q14 (.cons .q14 (.cons .q14 (.cons .q14 (.cons .q4 (.cons .q13 (.cons .q13 (.cons .q13 .nil)))))))))
def Ba(iN:Int):Option (Bool):=
 (iO iN 10 17).bind fun r1=>
 some r1
theorem K8{iN:Int}{R:Bool}(hF:Ba iN=some R):
   Fw.Spec Tryz.prog 176 [(zi iN)] [] (fun _:Unit=>(.bool R)) (fun _=>[]):=by
 refine Se 5 Tryz.func176 [.tmp 2] ?_
 intro H0 F0
 unfold Ba at hF
 refine aY ?_
 refine bnd hF fun r1 hx2 hF=>bD (jR hx2) (fun _=>?_)
 exact ze hF
def K9(aS:Int):List Int->Nat->Option (Bool)
 |[],k4=>some false
 |x6::aM,k4=>if ((x6:Int)==aS)then (
     some true)
   else (
     K9 aS aM (k4+1))
def Bb(ai:List Int)(aS:Int):Option (Bool):=
 K9 aS ai 0
theorem O0{ai:List Int}{ae:Sv}{aS:Int}{R:Bool}(hF:Bb ai aS=some R):
   Fw.Spec Tryz.prog 162 [ae.v,(zi aS)] [ah ae ai] (fun _:Unit=>(.bool R)) (fun _=>[]):=by
 refine Se 18 Tryz.func162 [.tmp 4] ?_
 intro H0 F0
 unfold Bb at hF
 refine bH ?_
 refine bi (bT (m:=ai.length) (fun m2 f' cs'=>∃(g:Fr)(k4:Nat)(aM:List Int),m2=aM.length/\f'=aQ g [(0,ae.v),(1,(zi aS)),(5,(zi (k4:Int)))]/\List.drop k4 ai=aM/\aN cs' [ah ae ai]/\K9 aS aM k4=some R) ⟨_,0,_,rfl,aA,rfl,ay,hF⟩ ?_)
 rintro m2 _ _ ⟨g3,k4,aM,rfl,rfl,hd7,hE,hF⟩
 refine Kb hE ai (fun kT=>?_)
 rcases aM with _|⟨x6,aM⟩
 · have gF:=dn hd7
   rw[K9]at hF
   refine bH ?_
   refine dJ ?_
   exact ze hF
 obtain⟨gF,bY,gD⟩:=dz hd7
 rw[K9]at hF
 refine bH ?_
 refine dI ?_
 refine aY ?_
 refine Ai bY (fun k13 oz=>?_)
 refine Al dN ?_
 refine bu ?_
 refine Ci hF (fun Cs hF=>?_) (fun Cs hF=>?_)
 · exact ze hF
 refine bB ?_
 rw[wk k4]
 exact⟨_,bX _,_,k4+1,aM,rfl,aA,gD,ay,hF⟩
def H_(ai:List Int)(aS:Int):Nat->(List Int)->Bool->Int->Option ((List Int))
 |0,_,_,_=>none
 |m10+1,c5,c8,c9=>if (decide ((c9:Int)<(ai.length:Int)))then (
     ((bif (!c8)then ((ix ai c9).bind fun nK=>
           some (decide ((aS:Int)<nK)))
         else (some false)).bind fun FN=>
       match FN with
       |qz=>if qz then (
           (app c5 ([aS]:List Int)).bind fun z32=>
           (ix ai c9).bind fun x38=>
           (app z32 ([x38]:List Int)).bind fun z43=>
           some (z43,true))
         else (
           (ix ai c9).bind fun TD=>
           (app c5 ([TD]:List Int)).bind fun z54=>
           some (z54,c8))).bind fun kN=>
     match kN with
     |(c59,rD)=>H_ ai aS m10 c59 rD (IntKind.i64.wrap (c9+1)))
   else (
     if (!c8)then (
       (app c5 ([aS]:List Int)).bind fun z65=>
       some z65)
     else (
       some c5))
def IA(ai:List Int)(aS:Int):Option ((List Int)):=
 (Bb ai aS).bind fun r1=>
 if r1 then (
   some ai)
 else (
   H_ ai aS (((ai.length:Int)-0).toNat+2) ([]:List Int) false 0)
theorem Zy{ai:List Int}{ae:Sv}{wN:List Nat}{aS:Int}{R:(List Int)}(hF:IA ai aS=some R):
   Fw.Spec Tryz.prog 177 [ae.v,(zi aS)] [bI wN ae ai] (fun p:Sv×List Nat=>p.1.v) (fun p=>[bI p.2 p.1 R]):=by
 refine Se 47 Tryz.func177 [.tmp 4] ?_
 intro H0 F0
 unfold IA at hF
 refine bH ?_
 refine bnd hF fun r1 hx2 hF=>ed (.cons .h .nil) (jT aG (fun _=>.nil) (bU V3.h b_ (O0 hx2))) (fun _=>?_)
 refine au ?_
 refine Ci hF (fun axt hF=>?_) (fun axt hF=>?_)
 · refine aY ?_
   cases hF
   exact Er (ae,wN)
 refine aT ?_
 refine dF rfl (bO (g:=true) dh.h dx.h .nil (vs:=[]) rfl rfl rfl (by simp)) (fun k4=>?_)
 refine dP (.cons .h .nil) (bQ (Ro:=(aC az)) (E:=3) (F:=[]) (xs:=([]:List Int)) bP rfl rfl) ?_
 refine gB ?_
 refine bi (bT (m:=(((ai.length:Int)-0).toNat+2)) (fun m10 f' cs'=>∃(g:Fr)(c5:List Int)(c8:Bool)(c9:Int)(v6:Sv)(F7:List Nat),f'=aQ g [(0,ae.v),(1,(zi aS)),(5,v6.v),(6,(.bool c8)),(7,(zi c9))]/\aN cs' [bI wN ae ai,bI F7 v6 c5]/\H_ ai aS m10 c5 c8 c9=some R) ⟨_,_,_,_,⟨(some ⟨k4,0,none⟩),0,1⟩,(k4::[]),aA,ay,hF⟩ ?_)
 rintro m10 _ _ ⟨g11,c5,c8,c9,v6,F7,rfl,hE,hF⟩
 refine bq hE ?_
 rcases m10 with _|m10
 · rw[H_]at hF
   exact absurd hF (by simp)
 rw[H_]at hF
 refine bH ?_
 refine Ci hF (fun abX hF=>?_) (fun abX hF=>?_)
 · refine au ?_
   obtain⟨kN,uR,vD⟩:=bind_some hF
   refine iC (fun f' cs'=>∃(c59:List Int)(rD:Bool)(v60:Sv)(F61:List Nat)(g:Fr),kN=(c59,rD)/\f'=aQ g [(0,ae.v),(1,(zi aS)),(5,v60.v),(6,(.bool rD)),(7,(zi c9))]/\aN cs' [bI wN ae ai,bI F61 v60 c59]) ?_ ?_
   · replace hF:=uR
     refine bi (lX ?_)
     obtain⟨FN,aaQ,acp⟩:=bind_some hF
     refine au ?_
     refine eX (fun f' cs'=>∃(qz:Bool)(g:Fr),qz=FN/\f'=aQ g [(0,ae.v),(1,(zi aS)),(5,v6.v),(6,(.bool c8)),(7,(zi c9)),(28,(.bool qz))]/\aN cs' [bI wN ae ai,bI F7 v6 c5]) ?_ ?_
     · replace hF:=aaQ
       refine bu ?_
       rcases bE (!c8)with ym|ym
       · rw[ym]
         try rw[ym]at hF; dsimp only[aJ,aI]at hF
         refine aY ?_
         refine bnd hF fun nK hx27 hF=>?_
         have axu:=aaf hx27
         obtain⟨Xl,hx29⟩:=Ev hx27
         refine PN dh.h dx.h.sz (.tmp rfl rfl) (.tmp rfl rfl) .h axu (fun k23 Jg=>?_)
         refine au ?_
         refine aaw (w:=(zi nK)) pU.h (.tmp rfl rfl) .h Jg hx29 aaA ?_
         exact bJ hF
       rw[ym]
       try rw[ym]at hF; dsimp only[aJ,aI]at hF
       exact bJ hF
     rintro _ _ ⟨qz,g58,rfl,rfl,hE⟩
     replace hF:=acp
     try dsimp only at hF
     refine bq hE ?_
     refine Ci hF (fun CB hF=>?_) (fun CB hF=>?_)
     · refine bu ?_
       refine dF rfl (bO (g:=true) dh.h dx.h b_ (vs:=[(zi aS)]) rfl rfl rfl (by intro v hv; simp at hv; rcases hv with rfl<;>rfl)) (fun FJ=>?_)
       refine dP (.cons .h .nil) (bQ (Ro:=(aC az)) (E:=3) (F:=([]++[])) (xs:=([aS]:List Int)) (d_ (jh (fun _=>rfl)) bP cK) rfl rfl) ?_
       refine bnd hF fun z32 vv hF=>ed (.cons .q2 (.cons .h .nil)) (dV (Ro:=(aC az)) dh.h iQ dx.h rfl rfl rfl (.tmp rfl rfl) (.tmp rfl rfl) vv fw) (fun p34=>?_)
       refine gB ?_
       refine bnd hF fun x38 hx39 hF=>?_
       have axv:=aaf hx39
       obtain⟨ajM,Jh⟩:=Ev hx39
       refine PN dh.h dx.h.sz (.tmp rfl rfl) (.tmp rfl rfl) (.t .h) axv (fun nk axw=>?_)
       refine aaw (w:=(zi x38)) pU.h (.tmp rfl rfl) (.t .h) axw Jh aaA ?_
       refine dF rfl (bO (g:=true) dh.h dx.h b_ (vs:=[(zi x38)]) rfl rfl rfl (by intro v hv; simp at hv; rcases hv with rfl<;>rfl)) (fun Yf=>?_)
       refine dP (.cons .h .nil) (bQ (Ro:=(aC az)) (E:=3) (F:=([]++[])) (xs:=([x38]:List Int)) (d_ (jh (fun _=>rfl)) bP cK) rfl rfl) ?_
       refine bnd hF fun z43 Rc hF=>ed (.cons (.t .h) (.cons .h .nil)) (dV (Ro:=(aC az)) dh.h iQ dx.h rfl rfl rfl (.tmp rfl rfl) (.tmp rfl rfl) Rc fw) (fun p45=>?_)
       refine aT ?_
       cases hF
       exact⟨_,_,p45.1,p45.2,_,rfl,aA,ay⟩
     refine aY ?_
     refine bnd hF fun TD MQ hF=>?_
     have axx:=aaf MQ
     obtain⟨aCX,Ji⟩:=Ev MQ
     refine PN dh.h dx.h.sz (.tmp rfl rfl) (.tmp rfl rfl) .h axx (fun k46 axy=>?_)
     refine aaw (w:=(zi TD)) pU.h (.tmp rfl rfl) .h axy Ji aaA ?_
     refine dF rfl (bO (g:=true) dh.h dx.h b_ (vs:=[(zi TD)]) rfl rfl rfl (by intro v hv; simp at hv; rcases hv with rfl<;>rfl)) (fun k53=>?_)
     refine dP (.cons .h .nil) (bQ (Ro:=(aC az)) (E:=3) (F:=([]++[])) (xs:=([TD]:List Int)) (d_ (jh (fun _=>rfl)) bP cK) rfl rfl) ?_
     refine bnd hF fun z54 Jf hF=>ed (.cons .q2 (.cons .h .nil)) (dV (Ro:=(aC az)) dh.h iQ dx.h rfl rfl rfl (.tmp rfl rfl) (.tmp rfl rfl) Jf fw) (fun p56=>?_)
     refine aT ?_
     cases hF
     exact⟨_,_,p56.1,p56.2,_,rfl,aA,ay⟩
   rintro _ _ ⟨c59,rD,v60,F61,g63,rfl,rfl,hE⟩
   replace hF:=vD
   try dsimp only at hF
   refine bq hE ?_
   refine aY ?_
   exact⟨m10,bX _,_,_,_,_,v60,F61,aA,ay,hF⟩
 refine gB ?_
 refine Ci hF (fun axz hF=>?_) (fun axz hF=>?_)
 · refine bu ?_
   refine dF rfl (bO (g:=true) dh.h dx.h b_ (vs:=[(zi aS)]) rfl rfl rfl (by intro v hv; simp at hv; rcases hv with rfl<;>rfl)) (fun k64=>?_)
   refine dP (.cons .h .nil) (bQ (Ro:=(aC az)) (E:=3) (F:=([]++[])) (xs:=([aS]:List Int)) (d_ (jh (fun _=>rfl)) bP cK) rfl rfl) ?_
   refine bnd hF fun z65 acr hF=>ed (.cons .q2 (.cons .h .nil)) (dV (Ro:=(aC az)) dh.h iQ dx.h rfl rfl rfl (.tmp rfl rfl) (.tmp rfl rfl) acr fw) (fun p67=>?_)
   refine bH ?_
   cases hF
   exact Er (p67.1,p67.2)
 refine bB ?_
 cases hF
 exact Er (v6,F7)
def Ec(iL:Atom):Nat->(List Int)->Int->Option ((List Int))
 |0,_,_=>none
 |m24+1,c20,c23=>if (decide ((c23:Int)<(iL.Terms.length:Int)))then (
     ((ix iL.Terms c23).bind fun x40=>
       (Ba x40).bind fun wT=>
       if wT then (
         (ix iL.Terms c23).bind fun TE=>
         (IA c20 TE).bind fun rY=>
         some rY)
       else (
         some c20)).bind fun yV=>
     match yV with
     |rD=>Ec iL m24 rD (IntKind.i64.wrap (c23+1)))
   else (
     some c20)
def Hu:List Atom->Nat->(List Int)->Option ((List Int))
 |[],k9,c3=>some c3
 |iL::gI,k9,c3=>(Ec iL (((iL.Terms.length:Int)-0).toNat+2) c3 0).bind fun kN=>
   match kN with
   |yX=>Hu gI (k9+1) yX
def Iu(aK:Query):Option ((List Int)):=
 Hu aK.Atoms 0 ([]:List Int)
theorem Zk{aK:Query}{ae aO:Sv}{R:(List Int)}(hF:Iu aK=some R):
   Fw.Spec Tryz.prog 141 [(zg [ae.v,aO.v])] [ah ae aK.Head,eQ aO aK.Atoms] (fun p:Sv×List Nat=>p.1.v) (fun p=>[bI p.2 p.1 R]):=by
 refine Se 47 Tryz.func141 [.tmp 2] ?_
 intro H0 F0
 unfold Iu at hF
 refine au ?_
 refine bN (fun k1=>?_)
 refine bu ?_
 refine dF rfl (bO (g:=true) dh.h dx.h .nil (vs:=[]) rfl rfl rfl (by simp)) (fun k2=>?_)
 refine dP (.cons .h .nil) (bQ (Ro:=(aC az)) (E:=3) (F:=[]) (xs:=([]:List Int)) bP rfl rfl) ?_
 refine bB ?_
 refine bi (bT (m:=aK.Atoms.length) (fun m7 f' cs'=>∃(g:Fr)(k9:Nat)(gI:List Atom)(c3:List Int)(v4:Sv)(F5:List Nat),m7=gI.length/\f'=aQ g [(1,(pz k1)),(3,v4.v),(4,(zi (k9:Int)))]/\List.drop k9 aK.Atoms=gI/\aN cs' [aX k1 120 (zg [ae.v,aO.v]),ah ae aK.Head,eQ aO aK.Atoms,bI F5 v4 c3]/\Hu gI k9 c3=some R) ⟨_,0,_,_,⟨(some ⟨k2,0,none⟩),0,1⟩,(k2::[]),rfl,aA,rfl,ay,hF⟩ ?_)
 rintro m7 _ _ ⟨g8,k9,gI,c3,v4,F5,rfl,rfl,mK,hE,hF⟩
 refine Kb hE aK.Atoms (fun Qh=>?_)
 rcases gI with _|⟨iL,gI⟩
 · have yo:=dn mK
   rw[Hu]at hF
   refine dL ?_
   refine dJ ?_
   refine gB ?_
   cases hF
   exact Er (v4,F5)
 obtain⟨yo,j5,qY⟩:=dz mK
 rw[Hu]at hF
 refine dL ?_
 refine dI ?_
 refine au ?_
 obtain⟨kN,uR,vD⟩:=bind_some hF
 refine iC (fun f' cs'=>∃(yX:List Int)(v68:Sv)(JN:List Nat)(g:Fr),yX=kN/\f'=aQ g [(1,(pz k1)),(3,v68.v),(4,(zi (k9:Int)))]/\aN cs' [aX k1 120 (zg [ae.v,aO.v]),ah ae aK.Head,eQ aO aK.Atoms,bI JN v68 yX]) ?_ ?_
 · replace hF:=uR
   refine bi (dY (aP (jU (v:=(zi 0)) (.int _ _)) ?_))
   refine au ?_
   refine bi (bT (m:=(((iL.Terms.length:Int)-0).toNat+2)) (fun m24 f' cs'=>∃(g:Fr)(c20:List Int)(c23:Int)(v21:Sv)(uD:List Nat),f'=aQ g [(1,(pz k1)),(3,v21.v),(4,(zi (k9:Int))),(5,(zi c23))]/\aN cs' [aX k1 120 (zg [ae.v,aO.v]),ah ae aK.Head,eQ aO aK.Atoms,bI uD v21 c20]/\Ec iL m24 c20 c23=some kN) ⟨_,_,_,v4,F5,aA,ay,hF⟩ ?_)
   rintro m24 _ _ ⟨Tp,c20,c23,v21,uD,rfl,hE,hF⟩
   refine bq hE ?_
   rcases m24 with _|m24
   · rw[Ec]at hF
     exact absurd hF (by simp)
   rw[Ec]at hF
   refine bB ?_
   refine Ai j5 (fun Tv j33=>?_)
   refine au ?_
   refine uL (R':=(aD 3 az)) iA.h (.tmp rfl rfl) .h zn (fun w34=>?_)
   refine bu ?_
   refine Ci hF (fun RF hF=>?_) (fun RF hF=>?_)
   · refine au ?_
     obtain⟨yV,Qi,RG⟩:=bind_some hF
     refine iC (fun f' cs'=>∃(rD:List Int)(v63:Sv)(JO:List Nat)(g:Fr),rD=yV/\f'=aQ g [(1,(pz k1)),(3,v63.v),(4,(zi (k9:Int))),(5,(zi c23))]/\aN cs' [aX k1 120 (zg [ae.v,aO.v]),ah ae aK.Head,eQ aO aK.Atoms,bI JO v63 rD]) ?_ ?_
     · replace hF:=Qi
       refine bi (dY (aP (iY (off:=1) Z9.h (.tmp rfl rfl)) ?_))
       refine aT ?_
       refine Ai j5 (fun Tt Tu=>?_)
       refine au ?_
       refine uL (R':=(aD 3 az)) iA.h (.tmp rfl rfl) .h zn (fun w39=>?_)
       refine au ?_
       refine zI hF fun x40 ajA ql hF=>?_
       refine Ai ql (fun Yg Yh=>?_)
       refine Al dN ?_
       refine bnd hF fun wT Cw hF=>bD (K8 Cw) (fun _=>?_)
       refine au ?_
       refine Ci hF (fun I7 hF=>?_) (fun I7 hF=>?_)
       · refine aY ?_
         refine Ai j5 (fun Tj Yr=>?_)
         refine au ?_
         refine uL (R':=(aD 3 az)) iA.h (.tmp rfl rfl) .h zn (fun w51=>?_)
         refine au ?_
         refine zI hF fun TE axA Jf hF=>?_
         refine Ai Jf (fun k56 j57=>?_)
         refine Al dN ?_
         refine bnd hF fun rY Cq hF=>gy (Zy Cq) (fun p60=>?_)
         refine aT ?_
         cases hF
         exact⟨_,p60.1,p60.2,_,rfl,aA,ay⟩
       refine au ?_
       cases hF
       exact⟨_,v21,uD,_,rfl,aA,ay⟩
     rintro _ _ ⟨rD,v63,JO,g65,rfl,rfl,hE⟩
     replace hF:=RG
     try dsimp only at hF
     refine bq hE ?_
     refine aY ?_
     exact⟨m24,bX _,_,_,_,v63,JO,aA,ay,hF⟩
   refine bg ?_
   cases hF
   exact⟨_,v21,uD,_,rfl,aA,ay⟩
 rintro _ _ ⟨yX,v68,JN,g71,rfl,rfl,hE⟩
 replace hF:=vD
 try dsimp only at hF
 refine bq hE ?_
 refine aY ?_
 rw[wk k9]
 exact⟨_,bX _,_,k9+1,gI,_,v68,JN,rfl,aA,qY,ay,hF⟩
def GX(ak:bv)(ag:List Int)(c119:List Atom)(pG:Int×bv):Nat->Int->Int->(List Int)->Int->Option (Int×Int×(List Atom))
 |0,_,_,_,_=>none
 |Jj+1,tF,tH,CE,c182=>(ix ag pG.1).bind fun ajN=>
   if (decide ((c182:Int)<ajN))then (
     ((kw (⟨ak.b,tF,tH⟩:bv) 4).bind fun MR=>
       (Eo (⟨ak.b,MR.2.i,MR.2.h⟩:bv) 4).bind fun MS=>
       if MS.1 then (
         (kw (⟨ak.b,MS.2.i,MS.2.h⟩:bv) 4).bind fun zL=>
         (app CE ([zL.1]:List Int)).bind fun ajO=>
         some (zL.2.i,zL.2.h,ajO))
       else (
         (app CE ([(IntKind.i64.wrap (10+MR.1))]:List Int)).bind fun z213=>
         some (MS.2.i,MS.2.h,z213))).bind fun Jk=>
     match Jk with
     |(RH,c218,RI)=>GX ak ag c119 pG Jj RH c218 RI (IntKind.i64.wrap (c182+1)))
   else (
     (app c119 ([(⟨pG.1,CE⟩:Atom)]:List Atom)).bind fun ajP=>
     some (tF,tH,ajP))
def GY(ak:bv)(c119:List Atom):Nat->Int->Int->(List Int)->(List Int)->Int->Option (Query×bv)
 |0,_,_,_,_,_=>none
 |Jl+1,Jm,Jn,zM,yt,yu=>if ((decide ((yu:Int)<(yt.length:Int)))&&(decide (((zM.length:Int):Int)<2)))then (
     ((Eo (⟨ak.b,Jm,Jn⟩:bv) 2).bind fun MU=>
       if MU.1 then (
         (ix yt yu).bind fun Xm=>
         (app zM ([Xm]:List Int)).bind fun ajQ=>
         some (MU.2.i,MU.2.h,ajQ))
       else (
         some (MU.2.i,MU.2.h,zM))).bind fun acu=>
     match acu with
     |(RJ,RL,RN)=>GY ak c119 Jl RJ RL RN yt (IntKind.i64.wrap (yu+1)))
   else (
     some ((⟨zM,c119⟩:Query),(⟨ak.b,Jm,Jn⟩:bv)))
def GZ(ak:bv)(ag:List Int)(fuel:Nat):Nat->Int->Int->(List Atom)->Int->Option (Query×bv)
 |0,_,_,_,_=>none
 |Jo+1,c117,MV,c119,qZ=>if (decide ((0:Int)<qZ))then (
     ((kw (⟨ak.b,c117,MV⟩:bv) (ag.length:Int)).bind fun pG=>
       GX ak ag c119 pG fuel pG.2.i pG.2.h ([]:List Int) 0).bind fun Xn=>
     match Xn with
     |(c228,c229,yw)=>GZ ak ag fuel Jo c228 c229 yw (IntKind.i64.wrap (qZ-1)))
   else (
     (Iu (⟨[],c119⟩:Query)).bind fun Xo=>
     GY ak c119 (((Xo.length:Int)-0).toNat+2) c117 MV ([]:List Int) Xo 0)
def Ii(fuel:Nat)(ak:bv)(ag:List Int):Option (Query×bv):=
 (kw ak 3).bind fun r3=>
 GZ ak ag fuel (((IntKind.i64.wrap (1+r3.1))-0).toNat+2) r3.2.i r3.2.h ([]:List Atom) (IntKind.i64.wrap (1+r3.1))
theorem UT{fuel cz:Nat}{ak:bv}{ae:Sv}{ag:List Int}{ax:Sv}{R:Query×bv}(hF:Ii fuel ak ag=some R):
   Fw.Spec Tryz.prog 102 [(pz cz),ax.v] [aW cz 77 (zg [ae.v,(zi ak.i),(zi ak.h)]),ku ae ak.b,ah ax ag] (fun p:Sv×List Nat×Sv×List Nat=>(zg [p.1.v,p.2.2.1.v])) (fun p=>[bI p.2.1 p.1 R.1.Head,qd p.2.2.2 p.2.2.1 R.1.Atoms,aW cz 77 (zg [ae.v,(zi R.2.i),(zi R.2.h)])]):=by
 refine Se 79 Tryz.func102 [.cell 4 120] ?_
 intro H0 F0
 unfold Ii at hF
 refine au ?_
 refine dX (fun k1=>?_)
 refine aT ?_
 refine aP (iB IL.h rfl (vs:=[]) .nil (cells:=[(.slice none 0 0),(.slice none 0 0)]) rfl) ?_
 refine dX (fun k2=>?_)
 refine As (.agg ([(.slice none 0 0),(.slice none 0 0)]:List Value).toArray) ?_
 refine bg ?_
 refine bnd hF fun r3 hx4 hF=>gy (kZ hx4) (fun p5=>?_)
 refine bu ?_
 refine bi (bT (m:=(((IntKind.i64.wrap (1+r3.1))-0).toNat+2)) (fun Jo f' cs'=>∃(g:Fr)(c117 MV:Int)(c119:List Atom)(qZ:Int)(rf:Sv)(EW:List Nat),f'=aQ g [(0,(pz cz)),(1,ax.v),(4,(pz k1)),(5,(pz k2)),(6,(zi qZ))]/\aN cs' [aW cz 77 (zg [ae.v,(zi c117),(zi MV)]),ku ae ak.b,ah ax ag,aW k1 120 (.agg ([(.slice none 0 0),(.slice none 0 0)]:List Value).toArray),aW k2 120 (zg [(.slice none 0 0),rf.v]),qd EW rf c119]/\GZ ak ag fuel Jo c117 MV c119 qZ=some R) ⟨_,_,_,_,_,⟨none,0,0⟩,[],aA,(.conv .nil (gT (Ro:=nA) (E:=159)) (.cons .nil) ay),hF⟩ ?_)
 rintro Jo _ _ ⟨aCY,c117,MV,c119,qZ,rf,EW,rfl,hE,hF⟩
 refine bq hE ?_
 rcases Jo with _|Jo
 · rw[GZ]at hF
   exact absurd hF (by simp)
 rw[GZ]at hF
 refine aY ?_
 refine Ci hF (fun atx hF=>?_) (fun atx hF=>?_)
 · refine au ?_
   obtain⟨Xn,aqe,aty⟩:=bind_some hF
   refine iC (fun f' cs'=>∃(c228 c229:Int)(yw:List Atom)(CG:Sv)(acv:List Nat)(g:Fr),Xn=(c228,c229,yw)/\f'=aQ g [(0,(pz cz)),(1,ax.v),(4,(pz k1)),(5,(pz k2)),(6,(zi qZ))]/\aN cs' [aW cz 77 (zg [ae.v,(zi c228),(zi c229)]),ku ae ak.b,ah ax ag,aW k1 120 (.agg ([(.slice none 0 0),(.slice none 0 0)]:List Value).toArray),aW k2 120 (zg [(.slice none 0 0),CG.v]),qd acv CG yw]) ?_ ?_
   · replace hF:=aqe
     refine bi (dY (Cm (pz cz) rfl rfl ?_))
     refine aT ?_
     refine bnd hF fun pG atz hF=>gy (kZ atz) (fun aCZ=>?_)
     refine aP (iB qG.h rfl (vs:=[(zi pG.1)]) b_ (cells:=[(zi pG.1),(.slice none 0 0)]) rfl) ?_
     refine dX (fun Xp=>?_)
     refine As (zg [(zi pG.1),(.slice none 0 0)]) ?_
     refine aY ?_
     refine bi (bT (m:=fuel) (fun Jj f' cs'=>∃(g:Fr)(tF tH:Int)(CE:List Int)(c182:Int)(Xq:Sv)(acw:List Nat),f'=aQ g [(0,(pz cz)),(1,ax.v),(4,(pz k1)),(5,(pz k2)),(6,(zi qZ)),(7,(pz Xp)),(8,(zi c182))]/\aN cs' [aW cz 77 (zg [ae.v,(zi tF),(zi tH)]),ku ae ak.b,ah ax ag,aW k1 120 (.agg ([(.slice none 0 0),(.slice none 0 0)]:List Value).toArray),aW k2 120 (zg [(.slice none 0 0),rf.v]),qd EW rf c119,aW Xp 159 (zg [(zi pG.1),Xq.v]),bI acw Xq CE]/\GX ak ag c119 pG Jj tF tH CE c182=some Xn) ⟨_,_,_,_,_,⟨none,0,0⟩,[],aA,(.conv .nil (gT (Ro:=(aC az)) (E:=3)) (.cons .nil) ay),hF⟩ ?_)
     rintro Jj _ _ ⟨aC0,tF,tH,CE,c182,Xq,acw,rfl,hE,hF⟩
     refine bq hE ?_
     rcases Jj with _|Jj
     · rw[GX]at hF
       exact absurd hF (by simp)
     rw[GX]at hF
     refine bB ?_
     refine zI hF fun ajN aAJ atA hF=>?_
     refine Ai atA (fun aC1 aC2=>?_)
     refine Al dN ?_
     refine aT ?_
     refine Ci hF (fun atB hF=>?_) (fun atB hF=>?_)
     · refine au ?_
       obtain⟨Jk,aan,aaR⟩:=bind_some hF
       refine iC (fun f' cs'=>∃(RH c218:Int)(RI:List Int)(Xr:Sv)(acx:List Nat)(g:Fr),Jk=(RH,c218,RI)/\f'=aQ g [(0,(pz cz)),(1,ax.v),(4,(pz k1)),(5,(pz k2)),(6,(zi qZ)),(7,(pz Xp)),(8,(zi c182))]/\aN cs' [aW cz 77 (zg [ae.v,(zi RH),(zi c218)]),ku ae ak.b,ah ax ag,aW k1 120 (.agg ([(.slice none 0 0),(.slice none 0 0)]:List Value).toArray),aW k2 120 (zg [(.slice none 0 0),rf.v]),qd EW rf c119,aW Xp 159 (zg [(zi pG.1),Xr.v]),bI acx Xr RI]) ?_ ?_
       · replace hF:=aan
         refine bi (dY (Cm (pz cz) rfl rfl ?_))
         refine bnd hF fun MR atC hF=>gy (kZ atC) (fun axB=>?_)
         refine bB ?_
         refine bnd hF fun MS atD hF=>gy (OD atD) (fun aC3=>?_)
         refine au ?_
         refine Ci hF (fun atE hF=>?_) (fun atE hF=>?_)
         · refine aT ?_
           refine bnd hF fun zL aaS hF=>gy (kZ aaS) (fun Xt=>?_)
           refine bB ?_
           refine dF rfl (bO (g:=true) dh.h dx.h b_ (vs:=[(zi zL.1)]) rfl rfl rfl (by intro v hv; simp at hv; rcases hv with rfl<;>rfl)) (fun aC4=>?_)
           refine dP (.cons .h .nil) (bQ (Ro:=(aC az)) (E:=3) (F:=([]++[])) (xs:=([zL.1]:List Int)) (d_ (jh (fun _=>rfl)) bP cK) rfl rfl) ?_
           refine bnd hF fun ajO atF hF=>ed (.cons .q9 (.cons .h .nil)) (dV (Ro:=(aC az)) dh.h iQ dx.h rfl rfl rfl (.tmp rfl rfl) (.tmp rfl rfl) atF fw) (fun acy=>?_)
           refine au ?_
           refine As (zg [(zi pG.1),acy.1.v]) ?_
           refine au ?_
           cases hF
           exact⟨_,_,_,acy.1,acy.2,_,rfl,aA,ay⟩
         refine aY ?_
         refine dF rfl (bO (g:=true) dh.h dx.h b_ (vs:=[(zi (IntKind.i64.wrap (10+MR.1)))]) rfl rfl rfl (by intro v hv; simp at hv; rcases hv with rfl<;>rfl)) (fun vE=>?_)
         refine dP (.cons .h .nil) (bQ (Ro:=(aC az)) (E:=3) (F:=([]++[])) (xs:=([(IntKind.i64.wrap (10+MR.1))]:List Int)) (d_ (jh (fun _=>rfl)) bP cK) rfl rfl) ?_
         refine bnd hF fun z213 aaT hF=>ed (.cons .q9 (.cons .h .nil)) (dV (Ro:=(aC az)) dh.h iQ dx.h rfl rfl rfl (.tmp rfl rfl) (.tmp rfl rfl) aaT fw) (fun Jp=>?_)
         refine au ?_
         refine As (zg [(zi pG.1),Jp.1.v]) ?_
         refine au ?_
         cases hF
         exact⟨_,_,_,Jp.1,Jp.2,_,rfl,aA,ay⟩
       rintro _ _ ⟨RH,c218,RI,Xr,acx,aC5,rfl,rfl,hE⟩
       replace hF:=aaR
       try dsimp only at hF
       refine bq hE ?_
       refine aY ?_
       exact⟨Jj,bX _,_,_,_,_,_,Xr,acx,aA,ay,hF⟩
     refine dL ?_
     refine dF rfl (bO (g:=true) EC.h qG.h b_ (vs:=[(zg [(zi pG.1),Xq.v])]) rfl rfl rfl (by intro v hv; simp at hv; rcases hv with rfl<;>rfl)) (fun aC6=>?_)
     refine dP (.cons .h (.cons .q8 .nil)) (bQ (Ro:=nA) (E:=159) (F:=(acw++[])) (xs:=([(⟨pG.1,CE⟩:Atom)]:List Atom)) (d_ (VY (a:=(⟨pG.1,CE⟩:Atom))) bP cK) rfl rfl) ?_
     refine bnd hF fun ajP atG hF=>ed (.cons .q7 (.cons .h .nil)) (dV (Ro:=nA) EC.h VZ qG.h rfl rfl rfl (.tmp rfl rfl) (.tmp rfl rfl) atG fw) (fun acz=>?_)
     refine au ?_
     refine As (zg [(.slice none 0 0),acz.1.v]) ?_
     refine au ?_
     cases hF
     exact⟨_,_,_,acz.1,acz.2,_,rfl,aA,ay⟩
   rintro _ _ ⟨c228,c229,yw,CG,acv,aC7,rfl,rfl,hE⟩
   replace hF:=aty
   try dsimp only at hF
   refine bq hE ?_
   refine aY ?_
   exact⟨Jo,bX _,_,_,_,_,_,CG,acv,aA,ay,hF⟩
 refine bB ?_
 refine dP .nil (PM (R:=az) (E:=3)) ?_
 refine bnd hF fun Xo atH hF=>uq (.cons .q6 (.rd .h rfl .nil)) (jT aG (fun _=>(.cons .nil)) (iV (.rd (.t .h) rfl (.rd .h rfl .nil)) (bU asy.h b_ (@Zk (⟨[],c119⟩:Query) (⟨none,0,0⟩) rf _ atH)))) (fun axC=>?_)
 refine bB ?_
 refine bi (bT (m:=(((Xo.length:Int)-0).toNat+2)) (fun Jl f' cs'=>∃(g:Fr)(Jm Jn:Int)(zM yt:List Int)(yu:Int)(CJ:Sv)(RO:List Nat)(EX:Sv),f'=aQ g [(0,(pz cz)),(4,(pz k1)),(5,(pz k2)),(10,EX.v),(11,(zi yu))]/\aN cs' [aW cz 77 (zg [ae.v,(zi Jm),(zi Jn)]),ku ae ak.b,aW k1 120 (.agg ([(.slice none 0 0),(.slice none 0 0)]:List Value).toArray),aW k2 120 (zg [CJ.v,rf.v]),bI RO CJ zM,qd EW rf c119,ah EX yt]/\GY ak c119 Jl Jm Jn zM yt yu=some R) ⟨_,_,_,_,_,_,⟨none,0,0⟩,[],axC.1,aA,(.conv .nil (gT (Ro:=(aC az)) (E:=3)) (.cons .nil) (.frz .q2 aG ay)),hF⟩ ?_)
 rintro Jl _ _ ⟨aC8,Jm,Jn,zM,yt,yu,CJ,RO,EX,rfl,hE,hF⟩
 refine bq hE ?_
 rcases Jl with _|Jl
 · rw[GY]at hF
   exact absurd hF (by simp)
 rw[GY]at hF
 refine aT ?_
 refine eX (fun f' cs'=>∃(g:Fr),f'=aQ g [(0,(pz cz)),(4,(pz k1)),(5,(pz k2)),(10,EX.v),(11,(zi yu)),(64,(.bool ((decide ((yu:Int)<(yt.length:Int)))&&(decide (((zM.length:Int):Int)<2)))))]/\aN cs' [aW cz 77 (zg [ae.v,(zi Jm),(zi Jn)]),ku ae ak.b,aW k1 120 (.agg ([(.slice none 0 0),(.slice none 0 0)]:List Value).toArray),aW k2 120 (zg [CJ.v,rf.v]),bI RO CJ zM,qd EW rf c119,ah EX yt]) ?_ ?_
 · refine aY ?_
   rcases bE (decide ((yu:Int)<(yt.length:Int)))with Qj|Qj
   · rw[Qj]
     try rw[Qj]at hF; dsimp only[aJ,aI]at hF
     refine ky ?_
     exact⟨_,aA,ay⟩
   rw[Qj]
   try rw[Qj]at hF; dsimp only[aJ,aI]at hF
   refine bB ?_
   exact⟨_,aA,ay⟩
 rintro _ _ ⟨awY,rfl,hE⟩
 refine bq hE ?_
 refine Ci hF (fun atI hF=>?_) (fun atI hF=>?_)
 · refine au ?_
   obtain⟨acu,aqf,atJ⟩:=bind_some hF
   refine iC (fun f' cs'=>∃(RJ RL:Int)(RN:List Int)(Xu:Sv)(acA:List Nat)(g:Fr),acu=(RJ,RL,RN)/\f'=aQ g [(0,(pz cz)),(4,(pz k1)),(5,(pz k2)),(10,EX.v),(11,(zi yu))]/\aN cs' [aW cz 77 (zg [ae.v,(zi RJ),(zi RL)]),ku ae ak.b,aW k1 120 (.agg ([(.slice none 0 0),(.slice none 0 0)]:List Value).toArray),aW k2 120 (zg [Xu.v,rf.v]),bI acA Xu RN,qd EW rf c119,ah EX yt]) ?_ ?_
   · replace hF:=aqf
     refine bi (dY (Cm (pz cz) rfl rfl ?_))
     refine bnd hF fun MU atK hF=>gy (OD atK) (fun aC9=>?_)
     refine au ?_
     refine Ci hF (fun atL hF=>?_) (fun atL hF=>?_)
     · refine jf [0,1,2,3,4,5,6,7,8,9] [0,1,0,0,12,28,60,127,255,511] [7,9] mixed (by decide+kernel) ?_
       refine du ?_
       refine dM rfl .no .q3 (fun ha hp=>fe (v:=CJ.v) iA.h (EN ha (.tmp rfl rfl) rfl) hp.2 rfl rfl) ?_
       refine bR ?_
       refine zI hF fun Xm aAK atM hF=>?_
       refine Di atM (fun awZ aw0=>?_)
       refine Dl dN ?_
       refine iq rfl .no rfl (fun ha=>bO (g:=true) (len:=1) (parts:=[(0,.tmp 74)]) dh.h dx.h (.cons (EN ha (.tmp rfl rfl) rfl) .nil) (vs:=[(zi Xm)]) rfl rfl rfl (by intro v hv; simp at hv; rcases hv with rfl<;>rfl)) (fun aC_=>?_)
       refine iR (.cons .h .nil) (bQ (Ro:=(aC az)) (E:=3) (F:=([]++[])) (xs:=([Xm]:List Int)) (d_ (jh (fun _=>rfl)) bP cK) rfl rfl) ?_
       refine bnd hF fun ajQ aaG hF=>cO rfl rfl .no (.cons .q6 (.cons .h .nil)) (.dep rfl (.dep rfl .nil)) (fun ha=>dV (Ro:=(aC az)) dh.h iQ dx.h rfl rfl rfl (EN ha (.tmp rfl rfl) rfl) (EN ha (.tmp rfl rfl) rfl) aaG fw) (fun ML=>?_)
       refine du ?_
       refine cO rfl rfl .no (.cons .q5 .nil) (.dep rfl (.dep rfl .nil)) (fun ha=>gz (e':=(zg [ML.1.v,rf.v])) pE.h.sz (EN ha (.tmp rfl rfl) rfl) (EN ha (.tmp rfl rfl) rfl) rfl rfl rfl rfl rfl) (fun _=>?_)
       refine du ?_
       cases hF
       exact⟨_,_,_,ML.1,ML.2,_,rfl,aA,ay⟩
     refine au ?_
     cases hF
     exact⟨_,_,_,CJ,RO,_,rfl,aA,ay⟩
   rintro _ _ ⟨RJ,RL,RN,Xu,acA,aC',rfl,rfl,hE⟩
   replace hF:=atJ
   try dsimp only at hF
   refine bq hE ?_
   refine aY ?_
   exact⟨Jl,bX _,_,_,_,_,_,_,Xu,acA,EX,aA,ay,hF⟩
 refine bB ?_
 refine As (zg [CJ.v,rf.v]) ?_
 refine aT ?_
 cases hF
 exact Er (CJ,RO,rf,EW)
def LC(iN:Int):Option (Bool):=
 ((iO iN 0 9).bind fun r3=>
   bif r3 then (some true)
   else ((Ba iN).bind fun r7=>
     some r7)).bind fun o1=>
 match o1 with
 |c10=>some c10
theorem anR{iN:Int}{R:Bool}(hF:LC iN=some R):
   Fw.Spec Tryz.prog 183 [(zi iN)] [] (fun _:Unit=>(.bool R)) (fun _=>[]):=by
 refine Se 9 Tryz.func183 [.tmp 2] ?_
 intro H0 F0
 unfold LC at hF
 refine bu ?_
 obtain⟨o1,yx,hO2⟩:=bind_some hF
 refine au ?_
 refine eX (fun f' cs'=>∃(c10:Bool)(g:Fr),c10=o1/\f'=aQ g [(2,(.bool c10))]/\aN cs' []) ?_ ?_
 · replace hF:=yx
   refine au ?_
   refine bnd hF fun r3 hx4 hF=>bD (jR hx4) (fun _=>?_)
   refine au ?_
   rcases bE r3 with kg|kg
   · rw[kg]
     try rw[kg]at hF; dsimp only[aJ,aI]at hF
     exact bJ hF
   rw[kg]
   try rw[kg]at hF; dsimp only[aJ,aI]at hF
   refine bu ?_
   refine bnd hF fun r7 tN hF=>bD (K8 tN) (fun _=>?_)
   exact bJ hF
 rintro _ _ ⟨c10,g11,rfl,rfl,hE⟩
 replace hF:=hO2
 try dsimp only at hF
 refine bq hE ?_
 exact ze hF
def Hw:List Int->Nat->Option (Bool)
 |[],k22=>some true
 |x24::ll,k22=>(LC x24).bind fun qx=>
   if (!qx)then (
     some false)
   else (
     Hw ll (k22+1))
def Px(ag:List Int)(aB:Atom):Option (Bool):=
 ((sw ag).bind fun r4=>
   bif (!r4)then (some true)
   else ((iO aB.Rel 0 (IntKind.i64.wrap ((ag.length:Int)-1))).bind fun r8=>
     bif (!r8)then (some true)
     else ((ix ag aB.Rel).bind fun nU=>
       some (((aB.Terms.length:Int):Int)!=nU)))).bind fun o2=>
 match o2 with
 |c18=>if c18 then (
     some false)
   else (
     Hw aB.Terms 0)
theorem anS{ag:List Int}{ae:Sv}{aB:Atom}{aV:Sv}{R:Bool}(hF:Px ag aB=some R):
   Fw.Spec Tryz.prog 161 [ae.v,(zg [(zi aB.Rel),aV.v])] [ah ae ag,ah aV aB.Terms] (fun _:Unit=>(.bool R)) (fun _=>[]):=by
 refine Se 43 Tryz.func161 [.tmp 4] ?_
 intro H0 F0
 unfold Px at hF
 refine au ?_
 refine bN (fun k1=>?_)
 refine bu ?_
 obtain⟨o2,fU,hO3⟩:=bind_some hF
 refine dS [0,1,2,3,4,5,6,7,8,9,10,11,12,13,14,15,16,17,18,19,20,21,22] [0,1,3,7,15,31,15,79,207,511,1023,2047,4095,8191,16383,32767,8191,8191,139263,466943,991231,2097151,4194303] [1,9] mixed (by decide+kernel) ?_
 refine kS (fun f' cs'=>∃(c18:Bool)(g:Fr),c18=o2/\f'=aQ g [(3,(pz k1)),(28,(.bool c18))]/\aN cs' [aX k1 159 (zg [(zi aB.Rel),aV.v]),ah aV aB.Terms]) ?_ ?_
 · replace hF:=fU
   refine du ?_
   refine bnd hF fun r4 hx5 hF=>eZ (w_ hx5) (fun _=>?_)
   refine bR ?_
   rcases bE (!r4)with bn|bn
   · rw[bn]
     try rw[bn]at hF; dsimp only[aJ,aI]at hF
     exact eu hF
   rw[bn]
   try rw[bn]at hF; dsimp only[aJ,aI]at hF
   refine sV ?_
   refine bnd hF fun r8 bY hF=>eZ (jR bY) (fun _=>?_)
   refine dm ?_
   rcases bE (!r8)with dQ|dQ
   · rw[dQ]
     try rw[dQ]at hF; dsimp only[aJ,aI]at hF
     exact eu hF
   rw[dQ]
   try rw[dQ]at hF; dsimp only[aJ,aI]at hF
   refine wK ?_
   refine zI hF fun nU Re kz hF=>?_
   refine Di kz (fun k16 JE=>?_)
   refine Dl dN ?_
   exact eu hF
 rintro _ _ ⟨c18,g39,rfl,rfl,hE⟩
 replace hF:=hO3
 try dsimp only at hF
 refine bq hE ?_
 refine Ci hF (fun I8 hF=>?_) (fun I8 hF=>?_)
 · exact ze hF
 refine aY ?_
 refine bi (bT (m:=aB.Terms.length) (fun m20 f' cs'=>∃(g:Fr)(k22:Nat)(ll:List Int),m20=ll.length/\f'=aQ g [(3,(pz k1)),(5,(zi (k22:Int)))]/\List.drop k22 aB.Terms=ll/\aN cs' [aX k1 159 (zg [(zi aB.Rel),aV.v]),ah aV aB.Terms]/\Hw ll k22=some R) ⟨_,0,_,rfl,aA,rfl,ay,hF⟩ ?_)
 rintro m20 _ _ ⟨g21,k22,ll,rfl,rfl,hd25,hE,hF⟩
 refine Kb hE aB.Terms (fun ain=>?_)
 rcases ll with _|⟨x24,ll⟩
 · have Rh:=dn hd25
   rw[Hw]at hF
   refine dL ?_
   refine dJ ?_
   exact ze hF
 obtain⟨Rh,hx27,hd28⟩:=dz hd25
 rw[Hw]at hF
 refine dL ?_
 refine dI ?_
 refine bB ?_
 refine Ai hx27 (fun FJ Yi=>?_)
 refine Al dN ?_
 refine bnd hF fun qx hx34 hF=>bD (anR hx34) (fun _=>?_)
 refine aT ?_
 refine Ci hF (fun Ri hF=>?_) (fun Ri hF=>?_)
 · exact ze hF
 refine bB ?_
 rw[wk k22]
 exact⟨_,bX _,_,k22+1,ll,rfl,aA,hd28,ay,hF⟩
def D5(ag:List Int)(aK:Query)(jW:(List Int)):List Int->Nat->Option (Bool)
 |[],k20=>((sw ag).bind fun FO=>
     bif FO then ((iO (aK.Atoms.length:Int) 1 4).bind fun r35=>
       bif r35 then (some (decide (((aK.Head.length:Int):Int)<=3)))
       else (some false))
     else (some false)).bind fun wY=>
   match wY with
   |kI=>some kI
 |jX::lm,k20=>(Bb jW jX).bind fun Tm=>
   if (!Tm)then (
     some false)
   else (
     D5 ag aK jW lm (k20+1))
def D6(ag:List Int)(aK:Query):List Atom->Nat->Option (Bool)
 |[],k5=>(Iu aK).bind fun jW=>
   D5 ag aK jW aK.Head 0
 |x7::eH,k5=>(Px ag x7).bind fun uE=>
   if (!uE)then (
     some false)
   else (
     D6 ag aK eH (k5+1))
def zf(ag:List Int)(aK:Query):Option (Bool):=
 D6 ag aK aK.Atoms 0
theorem KN{ag:List Int}{ae:Sv}{aK:Query}{ax aV:Sv}{R:Bool}(hF:zf ag aK=some R):
   Fw.Spec Tryz.prog 137 [ae.v,(zg [ax.v,aV.v])] [ah ae ag,ah ax aK.Head,eQ aV aK.Atoms] (fun _:Unit=>(.bool R)) (fun _=>[]):=by
 refine Se 54 Tryz.func137 [.tmp 4] ?_
 intro H0 F0
 unfold zf at hF
 refine au ?_
 refine bN (fun k1=>?_)
 refine bB ?_
 refine bi (bT (m:=aK.Atoms.length) (fun m3 f' cs'=>∃(g:Fr)(k5:Nat)(eH:List Atom),m3=eH.length/\f'=aQ g [(0,ae.v),(3,(pz k1)),(5,(zi (k5:Int)))]/\List.drop k5 aK.Atoms=eH/\aN cs' [ah ae ag,aX k1 120 (zg [ax.v,aV.v]),ah ax aK.Head,eQ aV aK.Atoms]/\D6 ag aK eH k5=some R) ⟨_,0,_,rfl,aA,rfl,ay,hF⟩ ?_)
 rintro m3 _ _ ⟨g4,k5,eH,rfl,rfl,nJ,hE,hF⟩
 refine Kb hE aK.Atoms (fun IP=>?_)
 rcases eH with _|⟨x7,eH⟩
 · have tT:=dn nJ
   rw[D6]at hF
   refine dL ?_
   refine dJ ?_
   refine bB ?_
   refine bnd hF fun jW kz hF=>gy (Zk kz) (fun p16=>?_)
   refine bB ?_
   refine bi (bT (m:=aK.Head.length) (fun m18 f' cs'=>∃(g:Fr)(k20:Nat)(lm:List Int),m18=lm.length/\f'=aQ g [(0,ae.v),(3,(pz k1)),(6,p16.1.v),(7,(zi (k20:Int)))]/\List.drop k20 aK.Head=lm/\aN cs' [ah ae ag,aX k1 120 (zg [ax.v,aV.v]),ah ax aK.Head,eQ aV aK.Atoms,bI p16.2 p16.1 jW]/\D5 ag aK jW lm k20=some R) ⟨_,0,_,rfl,aA,rfl,ay,hF⟩ ?_)
   rintro m18 _ _ ⟨g19,k20,lm,rfl,rfl,EY,hE,hF⟩
   refine Kb hE aK.Head (fun aio=>?_)
   rcases lm with _|⟨jX,lm⟩
   · have Jg:=dn EY
     rw[D5]at hF
     refine dL ?_
     refine dJ ?_
     refine bg ?_
     obtain⟨wY,Qk,RP⟩:=bind_some hF
     refine au ?_
     refine eX (fun f' cs'=>∃(kI:Bool)(g:Fr),kI=wY/\f'=aQ g [(4,(.bool kI))]/\aN cs' []) ?_ ?_
     · replace hF:=Qk
       refine au ?_
       refine bnd hF fun FO hx32 hF=>bD (w_ hx32) (fun _=>?_)
       refine au ?_
       rcases bE FO with yl|yl
       · rw[yl]
         try rw[yl]at hF; dsimp only[aJ,aI]at hF
         refine bH ?_
         refine bnd hF fun r35 I_ hF=>bD (jR I_) (fun _=>?_)
         refine aT ?_
         rcases bE r35 with RQ|RQ
         · rw[RQ]
           try rw[RQ]at hF; dsimp only[aJ,aI]at hF
           exact bJ hF
         rw[RQ]
         try rw[RQ]at hF; dsimp only[aJ,aI]at hF
         exact bJ hF
       rw[yl]
       try rw[yl]at hF; dsimp only[aJ,aI]at hF
       exact bJ hF
     rintro _ _ ⟨kI,Yk,rfl,rfl,hE⟩
     replace hF:=RP
     try dsimp only at hF
     refine bq hE ?_
     exact ze hF
   obtain⟨Jg,hx25,x9⟩:=dz EY
   rw[D5]at hF
   refine dL ?_
   refine dI ?_
   refine bH ?_
   refine Ai hx25 (fun wV j42=>?_)
   refine Al dN ?_
   refine bnd hF fun Tm Rc hF=>ed (.cons .q5 .nil) (jT aG (fun _=>.nil) (bU V3.h b_ (O0 Rc))) (fun _=>?_)
   refine aT ?_
   refine Ci hF (fun ab' hF=>?_) (fun ab' hF=>?_)
   · exact ze hF
   refine bB ?_
   rw[wk k20]
   exact⟨_,bX _,_,k20+1,lm,rfl,aA,x9,ay,hF⟩
 obtain⟨tT,jm,jY⟩:=dz nJ
 rw[D6]at hF
 refine dL ?_
 refine dI ?_
 refine bH ?_
 refine Ai jm (fun vQ j49=>?_)
 refine mX (D9 x7) Hl (fun p50=>?_)
 refine bnd hF fun uE Ji hF=>bD (anS Ji) (fun _=>?_)
 refine aT ?_
 refine Ci hF (fun RA hF=>?_) (fun RA hF=>?_)
 · exact ze hF
 refine bB ?_
 rw[wk k5]
 exact⟨_,bX _,_,k5+1,eH,rfl,aA,jY,ay,hF⟩
def LD(ag:List Int)(ai:List Method)(aK:Query):Option (Bool):=
 ((DX ag ai).bind fun r4=>
   bif r4 then ((zf ag aK).bind fun r8=>
     some r8)
   else (some false)).bind fun o2=>
 match o2 with
 |c11=>some c11
theorem afU{ag:List Int}{ae:Sv}{ai:List Method}{ax:Sv}{aK:Query}{bL dH:Sv}{R:Bool}(hF:LD ag ai aK=some R):
   Fw.Spec Tryz.prog 163 [ae.v,ax.v,(zg [bL.v,dH.v])] [ah ae ag,bV ax ai,ah bL aK.Head,eQ dH aK.Atoms] (fun _:Unit=>(.bool R)) (fun _=>[]):=by
 refine Se 15 Tryz.func163 [.tmp 6] ?_
 intro H0 F0
 unfold LD at hF
 refine au ?_
 refine bN (fun k1=>?_)
 refine aT ?_
 obtain⟨o2,fU,hO3⟩:=bind_some hF
 refine au ?_
 refine eX (fun f' cs'=>∃(c11:Bool)(g:Fr),c11=o2/\f'=aQ g [(6,(.bool c11))]/\aN cs' []) ?_ ?_
 · replace hF:=fU
   refine aT ?_
   refine bnd hF fun r4 hx5 hF=>bD (Ux hx5) (fun _=>?_)
   refine au ?_
   rcases bE r4 with bn|bn
   · rw[bn]
     try rw[bn]at hF; dsimp only[aJ,aI]at hF
     refine aY ?_
     refine bnd hF fun r8 bY hF=>bD (KN bY) (fun _=>?_)
     exact bJ hF
   rw[bn]
   try rw[bn]at hF; dsimp only[aJ,aI]at hF
   exact bJ hF
 rintro _ _ ⟨c11,g12,rfl,rfl,hE⟩
 replace hF:=hO3
 try dsimp only at hF
 refine bq hE ?_
 exact ze hF
def LF(oH:Int)(Vx:List Int):Option (Atom):=
 (app ([]:List Int) Vx).bind fun z3=>
 some (⟨oH,z3⟩:Atom)
theorem afV{oH:Int}{Vx:List Int}{ax:Sv}{R:Atom}(hF:LF oH Vx=some R):
   Fw.Spec Tryz.prog 184 [(zi oH),ax.v] [ah ax Vx] (fun p:Sv×List Nat=>(zg [(zi R.Rel),p.1.v])) (fun p=>[bI p.2 p.1 R.Terms]):=by
 refine Se 10 Tryz.func184 [.cell 4 159] ?_
 intro H0 F0
 unfold LF at hF
 refine au ?_
 refine dX (fun k1=>?_)
 refine bu ?_
 refine dF rfl (bO (g:=true) dh.h dx.h .nil (vs:=[]) rfl rfl rfl (by simp)) (fun k2=>?_)
 refine dP (.cons .h .nil) (bQ (Ro:=(aC az)) (E:=3) (F:=[]) (xs:=([]:List Int)) bP rfl rfl) ?_
 refine au ?_
 refine bnd hF fun z3 hx4 hF=>ed (.cons .h (.rd (.t .h) rfl .nil)) (dV (Ro:=(aC az)) dh.h iQ dx.h rfl rfl rfl (.tmp rfl rfl) (.tmp rfl rfl) hx4 mg) (fun p5=>?_)
 refine aP (iB qG.h rfl (vs:=[(zi oH),p5.1.v]) b_ (cells:=[(zi oH),p5.1.v]) rfl) ?_
 refine As (zg [(zi oH),p5.1.v]) ?_
 refine aT ?_
 cases hF
 exact Er (p5.1,p5.2)
def Ed(z4:List Int):List Atom->Nat->(List Atom)->Option (Query)
 |[],nI,c32=>some (⟨z4,c32⟩:Query)
 |x40::o5,nI,c32=>(LF x40.Rel x40.Terms).bind fun Yt=>
   (app c32 ([Yt]:List Atom)).bind fun z56=>
   Ed z4 o5 (nI+1) z56
def LG(aK:Query):Option (Query):=
 (app ([]:List Int) aK.Head).bind fun z4=>
 Ed z4 aK.Atoms 0 ([]:List Atom)
theorem afW{aK:Query}{ae aO:Sv}{R:Query}(hF:LG aK=some R):
   Fw.Spec Tryz.prog 168 [(zg [ae.v,aO.v])] [ah ae aK.Head,eQ aO aK.Atoms] (fun p:Sv×List Nat×Sv×List Nat=>(zg [p.1.v,p.2.2.1.v])) (fun p=>[bI p.2.1 p.1 R.Head,qd p.2.2.2 p.2.2.1 R.Atoms]):=by
 refine Se 36 Tryz.func168 [.cell 2 120] ?_
 intro H0 F0
 unfold LG at hF
 refine au ?_
 refine bN (fun k1=>?_)
 refine dX (fun k2=>?_)
 refine aT ?_
 refine dF rfl (bO (g:=true) dh.h dx.h .nil (vs:=[]) rfl rfl rfl (by simp)) (fun k3=>?_)
 refine dP (.cons .h .nil) (bQ (Ro:=(aC az)) (E:=3) (F:=[]) (xs:=([]:List Int)) bP rfl rfl) ?_
 refine aT ?_
 refine bnd hF fun z4 hx5 hF=>ed (.cons .h (.rd .q2 rfl .nil)) (dV (Ro:=(aC az)) dh.h iQ dx.h rfl rfl rfl (.tmp rfl rfl) (.tmp rfl rfl) hx5 mg) (fun p6=>?_)
 refine aP (iB IL.h rfl (vs:=[p6.1.v]) b_ (cells:=[p6.1.v,(.slice none 0 0)]) rfl) ?_
 refine dX (fun k7=>?_)
 refine As (zg [p6.1.v,(.slice none 0 0)]) ?_
 refine aY ?_
 refine bi (bT (m:=aK.Atoms.length) (fun TF f' cs'=>∃(g:Fr)(nI:Nat)(o5 c32:List Atom)(v33:Sv)(JP:List Nat),TF=o5.length/\f'=aQ g [(1,(pz k1)),(2,(pz k2)),(3,(pz k7)),(4,(zi (nI:Int)))]/\List.drop nI aK.Atoms=o5/\aN cs' [aX k1 120 (zg [ae.v,aO.v]),ah ae aK.Head,eQ aO aK.Atoms,aW k2 120 (.agg ([(.slice none 0 0),(.slice none 0 0)]:List Value).toArray),aW k7 120 (zg [p6.1.v,v33.v]),bI p6.2 p6.1 z4,qd JP v33 c32]/\Ed z4 o5 nI c32=some R) ⟨_,0,_,_,⟨none,0,0⟩,[],rfl,aA,rfl,(.conv .nil (gT (Ro:=nA) (E:=159)) (.cons .nil) ay),hF⟩ ?_)
 rintro TF _ _ ⟨g37,nI,o5,c32,v33,JP,rfl,rfl,CK,hE,hF⟩
 refine Kb hE aK.Atoms (fun atN=>?_)
 rcases o5 with _|⟨x40,o5⟩
 · have acB:=dn CK
   rw[Ed]at hF
   refine dL ?_
   refine dJ ?_
   refine bB ?_
   refine As (zg [p6.1.v,v33.v]) ?_
   refine aT ?_
   cases hF
   exact Er (p6.1,p6.2,v33,JP)
 obtain⟨acB,ql,MW⟩:=dz CK
 rw[Ed]at hF
 refine dL ?_
 refine dI ?_
 refine aT ?_
 refine jf [0,1,2,3,4,5,6,7,8,9,10,11,12,13,14,15,16,17,18] [0,1,0,4,0,28,60,124,0,256,0,1792,3840,7936,16380,32764,65535,131071,262143] [14,16,18] mixed (by decide+kernel) ?_
 refine du ?_
 refine dM rfl .no .q4 (fun ha hp=>fe (v:=v33.v) aay.h (EN ha (.tmp rfl rfl) rfl) hp.2 rfl rfl) ?_
 refine dm ?_
 refine Di ql (fun TG j48=>?_)
 refine du ?_
 refine Dl Z_ ?_
 refine dm ?_
 refine Di ql (fun Tj Yr=>?_)
 refine du ?_
 refine n_ (R':=(aD 3 az)) iA.h rfl .no (.tmp rfl rfl) rfl .h zn (fun w51=>?_)
 refine bnd hF fun Yt MP hF=>cO rfl rfl .no (.rd .h rfl .nil) (.own .q7 (fun _ h=>h) .nil) (fun ha=>bU aic.h (.cons (EN ha (.tmp rfl rfl) rfl) (.cons (EN ha (.tmp rfl rfl) rfl) .nil)) (afV MP)) (fun p54=>?_)
 refine iq rfl .no rfl (fun ha=>bO (g:=true) (len:=1) (parts:=[(0,.tmp 31)]) EC.h qG.h (.cons (EN ha (.tmp rfl rfl) rfl) .nil) (vs:=[(zg [(zi Yt.Rel),p54.1.v])]) rfl rfl rfl (by intro v hv; simp at hv; rcases hv with rfl<;>rfl)) (fun k55=>?_)
 refine iR (.cons .h (.cons .h .nil)) (bQ (Ro:=nA) (E:=159) (F:=(p54.2++[])) (xs:=([Yt]:List Atom)) (d_ VY bP cK) rfl rfl) ?_
 refine bnd hF fun z56 RS hF=>cO rfl rfl .no (.cons .q10 (.cons .h .nil)) (.dep rfl (.dep rfl .nil)) (fun ha=>dV (Ro:=nA) EC.h VZ qG.h rfl rfl rfl (EN ha (.tmp rfl rfl) rfl) (EN ha (.tmp rfl rfl) rfl) RS fw) (fun p58=>?_)
 refine du ?_
 refine cO rfl rfl .no (.cons .q8 .nil) (.dep rfl (.dep rfl .nil)) (fun ha=>gz (e':=(zg [p6.1.v,p58.1.v])) aaz.h.sz (EN ha (.tmp rfl rfl) rfl) (EN ha (.tmp rfl rfl) rfl) rfl rfl rfl rfl rfl) (fun _=>?_)
 refine du ?_
 refine aY ?_
 rw[wk nI]
 exact⟨_,bX _,_,nI+1,o5,_,p58.1,p58.2,rfl,aA,MW,ay,hF⟩
def Dn(iL:Atom):Nat->(List Int)->Int->Option ((List Int))
 |0,_,_=>none
 |m24+1,c20,c23=>if (decide ((c23:Int)<(iL.Terms.length:Int)))then (
     ((ix iL.Terms c23).bind fun x40=>
       (iO x40 0 9).bind fun wT=>
       if wT then (
         (ix iL.Terms c23).bind fun TE=>
         (IA c20 TE).bind fun rY=>
         some rY)
       else (
         some c20)).bind fun yV=>
     match yV with
     |rD=>Dn iL m24 rD (IntKind.i64.wrap (c23+1)))
   else (
     some c20)
def F9:List Atom->Nat->(List Int)->Option ((List Int))
 |[],k9,c3=>some c3
 |iL::gI,k9,c3=>(Dn iL (((iL.Terms.length:Int)-0).toNat+2) c3 0).bind fun kN=>
   match kN with
   |yX=>F9 gI (k9+1) yX
def KI(aK:Query):Option ((List Int)):=
 F9 aK.Atoms 0 ([]:List Int)
theorem aek{aK:Query}{ae aO:Sv}{R:(List Int)}(hF:KI aK=some R):
   Fw.Spec Tryz.prog 201 [(zg [ae.v,aO.v])] [ah ae aK.Head,eQ aO aK.Atoms] (fun p:Sv×List Nat=>p.1.v) (fun p=>[bI p.2 p.1 R]):=by
 refine Se 47 Tryz.func201 [.tmp 2] ?_
 intro H0 F0
 unfold KI at hF
 refine au ?_
 refine bN (fun k1=>?_)
 refine bu ?_
 refine dF rfl (bO (g:=true) dh.h dx.h .nil (vs:=[]) rfl rfl rfl (by simp)) (fun k2=>?_)
 refine dP (.cons .h .nil) (bQ (Ro:=(aC az)) (E:=3) (F:=[]) (xs:=([]:List Int)) bP rfl rfl) ?_
 refine bB ?_
 refine bi (bT (m:=aK.Atoms.length) (fun m7 f' cs'=>∃(g:Fr)(k9:Nat)(gI:List Atom)(c3:List Int)(v4:Sv)(F5:List Nat),m7=gI.length/\f'=aQ g [(1,(pz k1)),(3,v4.v),(4,(zi (k9:Int)))]/\List.drop k9 aK.Atoms=gI/\aN cs' [aX k1 120 (zg [ae.v,aO.v]),ah ae aK.Head,eQ aO aK.Atoms,bI F5 v4 c3]/\F9 gI k9 c3=some R) ⟨_,0,_,_,⟨(some ⟨k2,0,none⟩),0,1⟩,(k2::[]),rfl,aA,rfl,ay,hF⟩ ?_)
 rintro m7 _ _ ⟨g8,k9,gI,c3,v4,F5,rfl,rfl,mK,hE,hF⟩
 refine Kb hE aK.Atoms (fun Qh=>?_)
 rcases gI with _|⟨iL,gI⟩
 · have yo:=dn mK
   rw[F9]at hF
   refine dL ?_
   refine dJ ?_
   refine gB ?_
   cases hF
   exact Er (v4,F5)
 obtain⟨yo,j5,qY⟩:=dz mK
 rw[F9]at hF
 refine dL ?_
 refine dI ?_
 refine au ?_
 obtain⟨kN,uR,vD⟩:=bind_some hF
 refine iC (fun f' cs'=>∃(yX:List Int)(v68:Sv)(JN:List Nat)(g:Fr),yX=kN/\f'=aQ g [(1,(pz k1)),(3,v68.v),(4,(zi (k9:Int)))]/\aN cs' [aX k1 120 (zg [ae.v,aO.v]),ah ae aK.Head,eQ aO aK.Atoms,bI JN v68 yX]) ?_ ?_
 · replace hF:=uR
   refine bi (dY (aP (jU (v:=(zi 0)) (.int _ _)) ?_))
   refine au ?_
   refine bi (bT (m:=(((iL.Terms.length:Int)-0).toNat+2)) (fun m24 f' cs'=>∃(g:Fr)(c20:List Int)(c23:Int)(v21:Sv)(uD:List Nat),f'=aQ g [(1,(pz k1)),(3,v21.v),(4,(zi (k9:Int))),(5,(zi c23))]/\aN cs' [aX k1 120 (zg [ae.v,aO.v]),ah ae aK.Head,eQ aO aK.Atoms,bI uD v21 c20]/\Dn iL m24 c20 c23=some kN) ⟨_,_,_,v4,F5,aA,ay,hF⟩ ?_)
   rintro m24 _ _ ⟨Tp,c20,c23,v21,uD,rfl,hE,hF⟩
   refine bq hE ?_
   rcases m24 with _|m24
   · rw[Dn]at hF
     exact absurd hF (by simp)
   rw[Dn]at hF
   refine bB ?_
   refine Ai j5 (fun Tv j33=>?_)
   refine au ?_
   refine uL (R':=(aD 3 az)) iA.h (.tmp rfl rfl) .h zn (fun w34=>?_)
   refine bu ?_
   refine Ci hF (fun RF hF=>?_) (fun RF hF=>?_)
   · refine au ?_
     obtain⟨yV,Qi,RG⟩:=bind_some hF
     refine iC (fun f' cs'=>∃(rD:List Int)(v63:Sv)(JO:List Nat)(g:Fr),rD=yV/\f'=aQ g [(1,(pz k1)),(3,v63.v),(4,(zi (k9:Int))),(5,(zi c23))]/\aN cs' [aX k1 120 (zg [ae.v,aO.v]),ah ae aK.Head,eQ aO aK.Atoms,bI JO v63 rD]) ?_ ?_
     · replace hF:=Qi
       refine bi (dY (aP (iY (off:=1) Z9.h (.tmp rfl rfl)) ?_))
       refine aT ?_
       refine Ai j5 (fun Tt Tu=>?_)
       refine au ?_
       refine uL (R':=(aD 3 az)) iA.h (.tmp rfl rfl) .h zn (fun w39=>?_)
       refine au ?_
       refine zI hF fun x40 ajA ql hF=>?_
       refine Ai ql (fun Yg Yh=>?_)
       refine Al dN ?_
       refine bnd hF fun wT Cw hF=>bD (jR Cw) (fun _=>?_)
       refine au ?_
       refine Ci hF (fun I7 hF=>?_) (fun I7 hF=>?_)
       · refine aY ?_
         refine Ai j5 (fun Tj Yr=>?_)
         refine au ?_
         refine uL (R':=(aD 3 az)) iA.h (.tmp rfl rfl) .h zn (fun w51=>?_)
         refine au ?_
         refine zI hF fun TE axA Jf hF=>?_
         refine Ai Jf (fun k56 j57=>?_)
         refine Al dN ?_
         refine bnd hF fun rY Cq hF=>gy (Zy Cq) (fun p60=>?_)
         refine aT ?_
         cases hF
         exact⟨_,p60.1,p60.2,_,rfl,aA,ay⟩
       refine au ?_
       cases hF
       exact⟨_,v21,uD,_,rfl,aA,ay⟩
     rintro _ _ ⟨rD,v63,JO,g65,rfl,rfl,hE⟩
     replace hF:=RG
     try dsimp only at hF
     refine bq hE ?_
     refine aY ?_
     exact⟨m24,bX _,_,_,_,v63,JO,aA,ay,hF⟩
   refine bg ?_
   cases hF
   exact⟨_,v21,uD,_,rfl,aA,ay⟩
 rintro _ _ ⟨yX,v68,JN,g71,rfl,rfl,hE⟩
 replace hF:=vD
 try dsimp only at hF
 refine bq hE ?_
 refine aY ?_
 rw[wk k9]
 exact⟨_,bX _,_,k9+1,gI,_,v68,JN,rfl,aA,qY,ay,hF⟩
def Ep(aR:bz)(nL:Int)(aS:Int):Option (bz):=
 (app ([]:List Int) aR.Vars).bind fun z7=>
 (app z7 ([nL]:List Int)).bind fun z10=>
 (app ([]:List Int) aR.Values).bind fun FE=>
 (app FE ([aS]:List Int)).bind fun z16=>
 some (⟨z10,z16⟩:bz)
theorem afX{aR:bz}{ae aO:Sv}{nL aS:Int}{R:bz}(hF:Ep aR nL aS=some R):
   Fw.Spec Tryz.prog 200 [(zg [ae.v,aO.v]),(zi nL),(zi aS)] [ah ae aR.Vars,ah aO aR.Values] (fun p:Sv×List Nat×Sv×List Nat=>(zg [p.1.v,p.2.2.1.v])) (fun p=>[bI p.2.1 p.1 R.Vars,bI p.2.2.2 p.2.2.1 R.Values]):=by
 refine Se 22 Tryz.func200 [.cell 6 183] ?_
 intro H0 F0
 unfold Ep at hF
 refine au ?_
 refine bN (fun k1=>?_)
 refine dX (fun k2=>?_)
 refine au ?_
 refine dS [0,1,2,4,5,7,8,9,11,12,3,6,10,13,14,15] [0,0,2,7,0,16,63,0,0,256,1023,0,2048,8191,16383,32767] [3,6,10,13,15] mixed (by decide+kernel) ?_
 refine iq rfl .no rfl (fun ha=>bO (g:=true) (len:=0) (parts:=[]) dh.h dx.h .nil (vs:=[]) rfl rfl rfl (by simp)) (fun k3=>?_)
 refine iR (.cons .h .nil) (bQ (Ro:=(aC az)) (E:=3) (F:=[]) (xs:=([]:List Int)) bP rfl rfl) ?_
 refine dm ?_
 refine iq rfl .no rfl (fun ha=>bO (g:=true) (len:=1) (parts:=[(0,.tmp 11)]) dh.h dx.h (.cons (EN ha (.tmp rfl rfl) rfl) .nil) (vs:=[(zi nL)]) rfl rfl rfl (by intro v hv; simp at hv; rcases hv with rfl<;>rfl)) (fun k4=>?_)
 refine iR (.cons .h .nil) (bQ (Ro:=(aC az)) (E:=3) (F:=([]++[])) (xs:=([nL]:List Int)) (d_ (jh (fun _=>rfl)) bP cK) rfl rfl) ?_
 refine iq rfl .no rfl (fun ha=>bO (g:=true) (len:=0) (parts:=[]) dh.h dx.h .nil (vs:=[]) rfl rfl rfl (by simp)) (fun k5=>?_)
 refine iR (.cons .h .nil) (bQ (Ro:=(aC az)) (E:=3) (F:=[]) (xs:=([]:List Int)) bP rfl rfl) ?_
 refine dm ?_
 refine iq rfl .no rfl (fun ha=>bO (g:=true) (len:=1) (parts:=[(0,.tmp 18)]) dh.h dx.h (.cons (EN ha (.tmp rfl rfl) rfl) .nil) (vs:=[(zi aS)]) rfl rfl rfl (by intro v hv; simp at hv; rcases hv with rfl<;>rfl)) (fun k6=>?_)
 refine iR (.cons .h .nil) (bQ (Ro:=(aC az)) (E:=3) (F:=([]++[])) (xs:=([aS]:List Int)) (d_ (jh (fun _=>rfl)) bP cK) rfl rfl) ?_
 refine bnd hF fun z7 tN hF=>cO rfl rfl .no (.cons .q3 (.rd .q5 rfl .nil)) (.own .h (by simp[aU]) (.own (.t .h) (by simp[aU]) (.own .q2 (by simp[aU]) (.dep rfl .nil)))) (fun ha=>dV (Ro:=(aC az)) dh.h iQ dx.h rfl rfl rfl (EN ha (.tmp rfl rfl) rfl) (EN ha (.tmp rfl rfl) rfl) tN mg) (fun p9=>?_)
 refine bnd hF fun z10 kW hF=>cO rfl rfl .no (.cons .h (.cons .q2 .nil)) (.own .h (by simp[aU]) (.own (.t .h) (by simp[aU]) (.dep rfl (.dep rfl .nil)))) (fun ha=>dV (Ro:=(aC az)) dh.h iQ dx.h rfl rfl rfl (EN ha (.tmp rfl rfl) rfl) (EN ha (.tmp rfl rfl) rfl) kW fw) (fun oC=>?_)
 refine bnd hF fun FE j5 hF=>cO rfl rfl .no (.cons .q2 (.rd .q5 rfl .nil)) (.own (.t .h) (by simp[aU]) (.dep rfl (.dep rfl (.dep rfl .nil)))) (fun ha=>dV (Ro:=(aC az)) dh.h iQ dx.h rfl rfl rfl (EN ha (.tmp rfl rfl) rfl) (EN ha (.tmp rfl rfl) rfl) j5 mg) (fun ni=>?_)
 refine bnd hF fun z16 jF hF=>cO rfl rfl .no (.cons .h (.cons (.t .h) .nil)) (.dep rfl (.dep rfl (.dep rfl (.dep rfl .nil)))) (fun ha=>dV (Ro:=(aC az)) dh.h iQ dx.h rfl rfl rfl (EN ha (.tmp rfl rfl) rfl) (EN ha (.tmp rfl rfl) rfl) jF fw) (fun C9=>?_)
 refine bW rfl .no (fun ha=>iB iI.h rfl (vs:=[oC.1.v,C9.1.v]) (.cons (EN ha (.tmp rfl rfl) rfl) (.cons (EN ha (.tmp rfl rfl) rfl) .nil)) (cells:=[oC.1.v,C9.1.v]) rfl) ?_
 refine cO rfl rfl .no (.cons .q2 .nil) (.dep rfl (.dep rfl (.dep rfl (.dep rfl .nil)))) (fun ha=>gz (e':=(zg [oC.1.v,C9.1.v])) (v:=(zg [oC.1.v,C9.1.v])) iI.h.sz (EN ha (.tmp rfl rfl) rfl) (EN ha (.tmp rfl rfl) rfl) rfl rfl rfl rfl rfl) (fun _=>?_)
 refine du ?_
 refine au ?_
 cases hF
 exact Er (oC.1,oC.2,C9.1,C9.2)
def G5(aR:bz)(wC:Int):Nat->Int->Option (Int)
 |0,_=>none
 |m6+1,c5=>if ((decide ((c5:Int)<(aR.Vars.length:Int)))&&(decide ((c5:Int)<(aR.Values.length:Int))))then (
     (ix aR.Vars c5).bind fun nT=>
     if ((nT:Int)==wC)then (
       (ix aR.Values c5).bind fun jX=>
       some jX)
     else (
       G5 aR wC m6 (IntKind.i64.wrap (c5+1))))
   else (
     some (-1))
def xq(aR:bz)(wC:Int):Option (Int):=
 (Ba wC).bind fun r2=>
 if (!r2)then (
   some wC)
 else (
   G5 aR wC (((aR.Vars.length:Int)-0).toNat+2) 0)
theorem Ot{aR:bz}{ae aO:Sv}{wC R:Int}(hF:xq aR wC=some R):
   Fw.Spec Tryz.prog 188 [(zg [ae.v,aO.v]),(zi wC)] [ah ae aR.Vars,ah aO aR.Values] (fun _:Unit=>(zi R)) (fun _=>[]):=by
 refine Se 36 Tryz.func188 [.tmp 4] ?_
 intro H0 F0
 unfold xq at hF
 refine au ?_
 refine bN (fun k1=>?_)
 refine aY ?_
 refine bnd hF fun r2 hx3 hF=>bD (K8 hx3) (fun _=>?_)
 refine aT ?_
 refine Ci hF (fun Ja hF=>?_) (fun Ja hF=>?_)
 · exact ze hF
 refine aY ?_
 refine bi (bT (m:=(((aR.Vars.length:Int)-0).toNat+2)) (fun m6 f' cs'=>∃(g:Fr)(c5:Int),f'=aQ g [(1,(zi wC)),(2,(pz k1)),(5,(zi c5))]/\aN cs' [aX k1 183 (zg [ae.v,aO.v]),ah ae aR.Vars,ah aO aR.Values]/\G5 aR wC m6 c5=some R) ⟨_,_,aA,ay,hF⟩ ?_)
 rintro m6 _ _ ⟨g7,c5,rfl,hE,hF⟩
 refine bq hE ?_
 rcases m6 with _|m6
 · rw[G5]at hF
   exact absurd hF (by simp)
 rw[G5]at hF
 refine aT ?_
 refine eX (fun f' cs'=>∃(g:Fr),f'=aQ g [(1,(zi wC)),(2,(pz k1)),(5,(zi c5)),(21,(.bool ((decide ((c5:Int)<(aR.Vars.length:Int)))&&(decide ((c5:Int)<(aR.Values.length:Int))))))]/\aN cs' [aX k1 183 (zg [ae.v,aO.v]),ah ae aR.Vars,ah aO aR.Values]) ?_ ?_
 · refine bB ?_
   rcases bE (decide ((c5:Int)<(aR.Vars.length:Int)))with yz|yz
   · rw[yz]
     try rw[yz]at hF; dsimp only[aJ,aI]at hF
     refine EE ?_
     exact⟨_,aA,ay⟩
   rw[yz]
   try rw[yz]at hF; dsimp only[aJ,aI]at hF
   refine bH ?_
   exact⟨_,aA,ay⟩
 rintro _ _ ⟨g15,rfl,hE⟩
 refine bq hE ?_
 refine Ci hF (fun Cz hF=>?_) (fun Cz hF=>?_)
 · refine bB ?_
   refine zI hF fun nT MM kM hF=>?_
   refine Ai kM (fun k20 CZ=>?_)
   refine Al dN ?_
   refine bu ?_
   refine Ci hF (fun xY hF=>?_) (fun xY hF=>?_)
   · refine bg ?_
     refine zI hF fun jX acC hx25 hF=>?_
     refine Ai hx25 (fun k26 TH=>?_)
     refine Al dN ?_
     exact ze hF
   refine bB ?_
   exact⟨m6,bX _,_,_,aA,ay,hF⟩
 exact ze hF
def Dp(om:List Int)(oo:List Int)(c212:List Fact)(tJ:Atom):Nat->(List Int)->Int->Option ((List Fact))
 |0,_,_=>none
 |Jq+1,wO,vF=>if (decide ((vF:Int)<(tJ.Terms.length:Int)))then (
     (ix tJ.Terms vF).bind fun ajR=>
     (xq (⟨om,oo⟩:bz) ajR).bind fun Xv=>
     (app wO ([Xv]:List Int)).bind fun ajS=>
     Dp om oo c212 tJ Jq ajS (IntKind.i64.wrap (vF+1)))
   else (
     (xn c212 (⟨tJ.Rel,wO⟩:Fact)).bind fun ajT=>
     some ajT)
def F_(om:List Int)(oo:List Int):List Atom->Nat->(List Fact)->Option ((List Fact)×bz×Bool)
 |[],yA,c212=>some (c212,(⟨om,oo⟩:bz),true)
 |tJ::Bc,yA,c212=>(Dp om oo c212 tJ (((tJ.Terms.length:Int)-0).toNat+2) ([]:List Int) 0).bind fun Xw=>
   match Xw with
   |RU=>F_ om oo Bc (yA+1) RU
def Gc(r3:(List Int)):Nat->Int->Option (Int)
 |0,_=>none
 |Jr+1,EZ=>(Bb r3 EZ).bind fun ajU=>
   if ajU then (
     Gc r3 Jr (IntKind.i64.wrap (EZ+1)))
   else (
     some EZ)
def Dq(aK:Query)(r3:(List Int))(fuel:Nat):List Int->Nat->(List Int)->(List Int)->Int->Option ((List Fact)×bz×Bool)
 |[],tK,om,oo,c198=>F_ om oo aK.Atoms 0 ([]:List Fact)
 |ajV::Bd,tK,om,oo,c198=>(((Gc r3 fuel c198).bind fun Xx=>
     match Xx with
     |Js=>if (decide ((9:Int)<Js))then (
         some (.inl (([]:List Fact),(⟨[],[]⟩:bz),false)))
       else (
         (Ep (⟨om,oo⟩:bz) ajV Js).bind fun acD=>
         some (.inr (acD.Vars,acD.Values,(IntKind.i64.wrap (Js+1)))))):Option (Sum ((List Fact)×bz×Bool) ((List Int)×(List Int)×Int))).bind fun acE=>
   match acE with
   | .inl r=>some r
   | .inr (RV,RX,RY)=>Dq aK r3 fuel Bd (tK+1) RV RX RY
def Ob(fuel:Nat)(aK:Query):Option ((List Fact)×bz×Bool):=
 (KI aK).bind fun r3=>
 (Iu aK).bind fun r6=>
 Dq aK r3 fuel r6 0 ([]:List Int) ([]:List Int) 0
theorem alJ{fuel:Nat}{aK:Query}{ae aO:Sv}{R:(List Fact)×bz×Bool}(hF:Ob fuel aK=some R):
   Fw.Spec Tryz.prog 202 [(zg [ae.v,aO.v])] [ah ae aK.Head,eQ aO aK.Atoms] (fun p:Sv×List Nat×Sv×List Nat×Sv×List Nat=>(.tuple [p.1.v,(zg [p.2.2.1.v,p.2.2.2.2.1.v]),(.bool R.2.2)].toArray)) (fun p=>[eG p.2.1 p.1 R.1,bI p.2.2.2.1 p.2.2.1 R.2.1.Vars,bI p.2.2.2.2.2 p.2.2.2.2.1 R.2.1.Values]):=by
 refine Se 90 Tryz.func202 [.tmp 2,.cell 3 183,.tmp 4] ?_
 intro H0 F0
 unfold Ob at hF
 refine au ?_
 refine bN (fun k1=>?_)
 refine au ?_
 refine dX (fun k2=>?_)
 refine bg ?_
 refine bnd hF fun r3 hx4 hF=>gy (aek hx4) (fun p5=>?_)
 refine bg ?_
 refine bnd hF fun r6 hx7 hF=>gy (Zk hx7) (fun p8=>?_)
 refine bu ?_
 refine aP (iB iI.h rfl (vs:=[]) .nil (cells:=[(.slice none 0 0),(.slice none 0 0)]) rfl) ?_
 refine dX (fun k9=>?_)
 refine As (.agg ([(.slice none 0 0),(.slice none 0 0)]:List Value).toArray) ?_
 refine dL ?_
 refine bi (iD (.t .h) aG ?_)
 refine bT (m:=r6.length) (fun ajW f' cs'=>∃(g:Fr)(tK:Nat)(Bd om oo:List Int)(c198:Int)(v193:Sv)(E5:List Nat)(v196:Sv)(E8:List Nat),ajW=Bd.length/\f'=aQ g [(1,(pz k1)),(3,(pz k2)),(5,p5.1.v),(6,p8.1.v),(7,(pz k9)),(8,(zi c198)),(9,(zi (tK:Int)))]/\List.drop tK r6=Bd/\aN cs' [aX k1 120 (zg [ae.v,aO.v]),ah ae aK.Head,eQ aO aK.Atoms,aW k2 183 (.agg ([(.slice none 0 0),(.slice none 0 0)]:List Value).toArray),bI p5.2 p5.1 r3,ah p8.1 r6,aW k9 183 (zg [v193.v,v196.v]),bI E5 v193 om,bI E8 v196 oo]/\Dq aK r3 fuel Bd tK om oo c198=some R) ⟨_,0,_,_,_,_,⟨none,0,0⟩,[],⟨none,0,0⟩,[],rfl,aA,rfl,(.conv .nil (gT (Ro:=(aC az)) (E:=3)) (.cons .nil) (.conv .nil (gT (Ro:=(aC az)) (E:=3)) (.cons .nil) ay)),hF⟩ ?_
 rintro ajW _ _ ⟨aDa,tK,Bd,om,oo,c198,v193,E5,v196,E8,rfl,rfl,aip,hE,hF⟩
 refine Kb hE r6 (fun azs=>?_)
 rcases Bd with _|⟨ajV,Bd⟩
 · have atO:=dn aip
   rw[Dq]at hF
   refine bH ?_
   refine dJ ?_
   refine aY ?_
   refine dF rfl (bO (g:=true) fH.h dZ.h .nil (vs:=[]) rfl rfl rfl (by simp)) (fun E9=>?_)
   refine dP (.cons .h .nil) (bQ (Ro:=gN) (E:=70) (F:=[]) (xs:=([]:List Fact)) bP rfl rfl) ?_
   refine bB ?_
   refine bi (bT (m:=aK.Atoms.length) (fun ajX f' cs'=>∃(g:Fr)(yA:Nat)(Bc:List Atom)(c212:List Fact)(MX:Sv)(Xy:List Nat),ajX=Bc.length/\f'=aQ g [(1,(pz k1)),(3,(pz k2)),(7,(pz k9)),(10,MX.v),(11,(zi (yA:Int)))]/\List.drop yA aK.Atoms=Bc/\aN cs' [aX k1 120 (zg [ae.v,aO.v]),ah ae aK.Head,eQ aO aK.Atoms,aW k2 183 (.agg ([(.slice none 0 0),(.slice none 0 0)]:List Value).toArray),aW k9 183 (zg [v193.v,v196.v]),bI E5 v193 om,bI E8 v196 oo,eG Xy MX c212]/\F_ om oo Bc yA c212=some R) ⟨_,0,_,_,⟨(some ⟨E9,0,none⟩),0,1⟩,(E9::[]),rfl,aA,rfl,ay,hF⟩ ?_)
   rintro ajX _ _ ⟨aDb,yA,Bc,c212,MX,Xy,rfl,rfl,aiq,hE,hF⟩
   refine Kb hE aK.Atoms (fun azt=>?_)
   rcases Bc with _|⟨tJ,Bc⟩
   · have atP:=dn aiq
     rw[F_]at hF
     refine dL ?_
     refine dJ ?_
     refine bg ?_
     refine dS [0,1,2,3,4] [0,0,1,7,15] [3] mixed (by decide+kernel) ?_
     refine du ?_
     refine dM rfl .no .q4 (fun ha hp=>h_ rJ.h iI.h.sz rfl (EN ha (.tmp rfl rfl) rfl) hp.2 rfl) ?_
     refine du ?_
     refine cO rfl rfl .no (.cons .q3 .nil) (.dep rfl .nil) (fun ha=>gz (e':=(zg [v193.v,v196.v])) (v:=(zg [v193.v,v196.v])) iI.h.sz (EN ha (.tmp rfl rfl) rfl) (EN ha (.tmp rfl rfl) rfl) rfl rfl rfl rfl rfl) (fun _=>?_)
     refine bR ?_
     refine au ?_
     cases hF
     exact gQ (MX,Xy,v193,E5,v196,E8) (.tmp rfl rfl (.cellA rfl rfl .h rfl rJ.h iI.h.sz rfl rfl (.tmp rfl rfl .nil))) rfl (.sel (.cons .q7 (.cons .q5 (.cons .q5 .nil))))
   obtain⟨atP,Ql,atQ⟩:=dz aiq
   rw[F_]at hF
   refine dL ?_
   refine dI ?_
   refine au ?_
   obtain⟨Xw,aqg,atS⟩:=bind_some hF
   refine iC (fun f' cs'=>∃(RU:List Fact)(Xz:Sv)(acF:List Nat)(g:Fr),RU=Xw/\f'=aQ g [(1,(pz k1)),(3,(pz k2)),(7,(pz k9)),(10,Xz.v),(11,(zi (yA:Int)))]/\aN cs' [aX k1 120 (zg [ae.v,aO.v]),ah ae aK.Head,eQ aO aK.Atoms,aW k2 183 (.agg ([(.slice none 0 0),(.slice none 0 0)]:List Value).toArray),aW k9 183 (zg [v193.v,v196.v]),bI E5 v193 om,bI E8 v196 oo,eG acF Xz RU]) ?_ ?_
   · replace hF:=aqg
     refine bi (dY (aP (iY (off:=1) Z9.h (.tmp rfl rfl)) ?_))
     refine aT ?_
     refine Ai Ql (fun aDc aDd=>?_)
     refine au ?_
     refine Al Z_ ?_
     refine aP (iB dZ.h rfl (vs:=[(zi tJ.Rel)]) b_ (cells:=[(zi tJ.Rel),(.slice none 0 0)]) rfl) ?_
     refine dX (fun ajY=>?_)
     refine As (zg [(zi tJ.Rel),(.slice none 0 0)]) ?_
     refine aY ?_
     refine bi (bT (m:=(((tJ.Terms.length:Int)-0).toNat+2)) (fun Jq f' cs'=>∃(g:Fr)(wO:List Int)(vF:Int)(CL:Sv)(MZ:List Nat),f'=aQ g [(1,(pz k1)),(3,(pz k2)),(7,(pz k9)),(10,MX.v),(11,(zi (yA:Int))),(12,(pz ajY)),(13,(zi vF))]/\aN cs' [aX k1 120 (zg [ae.v,aO.v]),ah ae aK.Head,eQ aO aK.Atoms,aW k2 183 (.agg ([(.slice none 0 0),(.slice none 0 0)]:List Value).toArray),aW k9 183 (zg [v193.v,v196.v]),bI E5 v193 om,bI E8 v196 oo,eG Xy MX c212,aW ajY 70 (zg [(zi tJ.Rel),CL.v]),bI MZ CL wO]/\Dp om oo c212 tJ Jq wO vF=some Xw) ⟨_,_,_,⟨none,0,0⟩,[],aA,(.conv .nil (gT (Ro:=(aC az)) (E:=3)) (.cons .nil) ay),hF⟩ ?_)
     rintro Jq _ _ ⟨axD,wO,vF,CL,MZ,rfl,hE,hF⟩
     refine bq hE ?_
     rcases Jq with _|Jq
     · rw[Dp]at hF
       exact absurd hF (by simp)
     rw[Dp]at hF
     refine bB ?_
     refine Ai Ql (fun aDe aDf=>?_)
     refine au ?_
     refine uL (R':=(aD 3 az)) iA.h (.tmp rfl rfl) .h zn (fun aDg=>?_)
     refine bu ?_
     refine Ci hF (fun atT hF=>?_) (fun atT hF=>?_)
     · refine aT ?_
       refine jf [0,1,2,3,4,5,6,7,8,9,10,11,12,13,14,15,16] [0,1,0,0,8,0,56,120,248,0,1016,2040,4092,8188,16383,32767,65535] [12,14,16] mixed (by decide+kernel) ?_
       refine du ?_
       refine dM rfl .no .q10 (fun ha hp=>fe (v:=CL.v) iA.h (EN ha (.tmp rfl rfl) rfl) hp.2 rfl rfl) ?_
       refine dM rfl .no .q6 (fun ha hp=>h_ rJ.h iI.h.sz rfl (EN ha (.tmp rfl rfl) rfl) hp.2 rfl) ?_
       refine dm ?_
       refine Di Ql (fun aDh aDi=>?_)
       refine du ?_
       refine n_ (R':=(aD 3 az)) iA.h rfl .no (.tmp rfl rfl) rfl .h zn (fun aDj=>?_)
       refine du ?_
       refine zI hF fun ajR aAL atU hF=>?_
       refine Di atU (fun aDk aDl=>?_)
       refine Dl dN ?_
       refine bnd hF fun Xv atW hF=>oV rfl rfl .no (.cons .q11 (.cons .q10 .nil)) (.dep rfl (.own .q11 (fun _ h=>h) .nil)) (fun ha=>jk (pre:=[]) (.cons aG (.cons aG .nil)) (fun _=>.nil) (bU aie.h (.cons (EN ha (.tmp rfl rfl) rfl) (.cons (EN ha (.tmp rfl rfl) rfl) .nil)) (Ot atW))) (fun _=>?_)
       refine iq rfl .no rfl (fun ha=>bO (g:=true) (len:=1) (parts:=[(0,.tmp 81)]) dh.h dx.h (.cons (EN ha (.tmp rfl rfl) rfl) .nil) (vs:=[(zi Xv)]) rfl rfl rfl (by intro v hv; simp at hv; rcases hv with rfl<;>rfl)) (fun aDm=>?_)
       refine iR (.cons .h .nil) (bQ (Ro:=(aC az)) (E:=3) (F:=([]++[])) (xs:=([Xv]:List Int)) (d_ (jh (fun _=>rfl)) bP cK) rfl rfl) ?_
       refine bnd hF fun ajS atX hF=>cO rfl rfl .no (.cons (.t (.t (.t (.t (.t (.t (.t (.t (.t (.t (.t (.t (.t (.t (.t .h))))))))))))))) (.cons .h .nil)) (.dep rfl (.dep rfl (.dep rfl .nil))) (fun ha=>dV (Ro:=(aC az)) dh.h iQ dx.h rfl rfl rfl (EN ha (.tmp rfl rfl) rfl) (EN ha (.tmp rfl rfl) rfl) atX fw) (fun acG=>?_)
       refine du ?_
       refine cO rfl rfl .no (.cons .q14 .nil) (.dep rfl (.dep rfl (.dep rfl .nil))) (fun ha=>gz (e':=(zg [(zi tJ.Rel),acG.1.v])) pE.h.sz (EN ha (.tmp rfl rfl) rfl) (EN ha (.tmp rfl rfl) rfl) rfl rfl rfl rfl rfl) (fun _=>?_)
       refine du ?_
       refine aY ?_
       exact⟨Jq,bX _,_,_,_,acG.1,acG.2,aA,ay,hF⟩
     refine bH ?_
     refine bnd hF fun ajT atY hF=>QZ (.cons .q11 (.cons .q9 .nil)) (jk (pre:=[]) (.cons aG (.cons aG .nil)) (fun _=>(.cons .nil)) (bU Q5.h b_ (KM atY))) (fun ajZ=>?_)
     refine aT ?_
     cases hF
     exact⟨_,ajZ.1,ajZ.2,_,rfl,aA,ay⟩
   rintro _ _ ⟨RU,Xz,acF,aDn,rfl,rfl,hE⟩
   replace hF:=atS
   try dsimp only at hF
   refine bq hE ?_
   refine aY ?_
   rw[wk yA]
   exact⟨_,bX _,_,yA+1,Bc,_,Xz,acF,rfl,aA,atQ,ay,hF⟩
 obtain⟨atO,atZ,at0⟩:=dz aip
 rw[Dq]at hF
 refine bH ?_
 refine dI ?_
 refine au ?_
 obtain⟨acE,aqh,air⟩:=bind_some hF
 refine iC (fun f' cs'=>∃(RV RX:List Int)(RY:Int)(XA:Sv)(acH:List Nat)(XB:Sv)(acI:List Nat)(g:Fr),acE= .inr (RV,RX,RY)/\f'=aQ g [(1,(pz k1)),(3,(pz k2)),(5,p5.1.v),(6,p8.1.v),(7,(pz k9)),(8,(zi RY)),(9,(zi (tK:Int)))]/\aN cs' [aX k1 120 (zg [ae.v,aO.v]),ah ae aK.Head,eQ aO aK.Atoms,aW k2 183 (.agg ([(.slice none 0 0),(.slice none 0 0)]:List Value).toArray),bI p5.2 p5.1 r3,ah p8.1 r6,aW k9 183 (zg [XA.v,XB.v]),bI acH XA RV,bI acI XB RX]) ?_ ?_
 · replace hF:=aqh
   refine bi ?_
   obtain⟨Xx,aqi,at1⟩:=bind_some hF
   refine iC (fun f' cs'=>∃(Js:Int)(g:Fr),Js=Xx/\f'=aQ g [(1,(pz k1)),(3,(pz k2)),(5,p5.1.v),(6,p8.1.v),(7,(pz k9)),(8,(zi Js)),(9,(zi (tK:Int)))]/\aN cs' [aX k1 120 (zg [ae.v,aO.v]),ah ae aK.Head,eQ aO aK.Atoms,aW k2 183 (.agg ([(.slice none 0 0),(.slice none 0 0)]:List Value).toArray),bI p5.2 p5.1 r3,ah p8.1 r6,aW k9 183 (zg [v193.v,v196.v]),bI E5 v193 om,bI E8 v196 oo]) ?_ ?_
   · replace hF:=aqi
     refine bi (bT (m:=fuel) (fun Jr f' cs'=>∃(g:Fr)(EZ:Int),f'=aQ g [(1,(pz k1)),(3,(pz k2)),(5,p5.1.v),(6,p8.1.v),(7,(pz k9)),(8,(zi EZ)),(9,(zi (tK:Int)))]/\aN cs' [aX k1 120 (zg [ae.v,aO.v]),ah ae aK.Head,eQ aO aK.Atoms,aW k2 183 (.agg ([(.slice none 0 0),(.slice none 0 0)]:List Value).toArray),bI p5.2 p5.1 r3,ah p8.1 r6,aW k9 183 (zg [v193.v,v196.v]),bI E5 v193 om,bI E8 v196 oo]/\Gc r3 Jr EZ=some Xx) ⟨_,_,aA,ay,hF⟩ ?_)
     rintro Jr _ _ ⟨aDo,EZ,rfl,hE,hF⟩
     refine bq hE ?_
     rcases Jr with _|Jr
     · rw[Gc]at hF
       exact absurd hF (by simp)
     rw[Gc]at hF
     refine bg ?_
     refine bnd hF fun ajU at5 hF=>ed (.cons .q4 .nil) (jT aG (fun _=>.nil) (bU V3.h b_ (O0 at5))) (fun _=>?_)
     refine au ?_
     refine Ci hF (fun at6 hF=>?_) (fun at6 hF=>?_)
     · refine au ?_
       refine bi (xh (Cm (zi EZ) rfl rfl ?_))
       refine bu ?_
       exact⟨Jr,bX _,_,_,aA,ay,hF⟩
     exact bJ hF
   rintro _ _ ⟨Js,aDp,rfl,rfl,hE⟩
   replace hF:=at1
   try dsimp only at hF
   refine bq hE ?_
   refine aY ?_
   refine Ci hF (fun at7 hF=>?_) (fun at7 hF=>?_)
   · refine au ?_
     refine dF rfl (bO (g:=true) fH.h dZ.h .nil (vs:=[]) rfl rfl rfl (by simp)) (fun aj0=>?_)
     refine dP (.cons .h .nil) (bQ (Ro:=gN) (E:=70) (F:=[]) (xs:=([]:List Fact)) bP rfl rfl) ?_
     refine aP (iB iI.h rfl (vs:=[]) .nil (cells:=[(.slice none 0 0),(.slice none 0 0)]) rfl) ?_
     refine au ?_
     refine As (.agg ([(.slice none 0 0),(.slice none 0 0)]:List Value).toArray) ?_
     refine bu ?_
     cases hF
     replace hF:=air
     try dsimp only at hF
     cases hF
     exact gQ (⟨(some ⟨aj0,0,none⟩),0,1⟩,(aj0::[]),⟨none,0,0⟩,[],⟨none,0,0⟩,[]) (.tmp rfl rfl (.cellA rfl rfl .h rfl rJ.h iI.h.sz rfl rfl (.tmp rfl rfl .nil))) rfl (.conv .nil (gT (Ro:=(aC az)) (E:=3)) (.cons .nil) (.conv .nil (gT (Ro:=(aC az)) (E:=3)) (.cons .nil) (.sel (.cons .q3 (.cons (.t .h) (.cons .h .nil))))))
   refine au ?_
   refine dS [0,1,2,3,4,5,6,7] [0,0,0,6,14,0,63,127] [6,7] mixed (by decide+kernel) ?_
   refine dM rfl .no .q6 (fun ha hp=>h_ rJ.h iI.h.sz rfl (EN ha (.tmp rfl rfl) rfl) hp.2 rfl) ?_
   refine bR ?_
   refine Di atZ (fun aDq aDr=>?_)
   refine Dl dN ?_
   refine du ?_
   refine bnd hF fun acD aua hF=>VG rfl rfl .no (.cons .q9 (.cons .q8 .nil)) (.dep rfl .nil) (fun ha=>jk (pre:=[]) (.cons aG (.cons aG .nil)) (fun _=>(.cons (.cons .nil))) (bU aid.h (.cons (EN ha (.tmp rfl rfl) rfl) (.cons (EN ha (.tmp rfl rfl) rfl) (.cons (EN ha (.tmp rfl rfl) rfl) .nil))) (afX aua))) (fun E_=>?_)
   refine cO rfl rfl .no (.cons .q11 .nil) (.dep rfl .nil) (fun ha=>gz (e':=(zg [E_.1.v,E_.2.2.1.v])) (v:=(zg [E_.1.v,E_.2.2.1.v])) iI.h.sz (EN ha (.tmp rfl rfl) rfl) (EN ha (.tmp rfl rfl) rfl) rfl rfl rfl rfl rfl) (fun _=>?_)
   refine du ?_
   refine aY ?_
   cases hF
   exact⟨_,_,_,E_.1,E_.2.1,E_.2.2.1,E_.2.2.2,_,rfl,aA,ay⟩
 rintro _ _ ⟨RV,RX,RY,XA,acH,XB,acI,aDs,rfl,rfl,hE⟩
 replace hF:=air
 try dsimp only at hF
 refine bq hE ?_
 refine aY ?_
 rw[wk tK]
 exact⟨_,bX _,_,tK+1,Bd,_,_,_,XA,acH,XB,acI,rfl,aA,at0,ay,hF⟩
def DD(pI:(List Fact)×bz×Bool):List Fact->Nat->(List Fact)->Option ((List Fact)×bz×Bool)
 |[],zN,tF=>some (tF,pI.2.1,pI.2.2)
 |M0::Be,zN,tF=>(if (decide ((M0.Rel:Int)<3))then (
       (app tF ([M0]:List Fact)).bind fun aj1=>
       some aj1)
     else (
       some tF)).bind fun acJ=>
   match acJ with
   |RZ=>DD pI Be (zN+1) RZ
def Ag(r4:Query)(fuel:Nat):List Int->Nat->(List Atom)->Option ((List Fact)×bz×Bool)
 |[],zO,qZ=>(Ob fuel (⟨r4.Head,qZ⟩:Query)).bind fun pI=>
   DD pI pI.1 0 ([]:List Fact)
 |M3::Bf,zO,qZ=>(app qZ ([(⟨3,([M3]:List Int)⟩:Atom)]:List Atom)).bind fun z213=>
   Ag r4 fuel Bf (zO+1) z213
def O1(fuel:Nat)(r_:Query)(aK:Query):Option ((List Fact)×bz×Bool):=
 (LG r_).bind fun r4=>
 (KI aK).bind fun r8=>
 Ag r4 fuel r8 0 r4.Atoms
theorem amR{fuel:Nat}{r_:Query}{ae aO:Sv}{aK:Query}{ax aV:Sv}{R:(List Fact)×bz×Bool}(hF:O1 fuel r_ aK=some R):
   Fw.Spec Tryz.prog 194 [(zg [ae.v,aO.v]),(zg [ax.v,aV.v])] [ah ae r_.Head,eQ aO r_.Atoms,ah ax aK.Head,eQ aV aK.Atoms] (fun p:Sv×List Nat×Sv×List Nat×Sv×List Nat=>(.tuple [p.1.v,(zg [p.2.2.1.v,p.2.2.2.2.1.v]),(.bool R.2.2)].toArray)) (fun p=>[abU p.2.1 p.1 R.1,bI p.2.2.2.1 p.2.2.1 R.2.1.Vars,bI p.2.2.2.2.2 p.2.2.2.2.1 R.2.1.Values]):=by
 refine Se 65 Tryz.func194 [.tmp 4,.cell 5 183,.tmp 6] ?_
 intro H0 F0
 unfold O1 at hF
 refine au ?_
 refine bN (fun k1=>?_)
 refine bN (fun k2=>?_)
 refine au ?_
 refine dX (fun k3=>?_)
 refine bg ?_
 refine bnd hF fun r4 hx5 hF=>zV (afW hx5) (fun p6=>?_)
 refine dX (fun k7=>?_)
 refine As (zg [p6.1.v,p6.2.2.1.v]) ?_
 refine bu ?_
 refine bnd hF fun r8 bY hF=>gy (aek bY) (fun gH=>?_)
 refine bB ?_
 refine bi (iD .h aG ?_)
 refine bT (m:=r8.length) (fun aj2 f' cs'=>∃(g:Fr)(zO:Nat)(Bf:List Int)(qZ:List Atom)(XD:Sv)(aj3:List Nat),aj2=Bf.length/\f'=aQ g [(5,(pz k3)),(7,(pz k7)),(8,gH.1.v),(9,(zi (zO:Int)))]/\List.drop zO r8=Bf/\aN cs' [aW k3 183 (.agg ([(.slice none 0 0),(.slice none 0 0)]:List Value).toArray),aW k7 120 (zg [p6.1.v,XD.v]),bI p6.2.1 p6.1 r4.Head,qd aj3 XD qZ,ah gH.1 r8]/\Ag r4 fuel Bf zO qZ=some R) ⟨_,0,_,_,p6.2.2.1,p6.2.2.2,rfl,aA,rfl,ay,hF⟩ ?_
 rintro aj2 _ _ ⟨axE,zO,Bf,qZ,XD,aj3,rfl,rfl,ais,hE,hF⟩
 refine Kb hE r8 (fun azu=>?_)
 rcases Bf with _|⟨M3,Bf⟩
 · have aub:=dn ais
   rw[Ag]at hF
   refine bH ?_
   refine dJ ?_
   refine bB ?_
   refine bnd hF fun pI aaU hF=>avI (.cons .q3 (.cons .q2 .nil)) (jk (pre:=[]) (.cons aG (.cons aG .nil)) (fun _=>(.cons (.cons (.cons .nil)))) (bU asB.h b_ (alJ aaU))) (fun l6=>?_)
   refine au ?_
   refine zx ?_
   refine zx ?_
   refine zx ?_
   refine dX (fun XE=>?_)
   refine au ?_
   refine As (zg [l6.2.2.1.v,l6.2.2.2.2.1.v]) ?_
   refine bu ?_
   refine dF rfl (bO (g:=true) fH.h dZ.h .nil (vs:=[]) rfl rfl rfl (by simp)) (fun acK=>?_)
   refine dP (.cons .h .nil) (bQ (Ro:=(aC mI)) (E:=70) (F:=[]) (xs:=([]:List Fact)) bP rfl rfl) ?_
   refine bB ?_
   refine bi (iD .q4 aG ?_)
   refine bT (m:=pI.1.length) (fun aj4 f' cs'=>∃(g:Fr)(zN:Nat)(Be tF:List Fact)(R3:Sv)(XF:List Nat),aj4=Be.length/\f'=aQ g [(5,(pz k3)),(10,l6.1.v),(11,(pz XE)),(12,(.bool pI.2.2)),(13,R3.v),(14,(zi (zN:Int)))]/\List.drop zN pI.1=Be/\aN cs' [aW k3 183 (.agg ([(.slice none 0 0),(.slice none 0 0)]:List Value).toArray),bG l6.1 pI.1,aW XE 183 (zg [l6.2.2.1.v,l6.2.2.2.2.1.v]),bI l6.2.2.2.1 l6.2.2.1 pI.2.1.Vars,bI l6.2.2.2.2.2 l6.2.2.2.2.1 pI.2.1.Values,abU XF R3 tF]/\DD pI Be zN tF=some R) ⟨_,0,_,_,⟨(some ⟨acK,0,none⟩),0,1⟩,(acK::[]),rfl,aA,rfl,ay,hF⟩ ?_
   rintro aj4 _ _ ⟨aDt,zN,Be,tF,R3,XF,rfl,rfl,ait,hE,hF⟩
   refine Kb hE pI.1 (fun azv=>?_)
   rcases Be with _|⟨M0,Be⟩
   · have auc:=dn ait
     rw[DD]at hF
     refine bH ?_
     refine dJ ?_
     refine bg ?_
     refine dS [0,1,2,3,4,5] [0,0,0,1,11,31] [4] mixed (by decide+kernel) ?_
     refine du ?_
     refine dM rfl .no .q2 (fun ha hp=>h_ rJ.h iI.h.sz rfl (EN ha (.tmp rfl rfl) rfl) hp.2 rfl) ?_
     refine bR ?_
     refine cO rfl rfl .no (.cons .h .nil) (.dep rfl .nil) (fun ha=>gz (e':=(zg [l6.2.2.1.v,l6.2.2.2.2.1.v])) (v:=(zg [l6.2.2.1.v,l6.2.2.2.2.1.v])) iI.h.sz (EN ha (.tmp rfl rfl) rfl) (EN ha (.tmp rfl rfl) rfl) rfl rfl rfl rfl rfl) (fun _=>?_)
     refine bR ?_
     refine au ?_
     cases hF
     exact gQ (R3,XF,l6.2.2.1,l6.2.2.2.1,l6.2.2.2.2.1,l6.2.2.2.2.2) (.tmp rfl rfl (.cellA rfl rfl .h rfl rJ.h iI.h.sz rfl rfl (.tmp rfl rfl .nil))) rfl (.sel (.cons .q5 (.cons .q3 (.cons .q3 .nil))))
   obtain⟨auc,aiu,aud⟩:=dz ait
   rw[DD]at hF
   refine bH ?_
   refine dI ?_
   refine au ?_
   obtain⟨acJ,aqj,aue⟩:=bind_some hF
   refine iC (fun f' cs'=>∃(RZ:List Fact)(XG:Sv)(acL:List Nat)(g:Fr),RZ=acJ/\f'=aQ g [(5,(pz k3)),(10,l6.1.v),(11,(pz XE)),(12,(.bool pI.2.2)),(13,XG.v),(14,(zi (zN:Int)))]/\aN cs' [aW k3 183 (.agg ([(.slice none 0 0),(.slice none 0 0)]:List Value).toArray),bG l6.1 pI.1,aW XE 183 (zg [l6.2.2.1.v,l6.2.2.2.2.1.v]),bI l6.2.2.2.1 l6.2.2.1 pI.2.1.Vars,bI l6.2.2.2.2.2 l6.2.2.2.2.1 pI.2.1.Values,abU acL XG RZ]) ?_ ?_
   · replace hF:=aqj
     refine bi (dY (Cm l6.1.v rfl rfl ?_))
     refine au ?_
     refine Ai aiu (fun aDu aDv=>?_)
     refine au ?_
     refine Al Bp ?_
     refine aT ?_
     refine Ci hF (fun auf hF=>?_) (fun auf hF=>?_)
     · refine bg ?_
       refine Ai aiu (fun aDw aDx=>?_)
       refine mX (lU M0) mf (fun axF=>?_)
       refine dF rfl (bO (g:=true) fH.h dZ.h b_ (vs:=[(zg [(zi M0.Rel),axF.v])]) rfl rfl rfl (by intro v hv; simp at hv; rcases hv with rfl<;>rfl)) (fun axG=>?_)
       refine dP (.cons .h (.rd .h rfl .nil)) (bQ (Ro:=(aC mI)) (E:=70) (F:=([]++[])) (xs:=([M0]:List Fact)) (d_ awk bP cK) rfl rfl) ?_
       refine bnd hF fun aj1 aug hF=>ed (.cons .q9 (.cons .h .nil)) (dV (Ro:=(aC mI)) fH.h xS dZ.h rfl rfl rfl (.tmp rfl rfl) (.tmp rfl rfl) aug fw) (fun aj5=>?_)
       refine aT ?_
       cases hF
       exact⟨_,aj5.1,aj5.2,_,rfl,aA,ay⟩
     refine au ?_
     cases hF
     exact⟨_,R3,XF,_,rfl,aA,ay⟩
   rintro _ _ ⟨RZ,XG,acL,aDy,rfl,rfl,hE⟩
   replace hF:=aue
   try dsimp only at hF
   refine bq hE ?_
   refine aY ?_
   rw[wk zN]
   exact⟨_,bX _,_,zN+1,Be,_,XG,acL,rfl,aA,aud,ay,hF⟩
 obtain⟨aub,auh,aui⟩:=dz ais
 rw[Ag]at hF
 refine bH ?_
 refine dI ?_
 refine aT ?_
 refine jf [0,1,2,3,4,5,6,7,8,9,10,11] [0,1,0,0,12,28,60,124,252,511,1023,2047] [9,11] mixed (by decide+kernel) ?_
 refine du ?_
 refine dM rfl .no (.t .h) (fun ha hp=>fe (v:=XD.v) aay.h (EN ha (.tmp rfl rfl) rfl) hp.2 rfl rfl) ?_
 refine bR ?_
 refine Di auh (fun aDz aDA=>?_)
 refine Dl dN ?_
 refine iq rfl .no rfl (fun ha=>bO (g:=true) (len:=1) (parts:=[(0,.tmp 30)]) dh.h dx.h (.cons (EN ha (.tmp rfl rfl) rfl) .nil) (vs:=[(zi M3)]) rfl rfl rfl (by intro v hv; simp at hv; rcases hv with rfl<;>rfl)) (fun E9=>?_)
 refine iR (.cons .h .nil) (bQ (Ro:=(aC az)) (E:=3) (F:=([]++[])) (xs:=([M3]:List Int)) (d_ (jh (fun _=>rfl)) bP cK) rfl rfl) ?_
 refine bW rfl .no (fun ha=>iB qG.h rfl (vs:=[(zi 3),(.slice (some ⟨E9,0,none⟩) 1 1)]) (.cons (EN ha (.int _ _) rfl) (.cons (EN ha (.tmp rfl rfl) rfl) .nil)) (cells:=[(zi 3),(.slice (some ⟨E9,0,none⟩) 1 1)]) rfl) ?_
 refine iq rfl .no rfl (fun ha=>bO (g:=true) (len:=1) (parts:=[(0,.tmp 32)]) EC.h qG.h (.cons (EN ha (.tmp rfl rfl) rfl) .nil) (vs:=[(zg [(zi 3),(.slice (some ⟨E9,0,none⟩) 1 1)])]) rfl rfl rfl (by intro v hv; simp at hv; rcases hv with rfl<;>rfl)) (fun vE=>?_)
 refine iR (.cons .h (.cons .h .nil)) (bQ (Ro:=nA) (E:=159) (F:=((E9::([]++[]))++[])) (xs:=([(⟨3,([M3]:List Int)⟩:Atom)]:List Atom)) (d_ (VY (v0:=⟨(some ⟨E9,0,none⟩),1,1⟩) (a:=(⟨3,([M3]:List Int)⟩:Atom))) bP cK) rfl rfl) ?_
 refine bnd hF fun z213 aaT hF=>cO rfl rfl .no (.cons .q5 (.cons .h .nil)) (.dep rfl (.dep rfl (.dep rfl .nil))) (fun ha=>dV (Ro:=nA) EC.h VZ qG.h rfl rfl rfl (EN ha (.tmp rfl rfl) rfl) (EN ha (.tmp rfl rfl) rfl) aaT fw) (fun Jp=>?_)
 refine du ?_
 refine cO rfl rfl .no (.cons .q3 .nil) (.dep rfl (.dep rfl (.dep rfl .nil))) (fun ha=>gz (e':=(zg [p6.1.v,Jp.1.v])) aaz.h.sz (EN ha (.tmp rfl rfl) rfl) (EN ha (.tmp rfl rfl) rfl) rfl rfl rfl rfl rfl) (fun _=>?_)
 refine du ?_
 refine aY ?_
 rw[wk zO]
 exact⟨_,bX _,_,zO+1,Bf,_,Jp.1,Jp.2,rfl,aA,aui,ay,hF⟩
def D7(aR:bz):List Int->Nat->(List Int)->Option ((List Int))
 |[],k10,c4=>some c4
 |nU::Bz,k10,c4=>(xq aR nU).bind fun oD=>
   (app c4 ([oD]:List Int)).bind fun z25=>
   D7 aR Bz (k10+1) z25
def Lj(aK:Query)(aR:bz):Option ((List Int)):=
 D7 aR aK.Head 0 ([]:List Int)
theorem afs{aK:Query}{ae aO:Sv}{aR:bz}{ax aV:Sv}{R:(List Int)}(hF:Lj aK aR=some R):
   Fw.Spec Tryz.prog 196 [(zg [ae.v,aO.v]),(zg [ax.v,aV.v])] [ah ae aK.Head,eQ aO aK.Atoms,ah ax aR.Vars,ah aV aR.Values] (fun p:Sv×List Nat=>p.1.v) (fun p=>[bI p.2 p.1 R]):=by
 refine Se 26 Tryz.func196 [.tmp 4] ?_
 intro H0 F0
 unfold Lj at hF
 refine au ?_
 refine bN (fun k1=>?_)
 refine bN (fun k2=>?_)
 refine bu ?_
 refine dF rfl (bO (g:=true) dh.h dx.h .nil (vs:=[]) rfl rfl rfl (by simp)) (fun k3=>?_)
 refine dP (.cons .h .nil) (bQ (Ro:=(aC az)) (E:=3) (F:=[]) (xs:=([]:List Int)) bP rfl rfl) ?_
 refine bB ?_
 refine bi (bT (m:=aK.Head.length) (fun m8 f' cs'=>∃(g:Fr)(k10:Nat)(Bz c4:List Int)(v5:Sv)(F6:List Nat),m8=Bz.length/\f'=aQ g [(2,(pz k1)),(3,(pz k2)),(5,v5.v),(6,(zi (k10:Int)))]/\List.drop k10 aK.Head=Bz/\aN cs' [aX k1 120 (zg [ae.v,aO.v]),ah ae aK.Head,eQ aO aK.Atoms,aX k2 183 (zg [ax.v,aV.v]),ah ax aR.Vars,ah aV aR.Values,bI F6 v5 c4]/\D7 aR Bz k10 c4=some R) ⟨_,0,_,_,⟨(some ⟨k3,0,none⟩),0,1⟩,(k3::[]),rfl,aA,rfl,ay,hF⟩ ?_)
 rintro m8 _ _ ⟨g9,k10,Bz,c4,v5,F6,rfl,rfl,aj6,hE,hF⟩
 refine Kb hE aK.Head (fun aAM=>?_)
 rcases Bz with _|⟨nU,Bz⟩
 · have axH:=dn aj6
   rw[D7]at hF
   refine dL ?_
   refine dJ ?_
   refine gB ?_
   cases hF
   exact Er (v5,F6)
 obtain⟨axH,kz,Xg⟩:=dz aj6
 rw[D7]at hF
 refine dL ?_
 refine dI ?_
 refine aT ?_
 refine jf [0,1,2,3,4,5,6,7,8,9,10] [0,0,0,4,0,28,60,126,254,511,1023] [7,9] mixed (by decide+kernel) ?_
 refine sV ?_
 refine Di kz (fun k19 FH=>?_)
 refine Dl dN ?_
 refine bnd hF fun oD sZ hF=>eZ (Ot sZ) (fun _=>?_)
 refine iq rfl .no rfl (fun ha=>bO (g:=true) (len:=1) (parts:=[(0,.tmp 22)]) dh.h dx.h (.cons (EN ha (.tmp rfl rfl) rfl) .nil) (vs:=[(zi oD)]) rfl rfl rfl (by intro v hv; simp at hv; rcases hv with rfl<;>rfl)) (fun k24=>?_)
 refine iR (.cons .h .nil) (bQ (Ro:=(aC az)) (E:=3) (F:=([]++[])) (xs:=([oD]:List Int)) (d_ (jh (fun _=>rfl)) bP cK) rfl rfl) ?_
 refine bnd hF fun z25 nE hF=>cO rfl rfl .no (.cons .q8 (.cons .h .nil)) (.dep rfl .nil) (fun ha=>dV (Ro:=(aC az)) dh.h iQ dx.h rfl rfl rfl (EN ha (.tmp rfl rfl) rfl) (EN ha (.tmp rfl rfl) rfl) nE fw) (fun p27=>?_)
 refine bR ?_
 refine aY ?_
 rw[wk k10]
 exact⟨_,bX _,_,k10+1,Bz,_,p27.1,p27.2,rfl,aA,Xg,ay,hF⟩
def LH(aR:bz):Option (bz):=
 (app ([]:List Int) aR.Vars).bind fun z5=>
 (app ([]:List Int) aR.Values).bind fun z8=>
 some (⟨z5,z8⟩:bz)
theorem afY{aR:bz}{ae aO:Sv}{R:bz}(hF:LH aR=some R):
   Fw.Spec Tryz.prog 198 [(zg [ae.v,aO.v])] [ah ae aR.Vars,ah aO aR.Values] (fun p:Sv×List Nat×Sv×List Nat=>(zg [p.1.v,p.2.2.1.v])) (fun p=>[bI p.2.1 p.1 R.Vars,bI p.2.2.2 p.2.2.1 R.Values]):=by
 refine Se 12 Tryz.func198 [.cell 2 183] ?_
 intro H0 F0
 unfold LH at hF
 refine au ?_
 refine bN (fun k1=>?_)
 refine dX (fun k2=>?_)
 refine au ?_
 refine dS [0,1,2,4,5,6,3,7,8,9] [0,0,2,7,0,0,32,127,255,511] [3,7,9] mixed (by decide+kernel) ?_
 refine iq rfl .no rfl (fun ha=>bO (g:=true) (len:=0) (parts:=[]) dh.h dx.h .nil (vs:=[]) rfl rfl rfl (by simp)) (fun k3=>?_)
 refine iR (.cons .h .nil) (bQ (Ro:=(aC az)) (E:=3) (F:=[]) (xs:=([]:List Int)) bP rfl rfl) ?_
 refine bR ?_
 refine iq rfl .no rfl (fun ha=>bO (g:=true) (len:=0) (parts:=[]) dh.h dx.h .nil (vs:=[]) rfl rfl rfl (by simp)) (fun k4=>?_)
 refine iR (.cons .h .nil) (bQ (Ro:=(aC az)) (E:=3) (F:=[]) (xs:=([]:List Int)) bP rfl rfl) ?_
 refine bR ?_
 refine bnd hF fun z5 hx6 hF=>cO rfl rfl .no (.cons (.t .h) (.rd .q3 rfl .nil)) (.own .h (by simp[aU]) (.dep rfl .nil)) (fun ha=>dV (Ro:=(aC az)) dh.h iQ dx.h rfl rfl rfl (EN ha (.tmp rfl rfl) rfl) (EN ha (.tmp rfl rfl) rfl) hx6 mg) (fun p7=>?_)
 refine bnd hF fun z8 bY hF=>cO rfl rfl .no (.cons (.t .h) (.rd .q4 rfl .nil)) (.dep rfl (.dep rfl .nil)) (fun ha=>dV (Ro:=(aC az)) dh.h iQ dx.h rfl rfl rfl (EN ha (.tmp rfl rfl) rfl) (EN ha (.tmp rfl rfl) rfl) bY mg) (fun gH=>?_)
 refine bW rfl .no (fun ha=>iB iI.h rfl (vs:=[p7.1.v,gH.1.v]) (.cons (EN ha (.tmp rfl rfl) rfl) (.cons (EN ha (.tmp rfl rfl) rfl) .nil)) (cells:=[p7.1.v,gH.1.v]) rfl) ?_
 refine cO rfl rfl .no (.cons .q2 .nil) (.dep rfl (.dep rfl .nil)) (fun ha=>gz (e':=(zg [p7.1.v,gH.1.v])) (v:=(zg [p7.1.v,gH.1.v])) iI.h.sz (EN ha (.tmp rfl rfl) rfl) (EN ha (.tmp rfl rfl) rfl) rfl rfl rfl rfl rfl) (fun _=>?_)
 refine du ?_
 refine au ?_
 cases hF
 exact Er (p7.1,p7.2,gH.1,gH.2)
def G6(aR:bz)(nL:Int):Nat->Int->Option (Bool)
 |0,_=>none
 |m3+1,c2=>if ((decide ((c2:Int)<(aR.Vars.length:Int)))&&(decide ((c2:Int)<(aR.Values.length:Int))))then (
     (ix aR.Vars c2).bind fun oq=>
     if ((oq:Int)==nL)then (
       some true)
     else (
       G6 aR nL m3 (IntKind.i64.wrap (c2+1))))
   else (
     some false)
def Ll(aR:bz)(nL:Int):Option (Bool):=
 G6 aR nL (((aR.Vars.length:Int)-0).toNat+2) 0
theorem anv{aR:bz}{ae aO:Sv}{nL:Int}{R:Bool}(hF:Ll aR nL=some R):
   Fw.Spec Tryz.prog 199 [(zg [ae.v,aO.v]),(zi nL)] [ah ae aR.Vars,ah aO aR.Values] (fun _:Unit=>(.bool R)) (fun _=>[]):=by
 refine Se 27 Tryz.func199 [.tmp 4] ?_
 intro H0 F0
 unfold Ll at hF
 refine au ?_
 refine bN (fun k1=>?_)
 refine bB ?_
 refine bi (bT (m:=(((aR.Vars.length:Int)-0).toNat+2)) (fun m3 f' cs'=>∃(g:Fr)(c2:Int),f'=aQ g [(1,(zi nL)),(2,(pz k1)),(5,(zi c2))]/\aN cs' [aX k1 183 (zg [ae.v,aO.v]),ah ae aR.Vars,ah aO aR.Values]/\G6 aR nL m3 c2=some R) ⟨_,_,aA,ay,hF⟩ ?_)
 rintro m3 _ _ ⟨g4,c2,rfl,hE,hF⟩
 refine bq hE ?_
 rcases m3 with _|m3
 · rw[G6]at hF
   exact absurd hF (by simp)
 rw[G6]at hF
 refine aT ?_
 refine eX (fun f' cs'=>∃(g:Fr),f'=aQ g [(1,(zi nL)),(2,(pz k1)),(5,(zi c2)),(17,(.bool ((decide ((c2:Int)<(aR.Vars.length:Int)))&&(decide ((c2:Int)<(aR.Values.length:Int))))))]/\aN cs' [aX k1 183 (zg [ae.v,aO.v]),ah ae aR.Vars,ah aO aR.Values]) ?_ ?_
 · refine bB ?_
   rcases bE (decide ((c2:Int)<(aR.Vars.length:Int)))with dQ|dQ
   · rw[dQ]
     try rw[dQ]at hF; dsimp only[aJ,aI]at hF
     refine EE ?_
     exact⟨_,aA,ay⟩
   rw[dQ]
   try rw[dQ]at hF; dsimp only[aJ,aI]at hF
   refine bH ?_
   exact⟨_,aA,ay⟩
 rintro _ _ ⟨g12,rfl,hE⟩
 refine bq hE ?_
 refine Ci hF (fun nD hF=>?_) (fun nD hF=>?_)
 · refine bB ?_
   refine zI hF fun oq WZ hx16 hF=>?_
   refine Ai hx16 (fun k17 JC=>?_)
   refine Al dN ?_
   refine bu ?_
   refine Ci hF (fun vG hF=>?_) (fun vG hF=>?_)
   · exact ze hF
   refine bB ?_
   exact⟨m3,bX _,_,_,aA,ay,hF⟩
 exact ze hF
def Gs(bF:Fact):List Int->Nat->(List Int)->(List Int)->Option (bz×Bool)
 |[],vU,rz,yY=>some ((⟨rz,yY⟩:bz),true)
 |x82::BA,vU,rz,yY=>(((xq (⟨rz,yY⟩:bz) x82).bind fun FM=>
     ((Ba x82).bind fun acM=>
       bif acM then ((Ll (⟨rz,yY⟩:bz) x82).bind fun aj7=>
         some (!aj7))
       else (some false)).bind fun o96=>
     match o96 with
     |c109=>if c109 then (
         (ix bF.Values (vU:Int)).bind fun x112=>
         (Ep (⟨rz,yY⟩:bz) x82 x112).bind fun acN=>
         some (.inr (acN.Vars,acN.Values)))
       else (
         (ix bF.Values (vU:Int)).bind fun aj8=>
         if ((FM:Int)!=aj8)then (
           some (.inl ((⟨[],[]⟩:bz),false)))
         else (
           some (.inr (rz,yY))))):Option (Sum (bz×Bool) ((List Int)×(List Int)))).bind fun o89=>
   match o89 with
   | .inl r=>some r
   | .inr (c130,R4)=>Gs bF BA (vU+1) c130 R4
def OH(aR:bz)(aB:Atom)(bF:Fact):Option (bz×Bool):=
 (LH aR).bind fun r5=>
 if (((aB.Rel:Int)!=bF.Rel)||((((aB.Terms.length:Int):Int)!=(bF.Values.length:Int))||(((aR.Vars.length:Int):Int)!=(aR.Values.length:Int))))then (
   some ((⟨[],[]⟩:bz),false))
 else (
   Gs bF aB.Terms 0 r5.Vars r5.Values)
theorem amn{aR:bz}{ae aO:Sv}{aB:Atom}{aV:Sv}{bF:Fact}{dH:Sv}{R:bz×Bool}(hF:OH aR aB bF=some R):
   Fw.Spec Tryz.prog 191 [(zg [ae.v,aO.v]),(zg [(zi aB.Rel),aV.v]),(zg [(zi bF.Rel),dH.v])] [ah ae aR.Vars,ah aO aR.Values,ah aV aB.Terms,ah dH bF.Values] (fun p:Sv×List Nat×Sv×List Nat=>(.tuple [(zg [p.1.v,p.2.2.1.v]),(.bool R.2)].toArray)) (fun p=>[bI p.2.1 p.1 R.1.Vars,bI p.2.2.2 p.2.2.1 R.1.Values]):=by
 refine Se 88 Tryz.func191 [.cell 6 183,.tmp 7] ?_
 intro H0 F0
 unfold OH at hF
 refine au ?_
 refine bN (fun k1=>?_)
 refine bN (fun k2=>?_)
 refine bN (fun k3=>?_)
 refine dX (fun k4=>?_)
 refine bg ?_
 refine bnd hF fun r5 hx6 hF=>zV (afY hx6) (fun p7=>?_)
 refine dX (fun k8=>?_)
 refine As (zg [p7.1.v,p7.2.2.1.v]) ?_
 refine bu ?_
 refine eX (fun f' cs'=>∃(g:Fr),f'=aQ g [(4,(pz k2)),(5,(pz k3)),(6,(pz k4)),(8,(pz k8)),(35,(.bool (((aB.Rel:Int)!=bF.Rel)||((((aB.Terms.length:Int):Int)!=(bF.Values.length:Int))||(((aR.Vars.length:Int):Int)!=(aR.Values.length:Int))))))]/\aN cs' [aX k2 159 (zg [(zi aB.Rel),aV.v]),ah aV aB.Terms,aX k3 70 (zg [(zi bF.Rel),dH.v]),ah dH bF.Values,aW k4 183 (.agg ([(.slice none 0 0),(.slice none 0 0)]:List Value).toArray),aW k8 183 (zg [p7.1.v,p7.2.2.1.v]),bI p7.2.1 p7.1 r5.Vars,bI p7.2.2.2 p7.2.2.1 r5.Values]) ?_ ?_
 · refine bB ?_
   rcases bE ((aB.Rel:Int)!=bF.Rel)with TI|TI
   · rw[TI]
     try rw[TI]at hF; dsimp only[aJ,aI]at hF
     refine as0 ?_
     exact⟨_,aA,ay⟩
   rw[TI]
   try rw[TI]at hF; dsimp only[aJ,aI]at hF
   refine Qf ?_
   rcases bE (((aB.Terms.length:Int):Int)!=(bF.Values.length:Int))with qP|qP
   · rw[qP]
     try rw[qP]at hF; dsimp only[aJ,aI]at hF
     refine gB ?_
     exact⟨_,aA,ay⟩
   rw[qP]
   try rw[qP]at hF; dsimp only[aJ,aI]at hF
   refine Qf ?_
   exact⟨_,aA,ay⟩
 rintro _ _ ⟨g11,rfl,hE⟩
 refine bq hE ?_
 refine Ci hF (fun auj hF=>?_) (fun auj hF=>?_)
 · refine au ?_
   refine aP (iB iI.h rfl (vs:=[]) .nil (cells:=[(.slice none 0 0),(.slice none 0 0)]) rfl) ?_
   refine As (.agg ([(.slice none 0 0),(.slice none 0 0)]:List Value).toArray) ?_
   refine bu ?_
   cases hF
   exact gQ (⟨none,0,0⟩,[],⟨none,0,0⟩,[]) (.cellA rfl rfl .h rfl rJ.h iI.h.sz rfl rfl (.tmp rfl rfl .nil)) rfl (.conv .nil (gT (Ro:=(aC az)) (E:=3)) (.cons .nil) (.conv .nil (gT (Ro:=(aC az)) (E:=3)) (.cons .nil) (.sel (.cons (.t .h) (.cons .h .nil)))))
 refine aY ?_
 refine bi (bT (m:=aB.Terms.length) (fun m78 f' cs'=>∃(g:Fr)(vU:Nat)(BA rz yY:List Int)(v72:Sv)(TJ:List Nat)(v75:Sv)(TK:List Nat),m78=BA.length/\f'=aQ g [(4,(pz k2)),(5,(pz k3)),(6,(pz k4)),(8,(pz k8)),(9,(zi (vU:Int)))]/\List.drop vU aB.Terms=BA/\aN cs' [aX k2 159 (zg [(zi aB.Rel),aV.v]),ah aV aB.Terms,aX k3 70 (zg [(zi bF.Rel),dH.v]),ah dH bF.Values,aW k4 183 (.agg ([(.slice none 0 0),(.slice none 0 0)]:List Value).toArray),aW k8 183 (zg [v72.v,v75.v]),bI TJ v72 rz,bI TK v75 yY]/\Gs bF BA vU rz yY=some R) ⟨_,0,_,_,_,p7.1,p7.2.1,p7.2.2.1,p7.2.2.2,rfl,aA,rfl,ay,hF⟩ ?_)
 rintro m78 _ _ ⟨g79,vU,BA,rz,yY,v72,TJ,v75,TK,rfl,rfl,aj9,hE,hF⟩
 refine Kb hE aB.Terms (fun aAN=>?_)
 rcases BA with _|⟨x82,BA⟩
 · have axI:=dn aj9
   rw[Gs]at hF
   refine dL ?_
   refine dJ ?_
   refine bB ?_
   refine As (zg [v72.v,v75.v]) ?_
   refine bu ?_
   cases hF
   exact gQ (v72,TJ,v75,TK) (.cellA rfl rfl .h rfl rJ.h iI.h.sz rfl rfl (.tmp rfl rfl .nil)) rfl (.sel (.cons .q6 (.cons .q6 .nil)))
 obtain⟨axI,XH,axJ⟩:=dz aj9
 rw[Gs]at hF
 refine dL ?_
 refine dI ?_
 refine au ?_
 obtain⟨o89,auk,aj_⟩:=bind_some hF
 refine iC (fun f' cs'=>∃(c130 R4:List Int)(v131:Sv)(acO:List Nat)(XI:Sv)(acP:List Nat)(g:Fr),o89= .inr (c130,R4)/\f'=aQ g [(4,(pz k2)),(5,(pz k3)),(6,(pz k4)),(8,(pz k8)),(9,(zi (vU:Int)))]/\aN cs' [aX k2 159 (zg [(zi aB.Rel),aV.v]),ah aV aB.Terms,aX k3 70 (zg [(zi bF.Rel),dH.v]),ah dH bF.Values,aW k4 183 (.agg ([(.slice none 0 0),(.slice none 0 0)]:List Value).toArray),aW k8 183 (zg [v131.v,XI.v]),bI acO v131 c130,bI acP XI R4]) ?_ ?_
 · replace hF:=auk
   refine bi (dS [0,1,2,3,4,5,6,7] [0,0,2,0,14,30,63,127] [6] mixed (by decide+kernel) ?_)
   refine dM rfl .no .q5 (fun ha hp=>h_ rJ.h iI.h.sz rfl (EN ha (.tmp rfl rfl) rfl) hp.2 rfl) ?_
   refine dm ?_
   refine Di XH (fun k91 j92=>?_)
   refine Dl dN ?_
   refine bnd hF fun FM acn hF=>oV rfl rfl .no (.cons .q8 (.cons .q7 .nil)) (.dep rfl .nil) (fun ha=>jk (pre:=[]) (.cons aG (.cons aG .nil)) (fun _=>.nil) (bU aie.h (.cons (EN ha (.tmp rfl rfl) rfl) (.cons (EN ha (.tmp rfl rfl) rfl) .nil)) (Ot acn))) (fun _=>?_)
   refine bR ?_
   obtain⟨o96,aul,axK⟩:=bind_some hF
   refine dS [0,1,2,3,4,5,6,7,8,9,10,11,12,13,14,15] [0,1,0,7,15,31,63,127,127,383,127,1919,3967,8191,16383,32767] [5,13] mixed (by decide+kernel) ?_
   refine kS (fun f' cs'=>∃(c109:Bool)(g:Fr),c109=o96/\f'=aQ g [(4,(pz k2)),(5,(pz k3)),(6,(pz k4)),(8,(pz k8)),(9,(zi (vU:Int))),(10,(zi FM)),(66,(.bool c109))]/\aN cs' [aX k2 159 (zg [(zi aB.Rel),aV.v]),ah aV aB.Terms,aX k3 70 (zg [(zi bF.Rel),dH.v]),ah dH bF.Values,aW k4 183 (.agg ([(.slice none 0 0),(.slice none 0 0)]:List Value).toArray),aW k8 183 (zg [v72.v,v75.v]),bI TJ v72 rz,bI TK v75 yY]) ?_ ?_
   · replace hF:=aul
     refine dm ?_
     refine Di XH (fun k98 j99=>?_)
     refine Dl dN ?_
     refine bnd hF fun acM hx101 hF=>eZ (K8 hx101) (fun _=>?_)
     refine du ?_
     rcases bE acM with xC|xC
     · rw[xC]
       try rw[xC]at hF; dsimp only[aJ,aI]at hF
       refine dM rfl (.on 57 rfl rfl rfl) .q9 (fun ha hp=>h_ rJ.h iI.h.sz rfl (EN ha (.tmp rfl rfl) rfl) hp.2 rfl) ?_
       refine dm ?_
       refine Di XH (fun axL axM=>?_)
       refine Dl dN ?_
       refine bnd hF fun aj7 aum hF=>oV rfl rfl (.on 57 rfl rfl rfl) (.cons .q2 (.cons .q2 .nil)) (.dep rfl .nil) (fun ha=>jk (pre:=[]) (.cons aG (.cons aG .nil)) (fun _=>.nil) (bU asF.h (.cons (EN ha (.tmp rfl rfl) rfl) (.cons (EN ha (.tmp rfl rfl) rfl) .nil)) (anv aum))) (fun _=>?_)
       exact eu hF
     rw[xC]
     try rw[xC]at hF; dsimp only[aJ,aI]at hF
     exact eu hF
   rintro _ _ ⟨c109,aDB,rfl,rfl,hE⟩
   replace hF:=axK
   try dsimp only at hF
   refine bq hE ?_
   refine Ci hF (fun aun hF=>?_) (fun aun hF=>?_)
   · refine jf [0,1,2,3,4,5,6,7,8,9,10,11,12] [0,0,2,0,14,30,0,64,0,448,960,2047,4095] [11,12] mixed (by decide+kernel) ?_
     refine dM rfl .no .q5 (fun ha hp=>h_ rJ.h iI.h.sz rfl (EN ha (.tmp rfl rfl) rfl) hp.2 rfl) ?_
     refine dm ?_
     refine Di XH (fun axN axO=>?_)
     refine Dl dN ?_
     refine dm ?_
     refine zI hF fun x112 aAO hx115 hF=>?_
     refine Di hx115 (fun aDC aDD=>?_)
     refine Dl dN ?_
     refine bnd hF fun acN auo hF=>VG rfl rfl .no (.cons .q9 (.cons .q8 .nil)) (.dep rfl .nil) (fun ha=>jk (pre:=[]) (.cons aG (.cons aG .nil)) (fun _=>(.cons (.cons .nil))) (bU aid.h (.cons (EN ha (.tmp rfl rfl) rfl) (.cons (EN ha (.tmp rfl rfl) rfl) (.cons (EN ha (.tmp rfl rfl) rfl) .nil))) (afX auo))) (fun Fe=>?_)
     refine cO rfl rfl .no (.cons .q11 .nil) (.dep rfl .nil) (fun ha=>gz (e':=(zg [Fe.1.v,Fe.2.2.1.v])) (v:=(zg [Fe.1.v,Fe.2.2.1.v])) iI.h.sz (EN ha (.tmp rfl rfl) rfl) (EN ha (.tmp rfl rfl) rfl) rfl rfl rfl rfl rfl) (fun _=>?_)
     refine du ?_
     cases hF
     exact⟨_,_,Fe.1,Fe.2.1,Fe.2.2.1,Fe.2.2.2,_,rfl,aA,ay⟩
   refine aY ?_
   refine zI hF fun aj8 aAP aaV hF=>?_
   refine Ai aaV (fun aDE aDF=>?_)
   refine Al dN ?_
   refine aT ?_
   refine Ci hF (fun Qm hF=>?_) (fun Qm hF=>?_)
   · refine au ?_
     refine aP (iB iI.h rfl (vs:=[]) .nil (cells:=[(.slice none 0 0),(.slice none 0 0)]) rfl) ?_
     refine As (.agg ([(.slice none 0 0),(.slice none 0 0)]:List Value).toArray) ?_
     refine bu ?_
     cases hF
     replace hF:=aj_
     try dsimp only at hF
     cases hF
     exact gQ (⟨none,0,0⟩,[],⟨none,0,0⟩,[]) (.cellA rfl rfl .h rfl rJ.h iI.h.sz rfl rfl (.tmp rfl rfl .nil)) rfl (.conv .nil (gT (Ro:=(aC az)) (E:=3)) (.cons .nil) (.conv .nil (gT (Ro:=(aC az)) (E:=3)) (.cons .nil) (.sel (.cons (.t .h) (.cons .h .nil)))))
   refine au ?_
   cases hF
   exact⟨_,_,v72,TJ,v75,TK,_,rfl,aA,ay⟩
 rintro _ _ ⟨c130,R4,v131,acO,XI,acP,aDG,rfl,rfl,hE⟩
 replace hF:=aj_
 try dsimp only at hF
 refine bq hE ?_
 refine aY ?_
 rw[wk vU]
 exact⟨_,bX _,_,vU+1,BA,_,_,v131,acO,XI,acP,rfl,aA,axJ,ay,hF⟩
def DF(aB:Atom)(iL:bz):List Fact->Nat->(List bz)->Option ((List bz))
 |[],k26,c20=>some c20
 |x28::oW,k26,c20=>((OH iL aB x28).bind fun jQ=>
     if jQ.2 then (
       (app c20 ([jQ.1]:List bz)).bind fun z48=>
       some z48)
     else (
       some c20)).bind fun yV=>
   match yV with
   |rC=>DF aB iL oW (k26+1) rC
def DI(aB:Atom)(bM:List Fact):List bz->Nat->(List bz)->Option ((List bz))
 |[],k9,c3=>some c3
 |iL::gI,k9,c3=>(DF aB iL bM 0 c3).bind fun kN=>
   match kN with
   |vV=>DI aB bM gI (k9+1) vV
def Ay(ai:List bz)(aB:Atom)(bM:List Fact):Option ((List bz)):=
 DI aB bM ai 0 ([]:List bz)
theorem UI{ai:List bz}{ae:Sv}{aB:Atom}{aV:Sv}{bM:List Fact}{bL:Sv}{R:(List bz)}(hF:Ay ai aB bM=some R):
   Fw.Spec Tryz.prog 174 [ae.v,(zg [(zi aB.Rel),aV.v]),bL.v] [rO ae ai,ah aV aB.Terms,bG bL bM] (fun p:Sv×List Nat=>p.1.v) (fun p=>[sS p.2 p.1 R]):=by
 refine Se 44 Tryz.func174 [.tmp 6] ?_
 intro H0 F0
 unfold Ay at hF
 refine au ?_
 refine bN (fun k1=>?_)
 refine bu ?_
 refine dF rfl (bO (g:=true) wD.h iI.h .nil (vs:=[]) rfl rfl rfl (by simp)) (fun k2=>?_)
 refine dP (.cons .h .nil) (bQ (Ro:=rM) (E:=183) (F:=[]) (xs:=([]:List bz)) bP rfl rfl) ?_
 refine bB ?_
 refine bi (bT (m:=ai.length) (fun m7 f' cs'=>∃(g:Fr)(k9:Nat)(gI c3:List bz)(v4:Sv)(F5:List Nat),m7=gI.length/\f'=aQ g [(0,ae.v),(2,bL.v),(4,(pz k1)),(7,v4.v),(8,(zi (k9:Int)))]/\List.drop k9 ai=gI/\aN cs' [rO ae ai,bG bL bM,aX k1 159 (zg [(zi aB.Rel),aV.v]),ah aV aB.Terms,sS F5 v4 c3]/\DI aB bM gI k9 c3=some R) ⟨_,0,_,_,⟨(some ⟨k2,0,none⟩),0,1⟩,(k2::[]),rfl,aA,rfl,ay,hF⟩ ?_)
 rintro m7 _ _ ⟨g8,k9,gI,c3,v4,F5,rfl,rfl,mK,hE,hF⟩
 refine Kb hE ai (fun Qh=>?_)
 rcases gI with _|⟨iL,gI⟩
 · have yo:=dn mK
   rw[DI]at hF
   refine bH ?_
   refine dJ ?_
   refine gB ?_
   cases hF
   exact Er (v4,F5)
 obtain⟨yo,j5,qY⟩:=dz mK
 rw[DI]at hF
 refine bH ?_
 refine dI ?_
 refine au ?_
 obtain⟨kN,uR,vD⟩:=bind_some hF
 refine iC (fun f' cs'=>∃(vV:List bz)(v58:Sv)(F59:List Nat)(g:Fr),vV=kN/\f'=aQ g [(0,ae.v),(2,bL.v),(4,(pz k1)),(7,v58.v),(8,(zi (k9:Int)))]/\aN cs' [rO ae ai,bG bL bM,aX k1 159 (zg [(zi aB.Rel),aV.v]),ah aV aB.Terms,sS F59 v58 vV]) ?_ ?_
 · replace hF:=uR
   refine bi (dY (aP (jU (v:=(zi 0)) (.int _ _)) ?_))
   refine au ?_
   refine bi (bT (m:=bM.length) (fun m24 f' cs'=>∃(g:Fr)(k26:Nat)(oW:List Fact)(c20:List bz)(v21:Sv)(uD:List Nat),m24=oW.length/\f'=aQ g [(0,ae.v),(2,bL.v),(4,(pz k1)),(7,v21.v),(8,(zi (k9:Int))),(9,(zi (k26:Int)))]/\List.drop k26 bM=oW/\aN cs' [rO ae ai,bG bL bM,aX k1 159 (zg [(zi aB.Rel),aV.v]),ah aV aB.Terms,sS uD v21 c20]/\DF aB iL oW k26 c20=some kN) ⟨_,0,_,_,v4,F5,rfl,aA,rfl,ay,hF⟩ ?_)
   rintro m24 _ _ ⟨Tp,k26,oW,c20,v21,uD,rfl,rfl,hd29,hE,hF⟩
   refine Kb hE bM (fun atg=>?_)
   rcases oW with _|⟨x28,oW⟩
   · have ab_:=dn hd29
     rw[DF]at hF
     refine bH ?_
     refine dJ ?_
     refine bg ?_
     cases hF
     exact⟨_,v21,uD,_,rfl,aA,ay⟩
   obtain⟨ab_,hx31,hd32⟩:=dz hd29
   rw[DF]at hF
   refine bH ?_
   refine dI ?_
   refine au ?_
   obtain⟨yV,Qi,RG⟩:=bind_some hF
   refine iC (fun f' cs'=>∃(rC:List bz)(v53:Sv)(JQ:List Nat)(g:Fr),rC=yV/\f'=aQ g [(0,ae.v),(2,bL.v),(4,(pz k1)),(7,v53.v),(8,(zi (k9:Int))),(9,(zi (k26:Int)))]/\aN cs' [rO ae ai,bG bL bM,aX k1 159 (zg [(zi aB.Rel),aV.v]),ah aV aB.Terms,sS JQ v53 rC]) ?_ ?_
   · replace hF:=Qi
     refine bi (dS [0,1,2,3,4,5,6,7,8,13,9,10,11,12,14,15] [0,0,3,7,0,0,0,96,224,511,1023,2047,2047,0,12287,32767] [9,14] mixed (by decide+kernel) ?_)
     refine bR ?_
     refine Di j5 (fun Tt Tu=>?_)
     refine zJ (Ap iL) D_ (fun p39=>?_)
     refine dm ?_
     refine Di hx31 (fun k40 j41=>?_)
     refine jP (lU x28) mf (fun p42=>?_)
     refine iq rfl .no rfl (fun ha=>sF (g:=true) iI.h rfl rfl) (fun Yu=>?_)
     refine bnd hF fun jQ vz hF=>oV rfl rfl .no (.rd .q3 rfl (.rd .q4 rfl (.rd .q9 rfl (.rd (.t .h) rfl .nil)))) (.own .h (fun _ h=>h) .nil) (fun ha=>bU asE.h (.cons (EN ha (.tmp rfl rfl) rfl) (.cons (EN ha (.tmp rfl rfl) rfl) (.cons (EN ha (.tmp rfl rfl) rfl) .nil))) (amn vz)) (fun p46=>?_)
     refine du ?_
     refine bW rfl .no (fun ha=>kv (l:=[(zg [p46.1.v,p46.2.2.1.v]),(.bool jQ.2)]) (v:=(zg [p46.1.v,p46.2.2.1.v])) (EN ha (.tmp rfl rfl) rfl) rfl) ?_
     refine bW rfl .no (fun ha=>kv (l:=[(zg [p46.1.v,p46.2.2.1.v]),(.bool jQ.2)]) (v:=(.bool jQ.2)) (EN ha (.tmp rfl rfl) rfl) rfl) ?_
     refine cO rfl rfl .no (.cons .q2 .nil) (.dep rfl .nil) (fun ha=>gz (e':=(zg [p46.1.v,p46.2.2.1.v])) (v:=(zg [p46.1.v,p46.2.2.1.v])) iI.h.sz (EN ha (.tmp rfl rfl) rfl) (EN ha (.tmp rfl rfl) rfl) rfl rfl rfl rfl rfl) (fun _=>?_)
     refine bR ?_
     refine bu ?_
     refine Ci hF (fun axP hF=>?_) (fun axP hF=>?_)
     · refine bu ?_
       refine dF rfl (bO (g:=true) wD.h iI.h b_ (vs:=[(zg [p46.1.v,p46.2.2.1.v])]) rfl rfl rfl (by intro v hv; simp at hv; rcases hv with rfl<;>rfl)) (fun TG=>?_)
       refine dP (.cons .h (.cons (.t .h) (.cons (.t .h) .nil))) (bQ (Ro:=rM) (E:=183) (F:=((p46.2.1++p46.2.2.2)++[])) (xs:=([jQ.1]:List bz)) (d_ aaC bP cK) rfl rfl) ?_
       refine bnd hF fun z48 qR hF=>ed (.cons .q11 (.cons .h .nil)) (dV (Ro:=rM) wD.h V6 iI.h rfl rfl rfl (.tmp rfl rfl) (.tmp rfl rfl) qR fw) (fun p50=>?_)
       refine aT ?_
       cases hF
       exact⟨_,p50.1,p50.2,_,rfl,aA,ay⟩
     refine au ?_
     cases hF
     exact⟨_,v21,uD,_,rfl,aA,ay⟩
   rintro _ _ ⟨rC,v53,JQ,g56,rfl,rfl,hE⟩
   replace hF:=RG
   try dsimp only at hF
   refine bq hE ?_
   refine aY ?_
   rw[wk k26]
   exact⟨_,bX _,_,k26+1,oW,_,v53,JQ,rfl,aA,hd32,ay,hF⟩
 rintro _ _ ⟨vV,v58,F59,g61,rfl,rfl,hE⟩
 replace hF:=vD
 try dsimp only at hF
 refine bq hE ?_
 refine aY ?_
 rw[wk k9]
 exact⟨_,bX _,_,k9+1,gI,_,v58,F59,rfl,aA,qY,ay,hF⟩
def Gm(bM:List Fact):List Atom->Nat->(List bz)->Option ((List bz))
 |[],k9,c3=>some c3
 |iL::gI,k9,c3=>(Ay c3 iL bM).bind fun oD=>
   Gm bM gI (k9+1) oD
def Ou(aK:Query)(bM:List Fact):Option ((List bz)):=
 Gm bM aK.Atoms 0 ([(⟨[],[]⟩:bz)]:List bz)
theorem al2{aK:Query}{ae aO:Sv}{bM:List Fact}{ax:Sv}{R:(List bz)}(hF:Ou aK bM=some R):
   Fw.Spec Tryz.prog 203 [(zg [ae.v,aO.v]),ax.v] [ah ae aK.Head,eQ aO aK.Atoms,bG ax bM] (fun p:Sv×List Nat=>p.1.v) (fun p=>[sS p.2 p.1 R]):=by
 refine Se 25 Tryz.func203 [.tmp 4] ?_
 intro H0 F0
 unfold Ou at hF
 refine au ?_
 refine bN (fun k1=>?_)
 refine bu ?_
 refine aP (iB iI.h rfl (vs:=[]) .nil (cells:=[(.slice none 0 0),(.slice none 0 0)]) rfl) ?_
 refine dF rfl (bO (g:=true) wD.h iI.h b_ (vs:=[(.agg ([(.slice none 0 0),(.slice none 0 0)]:List Value).toArray)]) rfl rfl rfl (by intro v hv; simp at hv; rcases hv with rfl<;>rfl)) (fun k2=>?_)
 iterate 2 refine LX .nil (gT (Ro:=(aC az)) (E:=3)) cK ?_
 refine dP (.cons .q2 (.cons (.t .h) (.cons .h .nil))) (bQ (Ro:=rM) (E:=183) (F:=(([]++[])++[])) (xs:=([(⟨[],[]⟩:bz)]:List bz)) (d_ (aaC (v0:=⟨none,0,0⟩) (v1:=⟨none,0,0⟩) (a:=(⟨[],[]⟩:bz))) bP cK) rfl rfl) ?_
 refine bB ?_
 refine bi (bT (m:=aK.Atoms.length) (fun m7 f' cs'=>∃(g:Fr)(k9:Nat)(gI:List Atom)(c3:List bz)(v4:Sv)(F5:List Nat),m7=gI.length/\f'=aQ g [(1,ax.v),(2,(pz k1)),(5,v4.v),(6,(zi (k9:Int)))]/\List.drop k9 aK.Atoms=gI/\aN cs' [bG ax bM,aX k1 120 (zg [ae.v,aO.v]),ah ae aK.Head,eQ aO aK.Atoms,sS F5 v4 c3]/\Gm bM gI k9 c3=some R) ⟨_,0,_,_,⟨(some ⟨k2,0,none⟩),1,1⟩,(k2::(([]++[])++[])),rfl,aA,rfl,ay,hF⟩ ?_)
 rintro m7 _ _ ⟨g8,k9,gI,c3,v4,F5,rfl,rfl,mK,hE,hF⟩
 refine Kb hE aK.Atoms (fun Qh=>?_)
 rcases gI with _|⟨iL,gI⟩
 · have yo:=dn mK
   rw[Gm]at hF
   refine dL ?_
   refine dJ ?_
   refine gB ?_
   cases hF
   exact Er (v4,F5)
 obtain⟨yo,j5,qY⟩:=dz mK
 rw[Gm]at hF
 refine dL ?_
 refine dI ?_
 refine bH ?_
 refine Ai j5 (fun k18 j19=>?_)
 refine mX (D9 iL) Hl (fun l_=>?_)
 refine au ?_
 refine bnd hF fun oD sZ hF=>uq (.cons .q6 (.rd .h rfl (.rd .q2 rfl .nil))) (jT aG (fun _=>(.cons .nil)) (bU V5.h b_ (UI sZ))) (fun oO=>?_)
 refine bH ?_
 rw[wk k9]
 exact⟨_,bX _,_,k9+1,gI,_,oO.1,oO.2,rfl,aA,qY,ay,hF⟩
def Hy(aR:List Int):List Int->Nat->Option (Bool)
 |[],k4=>some true
 |x6::aM,k4=>(ix aR (k4:Int)).bind fun nu=>
   if ((x6:Int)!=nu)then (
     some false)
   else (
     Hy aR aM (k4+1))
def LJ(aB:List Int)(aR:List Int):Option (Bool):=
 if (((aB.length:Int):Int)!=(aR.length:Int))then (
   some false)
 else (
   Hy aR aB 0)
theorem Zl{aB:List Int}{ae:Sv}{aR:List Int}{ax:Sv}{R:Bool}(hF:LJ aB aR=some R):
   Fw.Spec Tryz.prog 69 [ae.v,ax.v] [ah ae aB,ah ax aR] (fun _:Unit=>(.bool R)) (fun _=>[]):=by
 refine Se 26 Tryz.func69 [.tmp 4] ?_
 intro H0 F0
 unfold LJ at hF
 refine BV ?_
 refine Ci hF (fun yB hF=>?_) (fun yB hF=>?_)
 · exact ze hF
 refine aY ?_
 refine bi (bT (m:=aB.length) (fun m2 f' cs'=>∃(g:Fr)(k4:Nat)(aM:List Int),m2=aM.length/\f'=aQ g [(0,ae.v),(1,ax.v),(5,(zi (k4:Int)))]/\List.drop k4 aB=aM/\aN cs' [ah ae aB,ah ax aR]/\Hy aR aM k4=some R) ⟨_,0,_,rfl,aA,rfl,ay,hF⟩ ?_)
 rintro m2 _ _ ⟨g3,k4,aM,rfl,rfl,hd7,hE,hF⟩
 refine Kb hE aB (fun kT=>?_)
 rcases aM with _|⟨x6,aM⟩
 · have gF:=dn hd7
   rw[Hy]at hF
   refine bH ?_
   refine dJ ?_
   exact ze hF
 obtain⟨gF,bY,gD⟩:=dz hd7
 rw[Hy]at hF
 refine bH ?_
 refine dI ?_
 refine aT ?_
 refine dS [0,1,2,3,4,5,6,7,8] [0,0,3,7,0,0,48,112,255] [] mixed (by decide+kernel) ?_
 refine bR ?_
 refine Di bY (fun k13 oz=>?_)
 refine Dl dN ?_
 refine bR ?_
 refine zI hF fun nu aca mJ hF=>?_
 refine Di mJ (fun k19 FH=>?_)
 refine Dl dN ?_
 refine bR ?_
 refine Ci hF (fun ve hF=>?_) (fun ve hF=>?_)
 · exact ze hF
 refine bB ?_
 rw[wk k4]
 exact⟨_,bX _,_,k4+1,aM,rfl,aA,gD,ay,hF⟩
def Gd(aK:Query)(BB:List Int):List bz->Nat->Option (bz×Bool)
 |[],wV=>some ((⟨[],[]⟩:bz),false)
 |x43::BC,wV=>(Lj aK x43).bind fun vT=>
   (LJ vT BB).bind fun Nt=>
   if Nt then (
     (LH x43).bind fun Ab=>
     some (Ab,true))
   else (
     Gd aK BB BC (wV+1))
def Oc(aK:Query)(bM:List Fact)(BB:List Int):Option (bz×Bool):=
 (Ou aK bM).bind fun r3=>
 Gd aK BB r3 0
theorem alK{aK:Query}{ae aO:Sv}{bM:List Fact}{ax:Sv}{BB:List Int}{bL:Sv}{R:bz×Bool}(hF:Oc aK bM BB=some R):
   Fw.Spec Tryz.prog 195 [(zg [ae.v,aO.v]),ax.v,bL.v] [ah ae aK.Head,eQ aO aK.Atoms,bG ax bM,ah bL BB] (fun p:Sv×List Nat×Sv×List Nat=>(.tuple [(zg [p.1.v,p.2.2.1.v]),(.bool R.2)].toArray)) (fun p=>[bI p.2.1 p.1 R.1.Vars,bI p.2.2.2 p.2.2.1 R.1.Values]):=by
 refine Se 33 Tryz.func195 [.cell 6 183,.tmp 7] ?_
 intro H0 F0
 unfold Oc at hF
 refine au ?_
 refine bN (fun k1=>?_)
 refine dX (fun k2=>?_)
 refine aY ?_
 refine bnd hF fun r3 hx4 hF=>gy (al2 hx4) (fun p5=>?_)
 refine bB ?_
 refine bi (iD .h aG ?_)
 refine bT (m:=r3.length) (fun m39 f' cs'=>∃(g:Fr)(wV:Nat)(BC:List bz),m39=BC.length/\f'=aQ g [(2,bL.v),(3,(pz k1)),(6,(pz k2)),(8,p5.1.v),(9,(zi (wV:Int)))]/\List.drop wV r3=BC/\aN cs' [ah bL BB,aX k1 120 (zg [ae.v,aO.v]),ah ae aK.Head,eQ aO aK.Atoms,aW k2 183 (.agg ([(.slice none 0 0),(.slice none 0 0)]:List Value).toArray),rO p5.1 r3]/\Gd aK BB BC wV=some R) ⟨_,0,_,rfl,aA,rfl,ay,hF⟩ ?_
 rintro m39 _ _ ⟨Yk,wV,BC,rfl,rfl,MW,hE,hF⟩
 refine Kb hE r3 (fun aAQ=>?_)
 rcases BC with _|⟨x43,BC⟩
 · have axQ:=dn MW
   rw[Gd]at hF
   refine bH ?_
   refine dJ ?_
   refine aY ?_
   refine aP (iB iI.h rfl (vs:=[]) .nil (cells:=[(.slice none 0 0),(.slice none 0 0)]) rfl) ?_
   refine As (.agg ([(.slice none 0 0),(.slice none 0 0)]:List Value).toArray) ?_
   refine bu ?_
   cases hF
   exact gQ (⟨none,0,0⟩,[],⟨none,0,0⟩,[]) (.cellA rfl rfl .h rfl rJ.h iI.h.sz rfl rfl (.tmp rfl rfl .nil)) rfl (.conv .nil (gT (Ro:=(aC az)) (E:=3)) (.cons .nil) (.conv .nil (gT (Ro:=(aC az)) (E:=3)) (.cons .nil) (.sel (.cons (.t .h) (.cons .h .nil)))))
 obtain⟨axQ,ES,axR⟩:=dz MW
 rw[Gd]at hF
 refine bH ?_
 refine dI ?_
 refine aT ?_
 refine dS [0,1,2,3,4,6,5,7] [0,0,0,6,14,31,0,127] [5,7] mixed (by decide+kernel) ?_
 refine dm ?_
 refine Di ES (fun Yn Yo=>?_)
 refine zJ (Ap x43) D_ (fun p52=>?_)
 refine du ?_
 refine bnd hF fun vT tu hF=>qw (afs tu) (fun p55=>?_)
 refine bnd hF fun Nt RS hF=>cO rfl rfl .no (.cons .h (.rd .q3 rfl .nil)) .nil (fun ha=>jT aG (fun _=>.nil) (bU awl.h (.cons (EN ha (.tmp rfl rfl) rfl) (.cons (EN ha (.tmp rfl rfl) rfl) .nil)) (Zl RS))) (fun _=>?_)
 refine du ?_
 refine Ci hF (fun RF hF=>?_) (fun RF hF=>?_)
 · refine bu ?_
   refine Ai ES (fun k59 j60=>?_)
   refine xO (Ap x43) D_ (fun p61=>?_)
   refine bnd hF fun Ab Cr hF=>zV (afY Cr) (fun p64=>?_)
   refine As (zg [p64.1.v,p64.2.2.1.v]) ?_
   refine bu ?_
   cases hF
   exact gQ (p64.1,p64.2.1,p64.2.2.1,p64.2.2.2) (.cellA rfl rfl .h rfl rJ.h iI.h.sz rfl rfl (.tmp rfl rfl .nil)) rfl (.sel (.cons (.t .h) (.cons (.t .h) .nil)))
 refine bB ?_
 rw[wk wV]
 exact⟨_,bX _,_,wV+1,BC,rfl,aA,axR,ay,hF⟩
def Od(fuel:Nat)(ag:List Int)(r_:Query)(aK:Query):Option (Bool):=
 ((zf ag r_).bind fun r5=>
   bif (!r5)then (some true)
   else ((zf ag aK).bind fun r9=>
     bif (!r9)then (some true)
     else (some (((r_.Head.length:Int):Int)!=(aK.Head.length:Int))))).bind fun o3=>
 match o3 with
 |c13=>if c13 then (
     some false)
   else (
     (O1 fuel r_ aK).bind fun jW=>
     if (!jW.2.2)then (
       some false)
     else (
       (Lj r_ jW.2.1).bind fun qA=>
       (Oc aK jW.1 qA).bind fun kX=>
       some kX.2))
theorem alL{fuel:Nat}{ag:List Int}{ae:Sv}{r_:Query}{ax aV:Sv}{aK:Query}{bL dH:Sv}{R:Bool}(hF:Od fuel ag r_ aK=some R):
   Fw.Spec Tryz.prog 185 [ae.v,(zg [ax.v,aV.v]),(zg [bL.v,dH.v])] [ah ae ag,ah ax r_.Head,eQ aV r_.Atoms,ah bL aK.Head,eQ dH aK.Atoms] (fun _:Unit=>(.bool R)) (fun _=>[]):=by
 refine Se 50 Tryz.func185 [.tmp 6] ?_
 intro H0 F0
 unfold Od at hF
 refine au ?_
 refine bN (fun k1=>?_)
 refine bN (fun k2=>?_)
 refine bu ?_
 obtain⟨o3,vC,hO4⟩:=bind_some hF
 refine au ?_
 refine eX (fun f' cs'=>∃(c13:Bool)(g:Fr),c13=o3/\f'=aQ g [(4,(pz k1)),(5,(pz k2)),(30,(.bool c13))]/\aN cs' [aX k1 120 (zg [ax.v,aV.v]),ah ax r_.Head,eQ aV r_.Atoms,aX k2 120 (zg [bL.v,dH.v]),ah bL aK.Head,eQ dH aK.Atoms]) ?_ ?_
 · replace hF:=vC
   refine aT ?_
   refine bnd hF fun r5 hx6 hF=>bD (KN hx6) (fun _=>?_)
   refine aT ?_
   rcases bE (!r5)with ko|ko
   · rw[ko]
     try rw[ko]at hF; dsimp only[aJ,aI]at hF
     exact bJ hF
   rw[ko]
   try rw[ko]at hF; dsimp only[aJ,aI]at hF
   refine aY ?_
   refine bnd hF fun r9 jm hF=>bD (KN jm) (fun _=>?_)
   refine bg ?_
   rcases bE (!r9)with lC|lC
   · rw[lC]
     try rw[lC]at hF; dsimp only[aJ,aI]at hF
     exact bJ hF
   rw[lC]
   try rw[lC]at hF; dsimp only[aJ,aI]at hF
   exact bJ hF
 rintro _ _ ⟨c13,g27,rfl,rfl,hE⟩
 replace hF:=hO4
 try dsimp only at hF
 refine bq hE ?_
 refine Ci hF (fun Cy hF=>?_) (fun Cy hF=>?_)
 · exact ze hF
 refine bg ?_
 refine bnd hF fun jW kz hF=>Cx3 (amR kz) (fun p16=>?_)
 refine au ?_
 refine zx ?_
 refine zx ?_
 refine zx ?_
 refine dX (fun k17=>?_)
 refine au ?_
 refine As (zg [p16.2.2.1.v,p16.2.2.2.2.1.v]) ?_
 refine bH ?_
 refine Ci hF (fun acQ hF=>?_) (fun acQ hF=>?_)
 · exact ze hF
 refine au ?_
 refine dS [0,1,2,3,9,4,5,6,7,8,10,11] [0,0,0,0,12,31,63,127,127,0,767,2047] [4,5,10] mixed (by decide+kernel) ?_
 refine dm ?_
 refine dM rfl .no .h (fun ha hp=>h_ rJ.h iI.h.sz rfl (EN ha (.tmp rfl rfl) rfl) hp.2 rfl) ?_
 refine iq rfl .no rfl (fun ha=>sF (g:=true) iI.h rfl rfl) (fun k18=>?_)
 refine bnd hF fun qA vw hF=>LY rfl rfl .no (.cons .q4 (.cons .q3 (.rd .q4 rfl (.rd .q5 rfl .nil)))) (.own .h (fun _ h=>h) (.dep rfl .nil)) (fun ha=>jk (pre:=_) (.cons aG (.cons aG .nil)) (fun _=>(.cons .nil)) (iV (.rd .q2 rfl (.rd .q3 rfl (.rd .h rfl (.rd (.t .h) rfl .nil)))) (bU asC.h (.cons (EN ha (.tmp rfl rfl) rfl) (.cons (EN ha (.tmp rfl rfl) rfl) .nil)) (afs vw)))) (fun mP=>?_)
 refine bnd hF fun kX sW hF=>VG rfl rfl .no (.cons .q2 (.cons .q4 (.rd .q8 rfl (.rd .q9 rfl .nil)))) (.own .q2 (fun _ h=>h) (.dep rfl .nil)) (fun ha=>apk (pre:=_) (.cons aG (.cons aG .nil)) (fun _=>(.cons (.cons .nil))) (iV (.rd .q2 rfl (.rd .q3 rfl (.rd (.t .h) rfl (.rd .h rfl .nil)))) (bU asD.h (.cons (EN ha (.tmp rfl rfl) rfl) (.cons (EN ha (.tmp rfl rfl) rfl) (.cons (EN ha (.tmp rfl rfl) rfl) .nil))) (alK sW)))) (fun nH=>?_)
 refine du ?_
 refine bW rfl .no (fun ha=>kv (l:=[(zg [nH.1.v,nH.2.2.1.v]),(.bool kX.2)]) (v:=(zg [nH.1.v,nH.2.2.1.v])) (EN ha (.tmp rfl rfl) rfl) rfl) ?_
 refine bW rfl .no (fun ha=>kv (l:=[(zg [nH.1.v,nH.2.2.1.v]),(.bool kX.2)]) (v:=(.bool kX.2)) (EN ha (.tmp rfl rfl) rfl) rfl) ?_
 refine cO rfl rfl .no (.cons .q6 .nil) (.dep rfl (.dep rfl .nil)) (fun ha=>gz (e':=(zg [nH.1.v,nH.2.2.1.v])) (v:=(zg [nH.1.v,nH.2.2.1.v])) iI.h.sz (EN ha (.tmp rfl rfl) rfl) (EN ha (.tmp rfl rfl) rfl) rfl rfl rfl rfl rfl) (fun _=>?_)
 refine bR ?_
 exact ze hF
def De(ag:List Int)(aK:Query)(c6:List Query)(c9:Int)(z23:List Int)(fuel:Nat):List Atom->Nat->(List Atom)->Option ((List Query))
 |[],vW,c75=>((zf ag (⟨z23,c75⟩:Query)).bind fun FP=>
     bif FP then ((Od fuel ag (⟨z23,c75⟩:Query) aK).bind fun TL=>
       some TL)
     else (some false)).bind fun JR=>
   match JR with
   |lG=>if lG then (
       (app c6 ([(⟨z23,c75⟩:Query)]:List Query)).bind fun aj'=>
       some aj')
     else (
       some c6)
 |x83::BD,vW,c75=>((I4 .i64 c9 (vW:Int)).bind fun acR=>
     if (((xN .i64 acR 1):Int)==1)then (
       (LF x83.Rel x83.Terms).bind fun XJ=>
       (app c75 ([XJ]:List Atom)).bind fun z119=>
       some z119)
     else (
       some c75)).bind fun acS=>
   match acS with
   |R5=>De ag aK c6 c9 z23 fuel BD (vW+1) R5
def Df(ag:List Int)(aK:Query)(fuel:Nat):Nat->(List Query)->Int->Option ((List Query))
 |0,_,_=>none
 |m10+1,c6,c9=>(WQ .i64 1 (aK.Atoms.length:Int)).bind fun g_=>
   if (decide ((c9:Int)<g_))then (
     ((app ([]:List Int) aK.Head).bind fun z23=>
       De ag aK c6 c9 z23 fuel aK.Atoms 0 ([]:List Atom)).bind fun FN=>
     match FN with
     |R6=>Df ag aK fuel m10 R6 (IntKind.i64.wrap (c9+1)))
   else (
     some c6)
def NN(fuel:Nat)(ag:List Int)(aK:Query):Option ((List Query)):=
 (zf ag aK).bind fun r3=>
 if (!r3)then (
   some ([]:List Query))
 else (
   Df ag aK fuel fuel ([]:List Query) 1)
theorem alf{fuel:Nat}{ag:List Int}{ae:Sv}{aK:Query}{ax aV:Sv}{R:(List Query)}(hF:NN fuel ag aK=some R):
   Fw.Spec Tryz.prog 164 [ae.v,(zg [ax.v,aV.v])] [ah ae ag,ah ax aK.Head,eQ aV aK.Atoms] (fun p:Sv×List Nat=>p.1.v) (fun p=>[Ma p.2 p.1 R]):=by
 refine Se 72 Tryz.func164 [.tmp 4] ?_
 intro H0 F0
 unfold NN at hF
 refine au ?_
 refine bN (fun k1=>?_)
 refine bu ?_
 refine dF rfl (bO (g:=true) aaB.h IL.h .nil (vs:=[]) rfl rfl rfl (by simp)) (fun k2=>?_)
 refine dP (.cons .h .nil) (bQ (Ro:=zq) (E:=120) (F:=[]) (xs:=([]:List Query)) bP rfl rfl) ?_
 refine bB ?_
 refine bnd hF fun r3 hx4 hF=>bD (KN hx4) (fun _=>?_)
 refine aT ?_
 refine Ci hF (fun aup hF=>?_) (fun aup hF=>?_)
 · refine aY ?_
   cases hF
   exact Er (⟨(some ⟨k2,0,none⟩),0,1⟩,(k2::[]))
 refine aY ?_
 refine bi (bT (m:=fuel) (fun m10 f' cs'=>∃(g:Fr)(c6:List Query)(c9:Int)(v7:Sv)(F8:List Nat),f'=aQ g [(0,ae.v),(3,(pz k1)),(5,v7.v),(6,(zi c9))]/\aN cs' [ah ae ag,aX k1 120 (zg [ax.v,aV.v]),ah ax aK.Head,eQ aV aK.Atoms,Ma F8 v7 c6]/\Df ag aK fuel m10 c6 c9=some R) ⟨_,_,_,⟨(some ⟨k2,0,none⟩),0,1⟩,(k2::[]),aA,ay,hF⟩ ?_)
 rintro m10 _ _ ⟨g11,c6,c9,v7,F8,rfl,hE,hF⟩
 refine bq hE ?_
 rcases m10 with _|m10
 · rw[Df]at hF
   exact absurd hF (by simp)
 rw[Df]at hF
 refine bB ?_
 refine bnd hF fun g_ kM hF=>aP (arH (i:=1) (j:=(aK.Atoms.length:Int)) (.int _ _) (.tmp rfl rfl) kM) ?_
 refine aT ?_
 refine Ci hF (fun auq hF=>?_) (fun auq hF=>?_)
 · refine au ?_
   obtain⟨FN,aaQ,acp⟩:=bind_some hF
   refine iC (fun f' cs'=>∃(R6:List Query)(XK:Sv)(acT:List Nat)(g:Fr),R6=FN/\f'=aQ g [(0,ae.v),(3,(pz k1)),(5,XK.v),(6,(zi c9))]/\aN cs' [ah ae ag,aX k1 120 (zg [ax.v,aV.v]),ah ax aK.Head,eQ aV aK.Atoms,Ma acT XK R6]) ?_ ?_
   · replace hF:=aaQ
     refine bi (dY (dF rfl (bO (g:=true) dh.h dx.h .nil (vs:=[]) rfl rfl rfl (by simp)) (fun k22=>?_)))
     refine dP (.cons .h .nil) (bQ (Ro:=(aC az)) (E:=3) (F:=[]) (xs:=([]:List Int)) bP rfl rfl) ?_
     refine aT ?_
     refine bnd hF fun z23 hx24 hF=>ed (.cons .h (.rd .q2 rfl .nil)) (dV (Ro:=(aC az)) dh.h iQ dx.h rfl rfl rfl (.tmp rfl rfl) (.tmp rfl rfl) hx24 mg) (fun p25=>?_)
     refine aP (iB IL.h rfl (vs:=[p25.1.v]) b_ (cells:=[p25.1.v,(.slice none 0 0)]) rfl) ?_
     refine dX (fun k26=>?_)
     refine As (zg [p25.1.v,(.slice none 0 0)]) ?_
     refine aY ?_
     refine bi (bT (m:=aK.Atoms.length) (fun m79 f' cs'=>∃(g:Fr)(vW:Nat)(BD c75:List Atom)(v76:Sv)(C8:List Nat),m79=BD.length/\f'=aQ g [(0,ae.v),(3,(pz k1)),(5,v7.v),(6,(zi c9)),(7,(pz k26)),(8,(zi (vW:Int)))]/\List.drop vW aK.Atoms=BD/\aN cs' [ah ae ag,aX k1 120 (zg [ax.v,aV.v]),ah ax aK.Head,eQ aV aK.Atoms,Ma F8 v7 c6,aW k26 120 (zg [p25.1.v,v76.v]),bI p25.2 p25.1 z23,qd C8 v76 c75]/\De ag aK c6 c9 z23 fuel BD vW c75=some FN) ⟨_,0,_,_,⟨none,0,0⟩,[],rfl,aA,rfl,(.conv .nil (gT (Ro:=nA) (E:=159)) (.cons .nil) ay),hF⟩ ?_)
     rintro m79 _ _ ⟨g80,vW,BD,c75,v76,C8,rfl,rfl,aka,hE,hF⟩
     refine Kb hE aK.Atoms (fun aAR=>?_)
     rcases BD with _|⟨x83,BD⟩
     · have axS:=dn aka
       rw[De]at hF
       refine dL ?_
       refine dJ ?_
       refine bg ?_
       obtain⟨JR,aaW,acU⟩:=bind_some hF
       refine au ?_
       refine eX (fun f' cs'=>∃(lG:Bool)(g:Fr),lG=JR/\f'=aQ g [(0,ae.v),(3,(pz k1)),(5,v7.v),(6,(zi c9)),(7,(pz k26)),(66,(.bool lG))]/\aN cs' [ah ae ag,aX k1 120 (zg [ax.v,aV.v]),ah ax aK.Head,eQ aV aK.Atoms,Ma F8 v7 c6,aW k26 120 (zg [p25.1.v,v76.v]),bI p25.2 p25.1 z23,qd C8 v76 c75]) ?_ ?_
       · replace hF:=aaW
         refine aT ?_
         refine bnd hF fun FP hx93 hF=>uq (.cons .q7 (.cons .q6 (.rd .h rfl .nil))) (jk (pre:=_) (.cons aG (.cons aG .nil)) (fun _=>.nil) (iV (.rd .q2 rfl (.rd .h rfl (.rd (.t .h) rfl .nil))) (bU asz.h b_ (KN hx93)))) (fun _=>?_)
         refine au ?_
         rcases bE FP with R7|R7
         · rw[R7]
           try rw[R7]at hF; dsimp only[aJ,aI]at hF
           refine bH ?_
           refine bnd hF fun TL acV hF=>uq (.cons .h (.cons .h (.rd .h rfl (.rd .q2 rfl (.rd .q3 rfl .nil))))) (jk (pre:=_) (.cons aG (.cons aG .nil)) (fun _=>.nil) (iV (.rd .q2 rfl (.rd .h rfl (.rd (.t .h) rfl (.rd .q3 rfl (.rd .q4 rfl .nil))))) (bU asA.h b_ (alL acV)))) (fun _=>?_)
           exact bJ hF
         rw[R7]
         try rw[R7]at hF; dsimp only[aJ,aI]at hF
         exact bJ hF
       rintro _ _ ⟨lG,axm,rfl,rfl,hE⟩
       replace hF:=acU
       try dsimp only at hF
       refine bq hE ?_
       refine Ci hF (fun aur hF=>?_) (fun aur hF=>?_)
       · refine bu ?_
         refine dF rfl (bO (g:=true) aaB.h IL.h b_ (vs:=[(zg [p25.1.v,v76.v])]) rfl rfl rfl (by intro v hv; simp at hv; rcases hv with rfl<;>rfl)) (fun aDH=>?_)
         refine dP (.cons .h (.cons .q6 (.cons .q6 .nil))) (bQ (Ro:=zq) (E:=120) (F:=((p25.2++C8)++[])) (xs:=([(⟨z23,c75⟩:Query)]:List Query)) (d_ (asG (a:=(⟨z23,c75⟩:Query))) bP cK) rfl rfl) ?_
         refine bnd hF fun aj' hx102 hF=>ed (.cons .q5 (.cons .h .nil)) (dV (Ro:=zq) aaB.h asH IL.h rfl rfl rfl (.tmp rfl rfl) (.tmp rfl rfl) hx102 fw) (fun akb=>?_)
         refine aT ?_
         cases hF
         exact⟨_,akb.1,akb.2,_,rfl,aA,ay⟩
       refine au ?_
       cases hF
       exact⟨_,v7,F8,_,rfl,aA,ay⟩
     obtain⟨axS,Xj,axT⟩:=dz aka
     rw[De]at hF
     refine dL ?_
     refine dI ?_
     refine au ?_
     obtain⟨acS,aqk,aus⟩:=bind_some hF
     refine iC (fun f' cs'=>∃(R5:List Atom)(v124:Sv)(acW:List Nat)(g:Fr),R5=acS/\f'=aQ g [(0,ae.v),(3,(pz k1)),(5,v7.v),(6,(zi c9)),(7,(pz k26)),(8,(zi (vW:Int)))]/\aN cs' [ah ae ag,aX k1 120 (zg [ax.v,aV.v]),ah ax aK.Head,eQ aV aK.Atoms,Ma F8 v7 c6,aW k26 120 (zg [p25.1.v,v124.v]),bI p25.2 p25.1 z23,qd acW v124 R5]) ?_ ?_
     · replace hF:=aqk
       refine bi (dY (Cm (zi c9) rfl rfl ?_))
       refine au ?_
       refine bnd hF fun acR aut hF=>aP (aax (i:=c9) (j:=(vW:Int)) (.tmp rfl rfl) (.tmp rfl rfl) aut) ?_
       refine aP (VS (i:=acR) (j:=1) (.tmp rfl rfl) (.int _ _)) ?_
       refine aT ?_
       refine Ci hF (fun auu hF=>?_) (fun auu hF=>?_)
       · refine jf [0,1,2,3,4,5,6,7,8,9,10,11,12,13,14,15,16,17,18] [0,1,0,4,0,28,60,124,0,256,0,1792,3840,7936,16380,32764,65535,131071,262143] [14,16,18] mixed (by decide+kernel) ?_
         refine du ?_
         refine dM rfl .no .q5 (fun ha hp=>fe (v:=v76.v) aay.h (EN ha (.tmp rfl rfl) rfl) hp.2 rfl rfl) ?_
         refine dm ?_
         refine Di Xj (fun axN axO=>?_)
         refine du ?_
         refine Dl Z_ ?_
         refine dm ?_
         refine Di Xj (fun aDI aDJ=>?_)
         refine du ?_
         refine n_ (R':=(aD 3 az)) iA.h rfl .no (.tmp rfl rfl) rfl .h zn (fun aDK=>?_)
         refine bnd hF fun XJ V9 hF=>cO rfl rfl .no (.rd .h rfl .nil) (.own .q8 (fun _ h=>h) .nil) (fun ha=>bU aic.h (.cons (EN ha (.tmp rfl rfl) rfl) (.cons (EN ha (.tmp rfl rfl) rfl) .nil)) (afV V9)) (fun akc=>?_)
         refine iq rfl .no rfl (fun ha=>bO (g:=true) (len:=1) (parts:=[(0,.tmp 54)]) EC.h qG.h (.cons (EN ha (.tmp rfl rfl) rfl) .nil) (vs:=[(zg [(zi XJ.Rel),akc.1.v])]) rfl rfl rfl (by intro v hv; simp at hv; rcases hv with rfl<;>rfl)) (fun aDL=>?_)
         refine iR (.cons .h (.cons .h .nil)) (bQ (Ro:=nA) (E:=159) (F:=(akc.2++[])) (xs:=([XJ]:List Atom)) (d_ VY bP cK) rfl rfl) ?_
         refine bnd hF fun z119 auv hF=>cO rfl rfl .no (.cons .q11 (.cons .h .nil)) (.dep rfl (.dep rfl .nil)) (fun ha=>dV (Ro:=nA) EC.h VZ qG.h rfl rfl rfl (EN ha (.tmp rfl rfl) rfl) (EN ha (.tmp rfl rfl) rfl) auv fw) (fun acX=>?_)
         refine du ?_
         refine cO rfl rfl .no (.cons .q9 .nil) (.dep rfl (.dep rfl .nil)) (fun ha=>gz (e':=(zg [p25.1.v,acX.1.v])) aaz.h.sz (EN ha (.tmp rfl rfl) rfl) (EN ha (.tmp rfl rfl) rfl) rfl rfl rfl rfl rfl) (fun _=>?_)
         refine du ?_
         cases hF
         exact⟨_,acX.1,acX.2,_,rfl,aA,ay⟩
       refine au ?_
       cases hF
       exact⟨_,v76,C8,_,rfl,aA,ay⟩
     rintro _ _ ⟨R5,v124,acW,axE,rfl,rfl,hE⟩
     replace hF:=aus
     try dsimp only at hF
     refine bq hE ?_
     refine aY ?_
     rw[wk vW]
     exact⟨_,bX _,_,vW+1,BD,_,v124,acW,rfl,aA,axT,ay,hF⟩
   rintro _ _ ⟨R6,XK,acT,aDM,rfl,rfl,hE⟩
   replace hF:=acp
   try dsimp only at hF
   refine bq hE ?_
   refine aY ?_
   exact⟨m10,bX _,_,_,_,XK,acT,aA,ay,hF⟩
 refine gB ?_
 cases hF
 exact Er (v7,F8)
def GL:List Method->Nat->(List Method)->Option ((List Method))
 |[],k8,c2=>some c2
 |eU::fq,k8,c2=>(if ((eU.Limit:Int)!=0)then (
       (app c2 ([(⟨(-1),eU.Inputs,eU.Limit,eU.Cost,eU.Quota⟩:Method)]:List Method)).bind fun z24=>
       some z24)
     else (
       (app c2 ([eU]:List Method)).bind fun z28=>
       some z28)).bind fun vX=>
   match vX with
   |c32=>GL fq (k8+1) c32
def O3(ai:List Method):Option ((List Method)):=
 GL ai 0 ([]:List Method)
theorem amS{ai:List Method}{ae:Sv}{R:(List Method)}(hF:O3 ai=some R):
   Fw.Spec Tryz.prog 166 [ae.v] [bV ae ai] (fun p:Sv×List Nat=>p.1.v) (fun p=>[abT p.2 p.1 R]):=by
 refine Se 26 Tryz.func166 [.tmp 2] ?_
 intro H0 F0
 unfold O3 at hF
 refine bg ?_
 refine dF rfl (bO (g:=true) Cn.h qi.h .nil (vs:=[]) rfl rfl rfl (by simp)) (fun k1=>?_)
 refine dP (.cons .h .nil) (bQ (Ro:=(aC qK)) (E:=57) (F:=[]) (xs:=([]:List Method)) bP rfl rfl) ?_
 refine bB ?_
 refine bi (bT (m:=ai.length) (fun m6 f' cs'=>∃(g:Fr)(k8:Nat)(fq c2:List Method)(v3:Sv)(F4:List Nat),m6=fq.length/\f'=aQ g [(0,ae.v),(3,v3.v),(4,(zi (k8:Int)))]/\List.drop k8 ai=fq/\aN cs' [bV ae ai,abT F4 v3 c2]/\GL fq k8 c2=some R) ⟨_,0,_,_,⟨(some ⟨k1,0,none⟩),0,1⟩,(k1::[]),rfl,aA,rfl,ay,hF⟩ ?_)
 rintro m6 _ _ ⟨g7,k8,fq,c2,v3,F4,rfl,rfl,jY,hE,hF⟩
 refine Kb hE ai (fun Mc=>?_)
 rcases fq with _|⟨eU,fq⟩
 · have vg:=dn jY
   rw[GL]at hF
   refine bH ?_
   refine dJ ?_
   refine gB ?_
   cases hF
   exact Er (v3,F4)
 obtain⟨vg,iH,rT⟩:=dz jY
 rw[GL]at hF
 refine bH ?_
 refine dI ?_
 refine au ?_
 obtain⟨vX,Qn,R8⟩:=bind_some hF
 refine iC (fun f' cs'=>∃(c32:List Method)(v33:Sv)(JP:List Nat)(g:Fr),c32=vX/\f'=aQ g [(0,ae.v),(3,v33.v),(4,(zi (k8:Int)))]/\aN cs' [bV ae ai,abT JP v33 c32]) ?_ ?_
 · replace hF:=Qn
   refine bi (dY (Cm ae.v rfl rfl ?_))
   refine au ?_
   refine Ai iH (fun k19 FH=>?_)
   refine mX (uf eU) uH (fun mP=>?_)
   refine dX (fun k22=>?_)
   refine As (zg [(zi eU.Rel),mP.v,(zi eU.Limit),(zi eU.Cost),(zi eU.Quota)]) ?_
   refine bH ?_
   refine Ci hF (fun Rm hF=>?_) (fun Rm hF=>?_)
   · refine aT ?_
     refine As (zg [(zi (-1)),mP.v,(zi eU.Limit),(zi eU.Cost),(zi eU.Quota)]) ?_
     refine bg ?_
     refine dF rfl (bO (g:=true) Cn.h qi.h b_ (vs:=[(zg [(zi (-1)),mP.v,(zi eU.Limit),(zi eU.Cost),(zi eU.Quota)])]) rfl rfl rfl (by intro v hv; simp at hv; rcases hv with rfl<;>rfl)) (fun k23=>?_)
     refine dP (.cons .h (.rd (.t .h) rfl .nil)) (bQ (Ro:=(aC qK)) (E:=57) (F:=([]++[])) (xs:=([(⟨(-1),eU.Inputs,eU.Limit,eU.Cost,eU.Quota⟩:Method)]:List Method)) (d_ (ajj (a:=(⟨(-1),eU.Inputs,eU.Limit,eU.Cost,eU.Quota⟩:Method))) bP cK) rfl rfl) ?_
     refine bnd hF fun z24 hx25 hF=>ed (.cons .q5 (.cons .h .nil)) (dV (Ro:=(aC qK)) Cn.h WV qi.h rfl rfl rfl (.tmp rfl rfl) (.tmp rfl rfl) hx25 fw) (fun p26=>?_)
     refine aT ?_
     cases hF
     exact⟨_,p26.1,p26.2,_,rfl,aA,ay⟩
   refine bg ?_
   refine dF rfl (bO (g:=true) Cn.h qi.h b_ (vs:=[(zg [(zi eU.Rel),mP.v,(zi eU.Limit),(zi eU.Cost),(zi eU.Quota)])]) rfl rfl rfl (by intro v hv; simp at hv; rcases hv with rfl<;>rfl)) (fun k27=>?_)
   refine dP (.cons .h (.rd (.t .h) rfl .nil)) (bQ (Ro:=(aC qK)) (E:=57) (F:=([]++[])) (xs:=([eU]:List Method)) (d_ ajj bP cK) rfl rfl) ?_
   refine bnd hF fun z28 hx29 hF=>ed (.cons .q5 (.cons .h .nil)) (dV (Ro:=(aC qK)) Cn.h WV qi.h rfl rfl rfl (.tmp rfl rfl) (.tmp rfl rfl) hx29 fw) (fun p30=>?_)
   refine aT ?_
   cases hF
   exact⟨_,p30.1,p30.2,_,rfl,aA,ay⟩
 rintro _ _ ⟨c32,v33,JP,g36,rfl,rfl,hE⟩
 replace hF:=R8
 try dsimp only at hF
 refine bq hE ?_
 refine aY ?_
 rw[wk k8]
 exact⟨_,bX _,_,k8+1,fq,_,v33,JP,rfl,aA,rT,ay,hF⟩
def Gt(ai:List Method):List Step->Nat->Int->Option (Int)
 |[],k5,c1=>some c1
 |x7::eH,k5,c1=>(((iO x7.Method 0 (IntKind.i64.wrap ((ai.length:Int)-1))).bind fun jM=>
       bif jM then ((ix ai x7.Method).bind fun nK=>
         (iO nK.Cost 0 99).bind fun r32=>
         some r32)
       else (some false)).bind fun o16=>
     match o16 with
     |yZ=>if yZ then (
         (ix ai x7.Method).bind fun x38=>
         some (IntKind.i64.wrap (c1+x38.Cost)))
       else (
         some c1)).bind fun y5=>
   match y5 with
   |c46=>Gt ai eH (k5+1) c46
def KY(ai:List Method)(dW:List Step):Option (Int):=
 Gt ai dW 0 0
theorem YX{ai:List Method}{ae:Sv}{dW:List Step}{ax:Sv}{R:Int}(hF:KY ai dW=some R):
   Fw.Spec Tryz.prog 167 [ae.v,ax.v] [bV ae ai,iF ax dW] (fun _:Unit=>(zi R)) (fun _=>[]):=by
 refine Se 46 Tryz.func167 [.tmp 4] ?_
 intro H0 F0
 unfold KY at hF
 refine ky ?_
 refine bi (bT (m:=dW.length) (fun m3 f' cs'=>∃(g:Fr)(k5:Nat)(eH:List Step)(c1:Int),m3=eH.length/\f'=aQ g [(0,ae.v),(1,ax.v),(5,(zi c1)),(6,(zi (k5:Int)))]/\List.drop k5 dW=eH/\aN cs' [bV ae ai,iF ax dW]/\Gt ai eH k5 c1=some R) ⟨_,0,_,_,rfl,aA,rfl,ay,hF⟩ ?_)
 rintro m3 _ _ ⟨g4,k5,eH,c1,rfl,rfl,nJ,hE,hF⟩
 refine Kb hE dW (fun IP=>?_)
 rcases eH with _|⟨x7,eH⟩
 · have tT:=dn nJ
   rw[Gt]at hF
   refine bH ?_
   refine dJ ?_
   exact ze hF
 obtain⟨tT,jm,jY⟩:=dz nJ
 rw[Gt]at hF
 refine bH ?_
 refine dI ?_
 refine au ?_
 obtain⟨y5,Qo,R9⟩:=bind_some hF
 refine iC (fun f' cs'=>∃(c46:Int)(g:Fr),c46=y5/\f'=aQ g [(0,ae.v),(1,ax.v),(5,(zi c46)),(6,(zi (k5:Int)))]/\aN cs' [bV ae ai,iF ax dW]) ?_ ?_
 · replace hF:=Qo
   refine bi ?_
   obtain⟨o16,aaX,acY⟩:=bind_some hF
   refine au ?_
   refine eX (fun f' cs'=>∃(yZ:Bool)(g:Fr),yZ=o16/\f'=aQ g [(0,ae.v),(1,ax.v),(5,(zi c1)),(6,(zi (k5:Int))),(33,(.bool yZ))]/\aN cs' [bV ae ai,iF ax dW]) ?_ ?_
   · replace hF:=aaX
     refine aT ?_
     refine Ai jm (fun k18 j19=>?_)
     refine au ?_
     refine Al A7 ?_
     refine bu ?_
     refine bnd hF fun jM lv hF=>bD (jR lv) (fun _=>?_)
     refine au ?_
     rcases bE jM with j6|j6
     · rw[j6]
       try rw[j6]at hF; dsimp only[aJ,aI]at hF
       refine bH ?_
       refine Ai jm (fun k24 j25=>?_)
       refine bu ?_
       refine Al A7 ?_
       refine au ?_
       refine zI hF fun nK Xl hx29 hF=>?_
       refine Ai hx29 (fun FL j31=>?_)
       refine bu ?_
       refine Al L6 ?_
       refine au ?_
       refine bnd hF fun r32 vv hF=>bD (jR vv) (fun _=>?_)
       exact bJ hF
     rw[j6]
     try rw[j6]at hF; dsimp only[aJ,aI]at hF
     exact bJ hF
   rintro _ _ ⟨yZ,g45,rfl,rfl,hE⟩
   replace hF:=acY
   try dsimp only at hF
   refine bq hE ?_
   refine Ci hF (fun I9 hF=>?_) (fun I9 hF=>?_)
   · refine aY ?_
     refine Ai jm (fun ny TM=>?_)
     refine au ?_
     refine Al A7 ?_
     refine zI hF fun x38 ajM Jh hF=>?_
     refine Ai Jh (fun Yf j43=>?_)
     refine au ?_
     refine Al L6 ?_
     exact bJ hF
   exact bJ hF
 rintro _ _ ⟨c46,g48,rfl,rfl,hE⟩
 replace hF:=R9
 try dsimp only at hF
 refine bq hE ?_
 refine aY ?_
 rw[wk k5]
 exact⟨_,bX _,_,k5+1,eH,_,rfl,aA,jY,ay,hF⟩
def G7(aB:Atom)(il:List Int):List Int->Nat->Option (Bool)
 |[],k6=>some true
 |x8::jO,k6=>(iO x8 0 (IntKind.i64.wrap ((aB.Terms.length:Int)-1))).bind fun oP=>
   if (!oP)then (
     some false)
   else (
     (ix aB.Terms x8).bind fun jX=>
     ((Ba jX).bind fun mQ=>
       bif mQ then ((Bb il jX).bind fun qy=>
         some (!qy))
       else (some false)).bind fun o28=>
     match o28 with
     |c37=>if c37 then (
         some false)
       else (
         G7 aB il jO (k6+1)))
def Lm(aa:Method)(aB:Atom)(il:List Int):Option (Bool):=
 if ((aa.Rel:Int)!=aB.Rel)then (
   some false)
 else (
   G7 aB il aa.Inputs 0)
theorem aft{aa:Method}{aO:Sv}{aB:Atom}{aV:Sv}{il:List Int}{bL:Sv}{R:Bool}(hF:Lm aa aB il=some R):
   Fw.Spec Tryz.prog 186 [(zg [(zi aa.Rel),aO.v,(zi aa.Limit),(zi aa.Cost),(zi aa.Quota)]),(zg [(zi aB.Rel),aV.v]),bL.v] [ah aO aa.Inputs,ah aV aB.Terms,ah bL il] (fun _:Unit=>(.bool R)) (fun _=>[]):=by
 refine Se 49 Tryz.func186 [.tmp 6] ?_
 intro H0 F0
 unfold Lm at hF
 refine au ?_
 refine bN (fun k1=>?_)
 refine bN (fun k2=>?_)
 refine ky ?_
 refine Ci hF (fun acb hF=>?_) (fun acb hF=>?_)
 · exact ze hF
 refine aY ?_
 refine bi (bT (m:=aa.Inputs.length) (fun m4 f' cs'=>∃(g:Fr)(k6:Nat)(jO:List Int),m4=jO.length/\f'=aQ g [(2,bL.v),(3,(pz k1)),(4,(pz k2)),(7,(zi (k6:Int)))]/\List.drop k6 aa.Inputs=jO/\aN cs' [ah bL il,aX k1 57 (zg [(zi aa.Rel),aO.v,(zi aa.Limit),(zi aa.Cost),(zi aa.Quota)]),ah aO aa.Inputs,aX k2 159 (zg [(zi aB.Rel),aV.v]),ah aV aB.Terms]/\G7 aB il jO k6=some R) ⟨_,0,_,rfl,aA,rfl,ay,hF⟩ ?_)
 rintro m4 _ _ ⟨g5,k6,jO,rfl,rfl,yT,hE,hF⟩
 refine Kb hE aa.Inputs (fun aaK=>?_)
 rcases jO with _|⟨x8,jO⟩
 · have hk10:=dn yT
   rw[G7]at hF
   refine dL ?_
   refine dJ ?_
   exact ze hF
 obtain⟨hk10,kW,mK⟩:=dz yT
 rw[G7]at hF
 refine dL ?_
 refine dI ?_
 refine bu ?_
 refine dS [0,1,2,3,4,5,6,7,8,9,10] [0,1,0,7,15,0,32,96,224,511,1023] [9] mixed (by decide+kernel) ?_
 refine dm ?_
 refine Di kW (fun k15 Ym=>?_)
 refine Dl dN ?_
 refine nQ ?_
 refine bnd hF fun oP mJ hF=>eZ (jR mJ) (fun _=>?_)
 refine bR ?_
 refine Ci hF (fun acd hF=>?_) (fun acd hF=>?_)
 · exact ze hF
 refine au ?_
 refine dS [0,1,2,3,4,5,6,7,8,9] [0,1,0,4,0,28,60,127,255,511] [] mixed (by decide+kernel) ?_
 refine sV ?_
 refine Di kW (fun k20 CZ=>?_)
 refine Dl dN ?_
 refine zI hF fun jX acC hx25 hF=>?_
 refine Di hx25 (fun k26 TH=>?_)
 refine Dl dN ?_
 refine bR ?_
 obtain⟨o28,auw,axU⟩:=bind_some hF
 refine au ?_
 refine eX (fun f' cs'=>∃(c37:Bool)(g:Fr),c37=o28/\f'=aQ g [(2,bL.v),(3,(pz k1)),(4,(pz k2)),(7,(zi (k6:Int))),(48,(.bool c37))]/\aN cs' [ah bL il,aX k1 57 (zg [(zi aa.Rel),aO.v,(zi aa.Limit),(zi aa.Cost),(zi aa.Quota)]),ah aO aa.Inputs,aX k2 159 (zg [(zi aB.Rel),aV.v]),ah aV aB.Terms]) ?_ ?_
 · replace hF:=auw
   refine au ?_
   refine bnd hF fun mQ hx31 hF=>bD (K8 hx31) (fun _=>?_)
   refine au ?_
   rcases bE mQ with ru|ru
   · rw[ru]
     try rw[ru]at hF; dsimp only[aJ,aI]at hF
     refine aY ?_
     refine bnd hF fun qy x_ hF=>bD (O0 x_) (fun _=>?_)
     exact bJ hF
   rw[ru]
   try rw[ru]at hF; dsimp only[aJ,aI]at hF
   exact bJ hF
 rintro _ _ ⟨c37,Yk,rfl,rfl,hE⟩
 replace hF:=axU
 try dsimp only at hF
 refine bq hE ?_
 refine Ci hF (fun Cx hF=>?_) (fun Cx hF=>?_)
 · exact ze hF
 refine bB ?_
 rw[wk k6]
 exact⟨_,bX _,_,k6+1,jO,rfl,aA,mK,ay,hF⟩
def Hz:List Int->Nat->(List Int)->Option ((List Int))
 |[],k12,c6=>some c6
 |uF::o6,k12,c6=>((Ba uF).bind fun gV=>
     if gV then (
       (IA c6 uF).bind fun mQ=>
       some mQ)
     else (
       some c6)).bind fun yS=>
   match yS with
   |c34=>Hz o6 (k12+1) c34
def LK(il:List Int)(aB:Atom):Option ((List Int)):=
 (app ([]:List Int) il).bind fun z3=>
 Hz aB.Terms 0 z3
theorem afZ{il:List Int}{ae:Sv}{aB:Atom}{aV:Sv}{R:(List Int)}(hF:LK il aB=some R):
   Fw.Spec Tryz.prog 187 [ae.v,(zg [(zi aB.Rel),aV.v])] [ah ae il,ah aV aB.Terms] (fun p:Sv×List Nat=>p.1.v) (fun p=>[bI p.2 p.1 R]):=by
 refine Se 31 Tryz.func187 [.tmp 4] ?_
 intro H0 F0
 unfold LK at hF
 refine au ?_
 refine bN (fun k1=>?_)
 refine bu ?_
 refine dF rfl (bO (g:=true) dh.h dx.h .nil (vs:=[]) rfl rfl rfl (by simp)) (fun k2=>?_)
 refine dP (.cons .h .nil) (bQ (Ro:=(aC az)) (E:=3) (F:=[]) (xs:=([]:List Int)) bP rfl rfl) ?_
 refine au ?_
 refine bnd hF fun z3 hx4 hF=>ed (.cons .h (.rd (.t .h) rfl .nil)) (dV (Ro:=(aC az)) dh.h iQ dx.h rfl rfl rfl (.tmp rfl rfl) (.tmp rfl rfl) hx4 mg) (fun p5=>?_)
 refine bB ?_
 refine bi (bT (m:=aB.Terms.length) (fun m10 f' cs'=>∃(g:Fr)(k12:Nat)(o6 c6:List Int)(v7:Sv)(F8:List Nat),m10=o6.length/\f'=aQ g [(3,(pz k1)),(5,v7.v),(6,(zi (k12:Int)))]/\List.drop k12 aB.Terms=o6/\aN cs' [aX k1 159 (zg [(zi aB.Rel),aV.v]),ah aV aB.Terms,bI F8 v7 c6]/\Hz o6 k12 c6=some R) ⟨_,0,_,_,p5.1,p5.2,rfl,aA,rfl,ay,hF⟩ ?_)
 rintro m10 _ _ ⟨g11,k12,o6,c6,v7,F8,rfl,rfl,qY,hE,hF⟩
 refine Kb hE aB.Terms (fun aux=>?_)
 rcases o6 with _|⟨uF,o6⟩
 · have acZ:=dn qY
   rw[Hz]at hF
   refine dL ?_
   refine dJ ?_
   refine gB ?_
   cases hF
   exact Er (v7,F8)
 obtain⟨acZ,jF,ac0⟩:=dz qY
 rw[Hz]at hF
 refine dL ?_
 refine dI ?_
 refine au ?_
 obtain⟨yS,Qg,Rk⟩:=bind_some hF
 refine iC (fun f' cs'=>∃(c34:List Int)(v35:Sv)(F36:List Nat)(g:Fr),c34=yS/\f'=aQ g [(3,(pz k1)),(5,v35.v),(6,(zi (k12:Int)))]/\aN cs' [aX k1 159 (zg [(zi aB.Rel),aV.v]),ah aV aB.Terms,bI F36 v35 c34]) ?_ ?_
 · replace hF:=Qg
   refine bi (dY (aP (iY (off:=1) apr.h (.tmp rfl rfl)) ?_))
   refine aT ?_
   refine Ai jF (fun k23 Yj=>?_)
   refine Al dN ?_
   refine bnd hF fun gV nE hF=>bD (K8 nE) (fun _=>?_)
   refine au ?_
   refine Ci hF (fun axV hF=>?_) (fun axV hF=>?_)
   · refine aY ?_
     refine Ai jF (fun k28 Yl=>?_)
     refine Al dN ?_
     refine bnd hF fun mQ hx31 hF=>gy (Zy hx31) (fun p32=>?_)
     refine aT ?_
     cases hF
     exact⟨_,p32.1,p32.2,_,rfl,aA,ay⟩
   refine au ?_
   cases hF
   exact⟨_,v7,F8,_,rfl,aA,ay⟩
 rintro _ _ ⟨c34,v35,F36,g38,rfl,rfl,hE⟩
 replace hF:=Rk
 try dsimp only at hF
 refine bq hE ?_
 refine aY ?_
 rw[wk k12]
 exact⟨_,bX _,_,k12+1,o6,_,v35,F36,rfl,aA,ac0,ay,hF⟩
def GM(ai:List Method)(aK:Query)(dW:List Step)(il:List Int)(ff:(List Method)->Query->(List Step)->(List Int)->(List Step)->Option ((List Step)))(k23:Nat)(x25:Atom)(c34:Bool):Nat->(List Step)->Int->Option ((List Step))
 |0,_,_=>none
 |JS+1,kJ,c49=>if ((decide ((c49:Int)<(ai.length:Int)))&&(!c34))then (
     ((ix ai c49).bind fun JK=>
       (Lm JK x25 il).bind fun r72=>
       if r72 then (
         (app ([]:List Step) dW).bind fun z76=>
         (app z76 ([(⟨(k23:Int),c49⟩:Step)]:List Step)).bind fun z80=>
         (LK il x25).bind fun FP=>
         (ff ai aK z80 FP kJ).bind fun JU=>
         some JU)
       else (
         some kJ)).bind fun o60=>
     match o60 with
     |lG=>GM ai aK dW il ff k23 x25 c34 JS lG (IntKind.i64.wrap (c49+1)))
   else (
     some kJ)
def DJ(ai:List Method)(aK:Query)(dW:List Step)(il:List Int)(ff:(List Method)->Query->(List Step)->(List Int)->(List Step)->Option ((List Step)))(c18:List Step)(k23:Nat)(x25:Atom):List Step->Nat->Bool->Option ((List Step))
 |[],nI,c34=>GM ai aK dW il ff k23 x25 c34 (((ai.length:Int)-0).toNat+2) c18 0
 |x40::o5,nI,c34=>DJ ai aK dW il ff c18 k23 x25 o5 (nI+1) (c34||((x40.Atom:Int)==(k23:Int)))
def GN(ai:List Method)(aK:Query)(dW:List Step)(il:List Int)(ff:(List Method)->Query->(List Step)->(List Int)->(List Step)->Option ((List Step))):List Atom->Nat->(List Step)->Option ((List Step))
 |[],k23,c18=>some c18
 |x25::oZ,k23,c18=>(DJ ai aK dW il ff c18 k23 x25 dW 0 false).bind fun o32=>
   match o32 with
   |R_=>GN ai aK dW il ff oZ (k23+1) R_
def Zd(ff:(List Method)->Query->(List Step)->(List Int)->(List Step)->Option ((List Step)))(fuel:Nat)(ai:List Method)(aK:Query)(dW:List Step)(il:List Int)(qc:List Step):Option ((List Step)):=
 if (((dW.length:Int):Int)==(aK.Atoms.length:Int))then (
   (bif (((qc.length:Int):Int)==0)then (some true)
     else ((KY ai dW).bind fun r5=>
       (KY ai qc).bind fun r8=>
       some (decide ((r5:Int)<r8)))).bind fun o2=>
   match o2 with
   |c11=>if c11 then (
       (app ([]:List Step) dW).bind fun FE=>
       some FE)
     else (
       some qc))
 else (
   GN ai aK dW il ff aK.Atoms 0 qc)
def G8(fuel:Nat):Nat->(List Method)->Query->(List Step)->(List Int)->(List Step)->Option ((List Step))
 |0,_,_,_,_,_=>none
 |n+1,ai,aK,dW,il,qc=>Zd (G8 fuel n) fuel ai aK dW il qc
def Zz(fuel:Nat)(ai:List Method)(aK:Query)(dW:List Step)(il:List Int)(qc:List Step):Option ((List Step)):=
 G8 fuel fuel ai aK dW il qc
theorem aez(fuel:Nat):∀(n:Nat)(ai:List Method)(ae:Sv)(aK:Query)(ax:Sv)(aV:Sv)(dW:List Step)(bL:Sv)(il:List Int)(ic:Sv)(qc:List Step)(kG:Sv)(R:(List Step))(hF:G8 fuel n ai aK dW il qc=some R),
   Fw.Spec Tryz.prog 165 [ae.v,(zg [ax.v,aV.v]),bL.v,ic.v,kG.v] [bV ae ai,ah ax aK.Head,eQ aV aK.Atoms,iF bL dW,ah ic il,iF kG qc] (fun p:Sv=>p.v) (fun p=>[iF p R])
 |0,_,_,_,_,_,_,_,_,_,_,_,_,hF=>by cases hF
 |n+1,ai,ae,aK,ax,aV,dW,bL,il,ic,qc,kG,R,hF=>by
   have ih:=aez fuel n
   unfold G8 at hF
   generalize G8 fuel n=ff at hF ih
   refine Se 103 Tryz.func165 [.tmp 10] ?_
   intro H0 F0
   unfold Zd at hF
   refine au ?_
   refine bN (fun k1=>?_)
   refine BV ?_
   refine Ci hF (fun auy hF=>?_) (fun auy hF=>?_)
   · refine au ?_
     obtain⟨o2,fU,hO3⟩:=bind_some hF
     refine au ?_
     refine eX (fun f' cs'=>∃(c11:Bool)(g:Fr),c11=o2/\f'=aQ g [(2,bL.v),(4,kG.v),(33,(.bool c11))]/\aN cs' [iF bL dW,iF kG qc]) ?_ ?_
     · replace hF:=fU
       refine bg ?_
       rcases bE (((qc.length:Int):Int)==0)with hg4|hg4
       · rw[hg4]
         try rw[hg4]at hF; dsimp only[aJ,aI]at hF
         exact bJ hF
       rw[hg4]
       try rw[hg4]at hF; dsimp only[aJ,aI]at hF
       refine aY ?_
       refine bnd hF fun r5 hx6 hF=>bD (YX hx6) (fun _=>?_)
       refine aY ?_
       refine bnd hF fun r8 bY hF=>bD (YX bY) (fun _=>?_)
       exact bJ hF
     rintro _ _ ⟨c11,g17,rfl,rfl,hE⟩
     replace hF:=hO3
     try dsimp only at hF
     refine bq hE ?_
     refine Ci hF (fun Cs hF=>?_) (fun Cs hF=>?_)
     · refine au ?_
       refine dF rfl (bO (g:=true) ED.h BU.h .nil (vs:=[]) rfl rfl rfl (by simp)) (fun k12=>?_)
       refine dP (.cons .h .nil) (bQ (Ro:=(aC qH)) (E:=186) (F:=[]) (xs:=([]:List Step)) bP rfl rfl) ?_
       refine au ?_
       refine bnd hF fun FE j5 hF=>ed (.cons .h (.rd .h rfl .nil)) (dV (Ro:=(aC qH)) ED.h aaD BU.h rfl rfl rfl (.tmp rfl rfl) (.tmp rfl rfl) j5 mg) (fun ni=>?_)
       refine bu ?_
       cases hF
       exact gQ ni.1 (.tmp rfl rfl .nil) rfl (.frz .h aG (.sel (.rd .h rfl .nil)))
     refine bB ?_
     cases hF
     exact Er kG
   refine aY ?_
   refine bi (bT (m:=aK.Atoms.length) (fun m21 f' cs'=>∃(g:Fr)(k23:Nat)(oZ:List Atom)(c18:List Step)(v19:Sv),m21=oZ.length/\f'=aQ g [(0,ae.v),(2,bL.v),(3,ic.v),(4,v19.v),(6,(pz k1)),(11,(zi (k23:Int)))]/\List.drop k23 aK.Atoms=oZ/\aN cs' [bV ae ai,iF bL dW,ah ic il,iF v19 c18,aX k1 120 (zg [ax.v,aV.v]),ah ax aK.Head,eQ aV aK.Atoms]/\GN ai aK dW il ff oZ k23 c18=some R) ⟨_,0,_,_,kG,rfl,aA,rfl,ay,hF⟩ ?_)
   rintro m21 _ _ ⟨g22,k23,oZ,c18,v19,rfl,rfl,x9,hE,hF⟩
   refine Kb hE aK.Atoms (fun ath=>?_)
   rcases oZ with _|⟨x25,oZ⟩
   · have acf:=dn x9
     rw[GN]at hF
     refine dL ?_
     refine dJ ?_
     refine gB ?_
     cases hF
     exact Er v19
   obtain⟨acf,hx28,hd29⟩:=dz x9
   rw[GN]at hF
   refine dL ?_
   refine dI ?_
   refine au ?_
   obtain⟨o32,aaN,acl⟩:=bind_some hF
   refine iC (fun f' cs'=>∃(R_:List Step)(v109:Sv)(g:Fr),R_=o32/\f'=aQ g [(0,ae.v),(2,bL.v),(3,ic.v),(4,v109.v),(6,(pz k1)),(11,(zi (k23:Int)))]/\aN cs' [bV ae ai,iF bL dW,ah ic il,iF v109 R_,aX k1 120 (zg [ax.v,aV.v]),ah ax aK.Head,eQ aV aK.Atoms]) ?_ ?_
   · replace hF:=aaN
     refine bi (dY (aP (jU (v:=(.bool false)) (.bool _)) ?_))
     refine aY ?_
     refine bi (bT (m:=dW.length) (fun TF f' cs'=>∃(g:Fr)(nI:Nat)(o5:List Step)(c34:Bool),TF=o5.length/\f'=aQ g [(0,ae.v),(2,bL.v),(3,ic.v),(4,v19.v),(6,(pz k1)),(11,(zi (k23:Int))),(12,(.bool c34)),(13,(zi (nI:Int)))]/\List.drop nI dW=o5/\aN cs' [bV ae ai,iF bL dW,ah ic il,iF v19 c18,aX k1 120 (zg [ax.v,aV.v]),ah ax aK.Head,eQ aV aK.Atoms]/\DJ ai aK dW il ff c18 k23 x25 o5 nI c34=some o32) ⟨_,0,_,_,rfl,aA,rfl,ay,hF⟩ ?_)
     rintro TF _ _ ⟨g37,nI,o5,c34,rfl,rfl,CK,hE,hF⟩
     refine Kb hE dW (fun atN=>?_)
     rcases o5 with _|⟨x40,o5⟩
     · have acB:=dn CK
       rw[DJ]at hF
       refine bH ?_
       refine dJ ?_
       refine bH ?_
       refine bi (bT (m:=(((ai.length:Int)-0).toNat+2)) (fun JS f' cs'=>∃(g:Fr)(kJ:List Step)(c49:Int)(v48:Sv),f'=aQ g [(0,ae.v),(2,bL.v),(3,ic.v),(4,v48.v),(6,(pz k1)),(11,(zi (k23:Int))),(12,(.bool c34)),(14,(zi c49))]/\aN cs' [bV ae ai,iF bL dW,ah ic il,iF v48 kJ,aX k1 120 (zg [ax.v,aV.v]),ah ax aK.Head,eQ aV aK.Atoms]/\GM ai aK dW il ff k23 x25 c34 JS kJ c49=some o32) ⟨_,_,_,v19,aA,ay,hF⟩ ?_)
       rintro JS _ _ ⟨g51,kJ,c49,v48,rfl,hE,hF⟩
       refine bq hE ?_
       rcases JS with _|JS
       · rw[GM]at hF
         exact absurd hF (by simp)
       rw[GM]at hF
       refine aT ?_
       refine eX (fun f' cs'=>∃(g:Fr),f'=aQ g [(0,ae.v),(2,bL.v),(3,ic.v),(4,v48.v),(6,(pz k1)),(11,(zi (k23:Int))),(12,(.bool c34)),(14,(zi c49)),(68,(.bool ((decide ((c49:Int)<(ai.length:Int)))&&(!c34))))]/\aN cs' [bV ae ai,iF bL dW,ah ic il,iF v48 kJ,aX k1 120 (zg [ax.v,aV.v]),ah ax aK.Head,eQ aV aK.Atoms]) ?_ ?_
       · refine aY ?_
         rcases bE (decide ((c49:Int)<(ai.length:Int)))with Sa|Sa
         · rw[Sa]
           try rw[Sa]at hF; dsimp only[aJ,aI]at hF
           refine bB ?_
           exact⟨_,aA,ay⟩
         rw[Sa]
         try rw[Sa]at hF; dsimp only[aJ,aI]at hF
         refine bg ?_
         exact⟨_,aA,ay⟩
       rintro _ _ ⟨g59,rfl,hE⟩
       refine bq hE ?_
       refine Ci hF (fun aaY hF=>?_) (fun aaY hF=>?_)
       · refine au ?_
         obtain⟨o60,auz,axW⟩:=bind_some hF
         refine iC (fun f' cs'=>∃(lG:List Step)(yj:Sv)(g:Fr),lG=o60/\f'=aQ g [(0,ae.v),(2,bL.v),(3,ic.v),(4,yj.v),(6,(pz k1)),(11,(zi (k23:Int))),(12,(.bool c34)),(14,(zi c49))]/\aN cs' [bV ae ai,iF bL dW,ah ic il,iF yj lG,aX k1 120 (zg [ax.v,aV.v]),ah ax aK.Head,eQ aV aK.Atoms]) ?_ ?_
         · replace hF:=auz
           refine bi (dS [0,1,2,3,4,5,6,7,8,9,10] [0,0,3,7,0,16,0,112,240,0,1023] [10] mixed (by decide+kernel) ?_)
           refine bR ?_
           refine zI hF fun JK aDN Rq hF=>?_
           refine Di Rq (fun k66 j67=>?_)
           refine jP (uf JK) uH (fun p68=>?_)
           refine dm ?_
           refine Di hx28 (fun k69 j70=>?_)
           refine jP (D9 x25) Hl (fun p71=>?_)
           refine du ?_
           refine bnd hF fun r72 ab0 hF=>eZ (aft ab0) (fun _=>?_)
           refine du ?_
           refine Ci hF (fun axX hF=>?_) (fun axX hF=>?_)
           · refine au ?_
             refine dF rfl (bO (g:=true) ED.h BU.h .nil (vs:=[]) rfl rfl rfl (by simp)) (fun k75=>?_)
             refine dP (.cons .h .nil) (bQ (Ro:=(aC qH)) (E:=186) (F:=[]) (xs:=([]:List Step)) bP rfl rfl) ?_
             refine au ?_
             refine bnd hF fun z76 axY hF=>ed (.cons .h (.rd .q5 rfl .nil)) (dV (Ro:=(aC qH)) ED.h aaD BU.h rfl rfl rfl (.tmp rfl rfl) (.tmp rfl rfl) axY mg) (fun p78=>?_)
             refine aT ?_
             refine aP (iB BU.h rfl (vs:=[(zi (k23:Int)),(zi c49)]) b_ (cells:=[(zi (k23:Int)),(zi c49)]) rfl) ?_
             refine dF rfl (bO (g:=true) ED.h BU.h b_ (vs:=[(zg [(zi (k23:Int)),(zi c49)])]) rfl rfl rfl (by intro v hv; simp at hv; rcases hv with rfl<;>rfl)) (fun k79=>?_)
             refine dP (.cons .h .nil) (bQ (Ro:=(aC qH)) (E:=186) (F:=([]++[])) (xs:=([(⟨(k23:Int),c49⟩:Step)]:List Step)) (d_ (jh (fun _=>rfl)) bP cK) rfl rfl) ?_
             refine bnd hF fun z80 axZ hF=>ed (.cons (.t .h) (.cons .h .nil)) (dV (Ro:=(aC qH)) ED.h aaD BU.h rfl rfl rfl (.tmp rfl rfl) (.tmp rfl rfl) axZ fw) (fun p82=>?_)
             refine aT ?_
             refine iD .h aG ?_
             refine jf [0,1,2,3,4,5,6,7,8,10,9,11,12] [0,0,0,0,0,16,0,112,240,504,0,2047,4095] [9,11] mixed (by decide+kernel) ?_
             refine abQ ?_
             refine Di hx28 (fun k89 j90=>?_)
             refine jP (D9 x25) Hl (fun p91=>?_)
             refine du ?_
             refine bnd hF fun FP hx93 hF=>cO rfl rfl .no (.rd .q9 rfl (.rd .h rfl .nil)) .nil (fun ha=>Ex (post':=fun JV:Sv×List Nat=>[ah JV.1 FP]) (fun JV=>(.frz .h aG ay)) (bU aif.h (.cons (EN ha (.tmp rfl rfl) rfl) (.cons (EN ha (.tmp rfl rfl) rfl) .nil)) (@afZ il ic x25 p91 _ hx93))) (fun JV=>?_)
             refine bnd hF fun JU hx96 hF=>cO rfl rfl .no (.rd .q8 rfl (.rd .q13 rfl (.rd .q14 rfl (.rd .q3 rfl (.rd .h rfl (.rd .q11 rfl .nil)))))) .nil (fun ha=>bU asJ.h (.cons (EN ha (.tmp rfl rfl) rfl) (.cons (EN ha (.tmp rfl rfl) rfl) (.cons (EN ha (.tmp rfl rfl) rfl) (.cons (EN ha (.tmp rfl rfl) rfl) (.cons (EN ha (.tmp rfl rfl) rfl) .nil))))) (ih ai ae aK ax aV z80 p82.1 FP JV.1 kJ v48 _ hx96)) (fun Yv=>?_)
             refine bR ?_
             cases hF
             exact⟨_,Yv,_,rfl,aA,ay⟩
           refine au ?_
           cases hF
           exact⟨_,v48,_,rfl,aA,ay⟩
         rintro _ _ ⟨lG,yj,ac1,rfl,rfl,hE⟩
         replace hF:=axW
         try dsimp only at hF
         refine bq hE ?_
         refine aY ?_
         exact⟨JS,bX _,_,_,_,yj,aA,ay,hF⟩
       refine bg ?_
       cases hF
       exact⟨_,v48,_,rfl,aA,ay⟩
     obtain⟨acB,ql,MW⟩:=dz CK
     rw[DJ]at hF
     refine bH ?_
     refine dI ?_
     refine bu ?_
     refine eX (fun f' cs'=>∃(g:Fr),f'=aQ g [(0,ae.v),(2,bL.v),(3,ic.v),(4,v19.v),(6,(pz k1)),(11,(zi (k23:Int))),(12,(.bool (c34||((x40.Atom:Int)==(k23:Int))))),(13,(zi (nI:Int)))]/\aN cs' [bV ae ai,iF bL dW,ah ic il,iF v19 c18,aX k1 120 (zg [ax.v,aV.v]),ah ax aK.Head,eQ aV aK.Atoms]) ?_ ?_
     · refine aT ?_
       rcases bE c34 with xC|xC
       · rw[xC]
         try rw[xC]at hF; dsimp only[aJ,aI]at hF
         refine ky ?_
         exact⟨_,aA,ay⟩
       rw[xC]
       try rw[xC]at hF; dsimp only[aJ,aI]at hF
       refine aY ?_
       refine Ai ql (fun axL axM=>?_)
       refine bu ?_
       refine Al Iz ?_
       refine bH ?_
       exact⟨_,aA,ay⟩
     rintro _ _ ⟨aDO,rfl,hE⟩
     refine bq hE ?_
     refine aY ?_
     rw[wk nI]
     exact⟨_,bX _,_,nI+1,o5,_,rfl,aA,MW,ay,hF⟩
   rintro _ _ ⟨R_,v109,aDP,rfl,rfl,hE⟩
   replace hF:=acl
   try dsimp only at hF
   refine bq hE ?_
   refine aY ?_
   rw[wk k23]
   exact⟨_,bX _,_,k23+1,oZ,_,v109,rfl,aA,hd29,ay,hF⟩
theorem amT{fuel:Nat}{ai:List Method}{ae:Sv}{aK:Query}{ax aV:Sv}{dW:List Step}{bL:Sv}{il:List Int}{ic:Sv}{qc:List Step}{kG:Sv}{R:(List Step)}(hF:Zz fuel ai aK dW il qc=some R):
   Fw.Spec Tryz.prog 165 [ae.v,(zg [ax.v,aV.v]),bL.v,ic.v,kG.v] [bV ae ai,ah ax aK.Head,eQ aV aK.Atoms,iF bL dW,ah ic il,iF kG qc] (fun p:Sv=>p.v) (fun p=>[iF p R]):=aez fuel fuel ai ae aK ax aV dW bL il ic qc kG R hF
def FW(ai:List Method)(fuel:Nat):List Query->Nat->(List Int)->(List Atom)->(List Step)->Int->Bool->Option (Q6×Bool)
 |[],yC,c175,tH,Ff,c183,yD=>some ((⟨(⟨c175,tH⟩:Query),Ff,c183⟩:Q6),yD)
 |Sb::Bg,yC,c175,tH,Ff,c183,yD=>((O3 ai).bind fun zL=>
     (Zz fuel zL Sb ([]:List Step) ([]:List Int) ([]:List Step)).bind fun Jt=>
     (KY ai Jt).bind fun Fg=>
     if ((decide ((0:Int)<(Jt.length:Int)))&&((!yD)||(decide ((Fg:Int)<c183))))then (
       (LG Sb).bind fun ac2=>
       some (ac2.Head,ac2.Atoms,Jt,Fg,true))
     else (
       some (c175,tH,Ff,c183,yD))).bind fun Jk=>
   match Jk with
   |(Sc,c227,yw,c232,c233)=>FW ai fuel Bg (yC+1) Sc c227 yw c232 c233
def NV(fuel:Nat)(ag:List Int)(ai:List Method)(aK:Query):Option (Q6×Bool):=
 (LD ag ai aK).bind fun r4=>
 if (!r4)then (
   some ((⟨(⟨[],[]⟩:Query),[],0⟩:Q6),false))
 else (
   (NN fuel ag aK).bind fun r7=>
   FW ai fuel r7 0 ([]:List Int) ([]:List Atom) ([]:List Step) 0 false)
theorem als{fuel:Nat}{ag:List Int}{ae:Sv}{ai:List Method}{ax:Sv}{aK:Query}{bL dH:Sv}{R:Q6×Bool}(hF:NV fuel ag ai aK=some R):
   Fw.Spec Tryz.prog 138 [ae.v,ax.v,(zg [bL.v,dH.v])] [ah ae ag,bV ax ai,ah bL aK.Head,eQ dH aK.Atoms] (fun p:Sv×List Nat×Sv×List Nat×Sv=>(.tuple [(zg [p.1.v,p.2.2.1.v,p.2.2.2.2.v,(zi R.1.Cost)]),(.bool R.2)].toArray)) (fun p=>[bI p.2.1 p.1 R.1.Query.Head,qd p.2.2.2.1 p.2.2.1 R.1.Query.Atoms,iF p.2.2.2.2 R.1.Steps]):=by
 refine Se 66 Tryz.func138 [.cell 6 149,.tmp 7] ?_
 intro H0 F0
 unfold NV at hF
 refine au ?_
 refine bN (fun k1=>?_)
 refine dX (fun k2=>?_)
 refine bu ?_
 refine aP (iB V4.h rfl (vs:=[]) .nil (cells:=[(.slice none 0 0),(.slice none 0 0),(.slice none 0 0),(zi 0)]) rfl) ?_
 refine dX (fun k3=>?_)
 refine As (zg [(.slice none 0 0),(.slice none 0 0),(.slice none 0 0),(zi 0)]) ?_
 refine gB ?_
 refine bnd hF fun r4 hx5 hF=>bD (afU hx5) (fun _=>?_)
 refine aT ?_
 refine Ci hF (fun auA hF=>?_) (fun auA hF=>?_)
 · refine aT ?_
   refine As (zg [(.slice none 0 0),(.slice none 0 0),(.slice none 0 0),(zi 0)]) ?_
   refine bu ?_
   cases hF
   exact gQ (⟨none,0,0⟩,[],⟨none,0,0⟩,[],⟨none,0,0⟩) (.cellA rfl rfl .h rfl aib.h V4.h.sz rfl rfl (.tmp rfl rfl .nil)) rfl (.conv .nil (gT (Ro:=(aC az)) (E:=3)) (.cons .nil) (.conv .nil (gT (Ro:=nA) (E:=159)) (.cons .nil) (.conv .nil (PM (R:=qH) (E:=186)) (.cons .nil) (.sel (.cons .q2 (.cons (.t .h) (.rd .h rfl .nil)))))))
 refine bg ?_
 refine bnd hF fun r7 tN hF=>gy (alf tN) (fun p9=>?_)
 refine bB ?_
 refine bi (iD .h aG ?_)
 refine bT (m:=r7.length) (fun akd f' cs'=>∃(g:Fr)(yC:Nat)(Bg:List Query)(c175:List Int)(tH:List Atom)(Ff:List Step)(c183:Int)(yD:Bool)(Fp:Sv)(Sd:List Nat)(Fq:Sv)(Sg:List Nat)(v182:Sv),akd=Bg.length/\f'=aQ g [(1,ax.v),(6,(pz k2)),(8,(pz k3)),(9,(.bool yD)),(10,p9.1.v),(11,(zi (yC:Int)))]/\List.drop yC r7=Bg/\aN cs' [bV ax ai,aW k2 149 (zg [(.slice none 0 0),(.slice none 0 0),(.slice none 0 0),(zi 0)]),aW k3 149 (zg [Fp.v,Fq.v,v182.v,(zi c183)]),bI Sd Fp c175,qd Sg Fq tH,iF v182 Ff,aaF p9.1 r7]/\FW ai fuel Bg yC c175 tH Ff c183 yD=some R) ⟨_,0,_,_,_,_,_,_,⟨none,0,0⟩,[],⟨none,0,0⟩,[],⟨none,0,0⟩,rfl,aA,rfl,(.conv .nil (gT (Ro:=(aC az)) (E:=3)) (.cons .nil) (.conv .nil (gT (Ro:=nA) (E:=159)) (.cons .nil) (.conv .nil (PM (R:=qH) (E:=186)) (.cons .nil) ay))),hF⟩ ?_
 rintro akd _ _ ⟨aDQ,yC,Bg,c175,tH,Ff,c183,yD,Fp,Sd,Fq,Sg,v182,rfl,rfl,aiv,hE,hF⟩
 refine Kb hE r7 (fun azw=>?_)
 rcases Bg with _|⟨Sb,Bg⟩
 · have auB:=dn aiv
   rw[FW]at hF
   refine bH ?_
   refine dJ ?_
   refine bH ?_
   refine As (zg [Fp.v,Fq.v,v182.v,(zi c183)]) ?_
   refine bu ?_
   cases hF
   exact gQ (Fp,Sd,Fq,Sg,v182) (.cellA rfl rfl .h rfl aib.h V4.h.sz rfl rfl (.tmp rfl rfl .nil)) rfl (.sel (.cons .q3 (.cons .q3 (.rd .q3 rfl .nil))))
 obtain⟨auB,aiw,auC⟩:=dz aiv
 rw[FW]at hF
 refine bH ?_
 refine dI ?_
 refine au ?_
 obtain⟨Jk,aan,aaR⟩:=bind_some hF
 refine iC (fun f' cs'=>∃(Sc:List Int)(c227:List Atom)(yw:List Step)(c232:Int)(c233:Bool)(XL:Sv)(ac3:List Nat)(v228:Sv)(ac4:List Nat)(CG:Sv)(g:Fr),Jk=(Sc,c227,yw,c232,c233)/\f'=aQ g [(1,ax.v),(6,(pz k2)),(8,(pz k3)),(9,(.bool c233)),(10,p9.1.v),(11,(zi (yC:Int)))]/\aN cs' [bV ax ai,aW k2 149 (zg [(.slice none 0 0),(.slice none 0 0),(.slice none 0 0),(zi 0)]),aW k3 149 (zg [XL.v,v228.v,CG.v,(zi c232)]),bI ac3 XL Sc,qd ac4 v228 c227,iF CG yw,aaF p9.1 r7]) ?_ ?_
 · replace hF:=aan
   refine bi (dS [0,2,3,4,5,6,7,8,1,9,10] [0,1,0,0,12,28,0,0,0,511,1023] [1,9] mixed (by decide+kernel) ?_)
   refine dm ?_
   refine Di aiw (fun axG aDR=>?_)
   refine zJ (Zi Sb) afP (fun axB=>?_)
   refine iq rfl .no rfl (fun ha=>bO (g:=true) (len:=0) (parts:=[]) ED.h BU.h .nil (vs:=[]) rfl rfl rfl (by simp)) (fun tK=>?_)
   refine iR (.cons .h .nil) (bQ (Ro:=(aC qH)) (E:=186) (F:=[]) (xs:=([]:List Step)) bP rfl rfl) ?_
   refine iR .nil (aaj (R:=qH) (E:=186) (k:=tK) (i:=0) (m:=1)) ?_
   refine iq rfl .no rfl (fun ha=>bO (g:=true) (len:=0) (parts:=[]) dh.h dx.h .nil (vs:=[]) rfl rfl rfl (by simp)) (fun ake=>?_)
   refine iR (.cons .h .nil) (bQ (Ro:=(aC az)) (E:=3) (F:=[]) (xs:=([]:List Int)) bP rfl rfl) ?_
   refine iR .nil (aaj (R:=az) (E:=3) (k:=ake) (i:=0) (m:=1)) ?_
   refine iq rfl .no rfl (fun ha=>bO (g:=true) (len:=0) (parts:=[]) ED.h BU.h .nil (vs:=[]) rfl rfl rfl (by simp)) (fun wM=>?_)
   refine iR (.cons .h .nil) (bQ (Ro:=(aC qH)) (E:=186) (F:=[]) (xs:=([]:List Step)) bP rfl rfl) ?_
   refine iR .nil (aaj (R:=qH) (E:=186) (k:=wM) (i:=0) (m:=1)) ?_
   refine bnd hF fun zL aaS hF=>cO rfl rfl .no (.rd .q9 rfl .nil) (.own (.t .h) (by simp[aU]) (.own .q3 (by simp[aU]) (.own .q5 (by simp[aU]) .nil))) (fun ha=>Ex (post':=fun Xt:Sv×List Nat=>[bV Xt.1 zL]) (fun Xt=>(.frz .h aG ay)) (bU asI.h (.cons (EN ha (.tmp rfl rfl) rfl) .nil) (@amS ai ax _ aaS))) (fun Xt=>?_)
   refine bnd hF fun Jt aaI hF=>qw (@amT _ _ _ _ _ _ _ (⟨(some ⟨tK,0,none⟩),0,1⟩) _ (⟨(some ⟨ake,0,none⟩),0,1⟩) _ (⟨(some ⟨wM,0,none⟩),0,1⟩) _ aaI) (fun M4=>?_)
   refine bR ?_
   refine bu ?_
   refine bnd hF fun Fg auD hF=>bD (YX auD) (fun _=>?_)
   refine bu ?_
   refine eX (fun f' cs'=>∃(g:Fr),f'=aQ g [(1,ax.v),(6,(pz k2)),(8,(pz k3)),(9,(.bool yD)),(10,p9.1.v),(11,(zi (yC:Int))),(12,M4.v),(13,(zi Fg)),(55,(.bool ((decide ((0:Int)<(Jt.length:Int)))&&((!yD)||(decide ((Fg:Int)<c183))))))]/\aN cs' [bV ax ai,aW k2 149 (zg [(.slice none 0 0),(.slice none 0 0),(.slice none 0 0),(zi 0)]),aW k3 149 (zg [Fp.v,Fq.v,v182.v,(zi c183)]),bI Sd Fp c175,qd Sg Fq tH,iF v182 Ff,aaF p9.1 r7,iF M4 Jt]) ?_ ?_
   · refine bg ?_
     rcases bE (decide ((0:Int)<(Jt.length:Int)))with Qp|Qp
     · rw[Qp]
       try rw[Qp]at hF; dsimp only[aJ,aI]at hF
       refine bB ?_
       rcases bE (!yD)with Qq|Qq
       · rw[Qq]
         try rw[Qq]at hF; dsimp only[aJ,aI]at hF
         refine dL ?_
         exact⟨_,aA,ay⟩
       rw[Qq]
       try rw[Qq]at hF; dsimp only[aJ,aI]at hF
       refine EE ?_
       exact⟨_,aA,ay⟩
     rw[Qp]
     try rw[Qp]at hF; dsimp only[aJ,aI]at hF
     refine ky ?_
     exact⟨_,aA,ay⟩
   rintro _ _ ⟨aDS,rfl,hE⟩
   refine bq hE ?_
   refine Ci hF (fun auE hF=>?_) (fun auE hF=>?_)
   · refine bu ?_
     refine Ai aiw (fun aDT aDU=>?_)
     refine xO (Zi Sb) afP (fun aDV=>?_)
     refine bnd hF fun ac2 auF hF=>zV (afW auF) (fun zP=>?_)
     refine aT ?_
     refine aP (iB V4.h rfl (vs:=[(zg [zP.1.v,zP.2.2.1.v]),M4.v,(zi Fg)]) b_ (cells:=[zP.1.v,zP.2.2.1.v,M4.v,(zi Fg)]) rfl) ?_
     refine As (zg [zP.1.v,zP.2.2.1.v,M4.v,(zi Fg)]) ?_
     refine bg ?_
     cases hF
     exact⟨_,_,_,_,_,zP.1,zP.2.1,zP.2.2.1,zP.2.2.2,M4,_,rfl,aA,ay⟩
   refine au ?_
   cases hF
   exact⟨_,_,_,_,_,Fp,Sd,Fq,Sg,v182,_,rfl,aA,ay⟩
 rintro _ _ ⟨Sc,c227,yw,c232,c233,XL,ac3,v228,ac4,CG,aDW,rfl,rfl,hE⟩
 replace hF:=aaR
 try dsimp only at hF
 refine bq hE ?_
 refine aY ?_
 rw[wk yC]
 exact⟨_,bX _,_,yC+1,Bg,_,_,_,_,_,XL,ac3,v228,ac4,CG,rfl,aA,auC,ay,hF⟩
def G9(ai:List Method)(aK:Query):List Step->Nat->(List Int)->(List Int)->Option (Bool)
 |[],k20,c11,c14=>some true
 |jX::lm,k20,c11,c14=>((iO jX.Atom 0 (IntKind.i64.wrap ((aK.Atoms.length:Int)-1))).bind fun qx=>
     bif (!qx)then (some true)
     else ((Bb c14 jX.Atom).bind fun vY=>
       bif vY then (some true)
       else ((iO jX.Method 0 (IntKind.i64.wrap ((ai.length:Int)-1))).bind fun rZ=>
         bif (!rZ)then (some true)
         else ((ix ai jX.Method).bind fun x51=>
           (ix aK.Atoms jX.Atom).bind fun zW=>
           (Lm x51 zW c11).bind fun r67=>
           some (!r67))))).bind fun wY=>
   match wY with
   |c70=>if c70 then (
       some false)
     else (
       (app c14 ([jX.Atom]:List Int)).bind fun z74=>
       (ix aK.Atoms jX.Atom).bind fun x79=>
       (LK c11 x79).bind fun r86=>
       G9 ai aK lm (k20+1) r86 z74)
def Po(ag:List Int)(ai:List Method)(aK:Query)(dW:List Step):Option (Bool):=
 ((LD ag ai aK).bind fun r4=>
   bif (!r4)then (some true)
   else (some (((dW.length:Int):Int)!=(aK.Atoms.length:Int)))).bind fun o2=>
 match o2 with
 |c8=>if c8 then (
     some false)
   else (
     G9 ai aK dW 0 ([]:List Int) ([]:List Int))
theorem anw{ag:List Int}{ae:Sv}{ai:List Method}{ax:Sv}{aK:Query}{bL dH:Sv}{dW:List Step}{ic:Sv}{R:Bool}(hF:Po ag ai aK dW=some R):
   Fw.Spec Tryz.prog 169 [ae.v,ax.v,(zg [bL.v,dH.v]),ic.v] [ah ae ag,bV ax ai,ah bL aK.Head,eQ dH aK.Atoms,iF ic dW] (fun _:Unit=>(.bool R)) (fun _=>[]):=by
 refine Se 106 Tryz.func169 [.tmp 8] ?_
 intro H0 F0
 unfold Po at hF
 refine au ?_
 refine bN (fun k1=>?_)
 refine bu ?_
 obtain⟨o2,fU,hO3⟩:=bind_some hF
 refine au ?_
 refine eX (fun f' cs'=>∃(c8:Bool)(g:Fr),c8=o2/\f'=aQ g [(1,ax.v),(3,ic.v),(6,(pz k1)),(24,(.bool c8))]/\aN cs' [bV ax ai,iF ic dW,aX k1 120 (zg [bL.v,dH.v]),ah bL aK.Head,eQ dH aK.Atoms]) ?_ ?_
 · replace hF:=fU
   refine bu ?_
   refine bnd hF fun r4 hx5 hF=>bD (afU hx5) (fun _=>?_)
   refine aT ?_
   rcases bE (!r4)with bn|bn
   · rw[bn]
     try rw[bn]at hF; dsimp only[aJ,aI]at hF
     exact bJ hF
   rw[bn]
   try rw[bn]at hF; dsimp only[aJ,aI]at hF
   exact bJ hF
 rintro _ _ ⟨c8,g93,rfl,rfl,hE⟩
 replace hF:=hO3
 try dsimp only at hF
 refine bq hE ?_
 refine Ci hF (fun ax0 hF=>?_) (fun ax0 hF=>?_)
 · exact ze hF
 refine aT ?_
 refine dF rfl (bO (g:=true) dh.h dx.h .nil (vs:=[]) rfl rfl rfl (by simp)) (fun k9=>?_)
 refine dP (.cons .h .nil) (bQ (Ro:=(aC az)) (E:=3) (F:=[]) (xs:=([]:List Int)) bP rfl rfl) ?_
 refine bu ?_
 refine dF rfl (bO (g:=true) dh.h dx.h .nil (vs:=[]) rfl rfl rfl (by simp)) (fun k10=>?_)
 refine dP (.cons .h .nil) (bQ (Ro:=(aC az)) (E:=3) (F:=[]) (xs:=([]:List Int)) bP rfl rfl) ?_
 refine bB ?_
 refine bi (bT (m:=dW.length) (fun m18 f' cs'=>∃(g:Fr)(k20:Nat)(lm:List Step)(c11 c14:List Int)(v12:Sv)(F13:List Nat)(v15:Sv)(y7:List Nat),m18=lm.length/\f'=aQ g [(1,ax.v),(3,ic.v),(6,(pz k1)),(9,v12.v),(10,v15.v),(11,(zi (k20:Int)))]/\List.drop k20 dW=lm/\aN cs' [bV ax ai,iF ic dW,aX k1 120 (zg [bL.v,dH.v]),ah bL aK.Head,eQ dH aK.Atoms,bI F13 v12 c11,bI y7 v15 c14]/\G9 ai aK lm k20 c11 c14=some R) ⟨_,0,_,_,_,⟨(some ⟨k9,0,none⟩),0,1⟩,(k9::[]),⟨(some ⟨k10,0,none⟩),0,1⟩,(k10::[]),rfl,aA,rfl,ay,hF⟩ ?_)
 rintro m18 _ _ ⟨g19,k20,lm,c11,c14,v12,F13,v15,y7,rfl,rfl,EY,hE,hF⟩
 refine Kb hE dW (fun aio=>?_)
 rcases lm with _|⟨jX,lm⟩
 · have Jg:=dn EY
   rw[G9]at hF
   refine bH ?_
   refine dJ ?_
   exact ze hF
 obtain⟨Jg,hx25,x9⟩:=dz EY
 rw[G9]at hF
 refine bH ?_
 refine dI ?_
 refine bu ?_
 obtain⟨wY,Qk,RP⟩:=bind_some hF
 refine dS [0,1,2,3,4,5,6,7,8,9,10,11,12,13,14,15,16,17,18,19,20,21,22,23,24,25,26,27,28,29,30,31,32,33,34,35,36,37,38,39,40,41,42,43,44,45,46,47,48,49,50,51,52,53] [0,0,3,7,15,0,32,96,224,511,1023,2047,4095,4095,4095,28671,61439,126975,262143,524287,1048575,2097151,2097151,8388607,16777215,33554431,2097151,69206015,203423743,536870911,1073741823,2147483647,4294967295,8589934591,8589934591,8589934591,60129542143,128849018879,266287972351,549755813887,1099511627775,8589934591,2207613190143,8589934591,8589934591,26396869001215,61581241090047,131949985267711,279284543389695,560759520100351,8589934591,2251799813685247,4503599627370495,9007199254740991] [9,18,29,51] mixed (by decide+kernel) ?_
 refine kS (fun f' cs'=>∃(c70:Bool)(g:Fr),c70=wY/\f'=aQ g [(1,ax.v),(3,ic.v),(6,(pz k1)),(9,v12.v),(10,v15.v),(11,(zi (k20:Int))),(86,(.bool c70))]/\aN cs' [bV ax ai,iF ic dW,aX k1 120 (zg [bL.v,dH.v]),ah bL aK.Head,eQ dH aK.Atoms,bI F13 v12 c11,bI y7 v15 c14]) ?_ ?_
 · replace hF:=Qk
   refine bR ?_
   refine Di hx25 (fun FJ Yi=>?_)
   refine du ?_
   refine Dl Iz ?_
   refine nQ ?_
   refine bnd hF fun qx hx34 hF=>eZ (jR hx34) (fun _=>?_)
   refine bR ?_
   rcases bE (!qx)with qQ|qQ
   · rw[qQ]
     try rw[qQ]at hF; dsimp only[aJ,aI]at hF
     exact eu hF
   rw[qQ]
   try rw[qQ]at hF; dsimp only[aJ,aI]at hF
   refine dm ?_
   refine Di hx25 (fun Tt Tu=>?_)
   refine du ?_
   refine Dl Iz ?_
   refine bnd hF fun vY tq hF=>cO rfl rfl (.on 44 rfl rfl rfl) (.cons .q8 .nil) .nil (fun ha=>jT aG (fun _=>.nil) (bU V3.h (.cons (EN ha (.tmp rfl rfl) rfl) (.cons (EN ha (.tmp rfl rfl) rfl) .nil)) (O0 tq))) (fun _=>?_)
   refine bR ?_
   rcases bE vY with qV|qV
   · rw[qV]
     try rw[qV]at hF; dsimp only[aJ,aI]at hF
     exact eu hF
   rw[qV]
   try rw[qV]at hF; dsimp only[aJ,aI]at hF
   refine bR ?_
   refine Di hx25 (fun Yu j44=>?_)
   refine du ?_
   refine Dl A7 ?_
   refine dm ?_
   refine bnd hF fun rZ ES hF=>eZ (jR ES) (fun _=>?_)
   refine dm ?_
   rcases bE (!rZ)with Si|Si
   · rw[Si]
     try rw[Si]at hF; dsimp only[aJ,aI]at hF
     exact eu hF
   rw[Si]
   try rw[Si]at hF; dsimp only[aJ,aI]at hF
   refine dm ?_
   refine Di hx25 (fun Tj Yr=>?_)
   refine du ?_
   refine Dl A7 ?_
   refine zI hF fun x51 aDX tu hF=>?_
   refine Di tu (fun k55 j56=>?_)
   refine jP (uf x51) uH (fun p57=>?_)
   refine nQ ?_
   refine Di hx25 (fun k58 j59=>?_)
   refine du ?_
   refine Dl Iz ?_
   refine zI hF fun zW ajq Cr hF=>?_
   refine Di Cr (fun k64 j65=>?_)
   refine jP (D9 zW) Hl (fun p66=>?_)
   refine du ?_
   refine bnd hF fun r67 ax1 hF=>cO rfl rfl (.on 65 rfl rfl rfl) (.cons (.t (.t (.t (.t (.t (.t (.t (.t (.t (.t (.t (.t (.t (.t (.t .h))))))))))))))) (.rd .q3 rfl (.rd .h rfl .nil))) .nil (fun ha=>jT aG (fun _=>.nil) (iV (.rd (.t .h) rfl (.rd .q2 rfl (.rd .h rfl .nil))) (bU asK.h (.cons (EN ha (.tmp rfl rfl) rfl) (.cons (EN ha (.tmp rfl rfl) rfl) (.cons (EN ha (.tmp rfl rfl) rfl) .nil))) (aft ax1)))) (fun _=>?_)
   exact eu hF
 rintro _ _ ⟨c70,g91,rfl,rfl,hE⟩
 replace hF:=RP
 try dsimp only at hF
 refine bq hE ?_
 refine Ci hF (fun ax2 hF=>?_) (fun ax2 hF=>?_)
 · exact ze hF
 refine aY ?_
 refine Ai hx25 (fun vP j72=>?_)
 refine au ?_
 refine Al Iz ?_
 refine dF rfl (bO (g:=true) dh.h dx.h b_ (vs:=[(zi jX.Atom)]) rfl rfl rfl (by intro v hv; simp at hv; rcases hv with rfl<;>rfl)) (fun k73=>?_)
 refine dP (.cons .h .nil) (bQ (Ro:=(aC az)) (E:=3) (F:=([]++[])) (xs:=([jX.Atom]:List Int)) (d_ (jh (fun _=>rfl)) bP cK) rfl rfl) ?_
 refine bnd hF fun z74 ac5 hF=>ed (.cons .q8 (.cons .h .nil)) (dV (Ro:=(aC az)) dh.h iQ dx.h rfl rfl rfl (.tmp rfl rfl) (.tmp rfl rfl) ac5 fw) (fun fB=>?_)
 refine aT ?_
 refine jf [0,1,2,3,4,5,6,7,8,9,10,11] [0,0,2,0,0,24,56,120,254,510,1023,2047] [10] mixed (by decide+kernel) ?_
 refine sV ?_
 refine Di hx25 (fun k77 j78=>?_)
 refine du ?_
 refine Dl Iz ?_
 refine zI hF fun x79 aDY ax3 hF=>?_
 refine Di ax3 (fun k83 j84=>?_)
 refine jP (D9 x79) Hl (fun p85=>?_)
 refine bnd hF fun r86 ac6 hF=>oV rfl rfl .no (.cons .q10 (.rd .h rfl .nil)) .nil (fun ha=>jT aG (fun _=>(.cons .nil)) (bU aif.h (.cons (EN ha (.tmp rfl rfl) rfl) (.cons (EN ha (.tmp rfl rfl) rfl) .nil)) (afZ ac6))) (fun p88=>?_)
 refine bR ?_
 refine aY ?_
 rw[wk k20]
 exact⟨_,bX _,_,k20+1,lm,_,_,p88.1,p88.2,fB.1,fB.2,rfl,aA,x9,ay,hF⟩
def G_(ai:List Method):List Step->Nat->Option (Bool)
 |[],k4=>some true
 |x6::aM,k4=>((iO x6.Method 0 (IntKind.i64.wrap ((ai.length:Int)-1))).bind fun oP=>
     bif (!oP)then (some true)
     else ((ix ai x6.Method).bind fun Tw=>
       some ((Tw.Limit:Int)!=0))).bind fun ma=>
   match ma with
   |lH=>if lH then (
       some false)
     else (
       G_ ai aM (k4+1))
def Vb(ai:List Method)(dW:List Step):Option (Bool):=
 G_ ai dW 0
theorem anx{ai:List Method}{ae:Sv}{dW:List Step}{ax:Sv}{R:Bool}(hF:Vb ai dW=some R):
   Fw.Spec Tryz.prog 170 [ae.v,ax.v] [bV ae ai,iF ax dW] (fun _:Unit=>(.bool R)) (fun _=>[]):=by
 refine Se 34 Tryz.func170 [.tmp 4] ?_
 intro H0 F0
 unfold Vb at hF
 refine bH ?_
 refine bi (bT (m:=dW.length) (fun m2 f' cs'=>∃(g:Fr)(k4:Nat)(aM:List Step),m2=aM.length/\f'=aQ g [(0,ae.v),(1,ax.v),(5,(zi (k4:Int)))]/\List.drop k4 dW=aM/\aN cs' [bV ae ai,iF ax dW]/\G_ ai aM k4=some R) ⟨_,0,_,rfl,aA,rfl,ay,hF⟩ ?_)
 rintro m2 _ _ ⟨g3,k4,aM,rfl,rfl,hd7,hE,hF⟩
 refine Kb hE dW (fun kT=>?_)
 rcases aM with _|⟨x6,aM⟩
 · have gF:=dn hd7
   rw[G_]at hF
   refine bH ?_
   refine dJ ?_
   exact ze hF
 obtain⟨gF,bY,gD⟩:=dz hd7
 rw[G_]at hF
 refine bH ?_
 refine dI ?_
 refine aT ?_
 obtain⟨ma,uQ,vo⟩:=bind_some hF
 refine au ?_
 refine eX (fun f' cs'=>∃(lH:Bool)(g:Fr),lH=ma/\f'=aQ g [(0,ae.v),(1,ax.v),(5,(zi (k4:Int))),(33,(.bool lH))]/\aN cs' [bV ae ai,iF ax dW]) ?_ ?_
 · replace hF:=uQ
   refine aT ?_
   refine Ai bY (fun k15 Ym=>?_)
   refine au ?_
   refine Al A7 ?_
   refine bu ?_
   refine bnd hF fun oP mJ hF=>bD (jR mJ) (fun _=>?_)
   refine aT ?_
   rcases bE (!oP)with qU|qU
   · rw[qU]
     try rw[qU]at hF; dsimp only[aJ,aI]at hF
     exact bJ hF
   rw[qU]
   try rw[qU]at hF; dsimp only[aJ,aI]at hF
   refine bH ?_
   refine Ai bY (fun k21 Nn=>?_)
   refine bu ?_
   refine Al A7 ?_
   refine au ?_
   refine zI hF fun Tw aw6 nE hF=>?_
   refine Ai nE (fun k27 j28=>?_)
   refine bu ?_
   refine Al PU ?_
   exact bJ hF
 rintro _ _ ⟨lH,g32,rfl,rfl,hE⟩
 replace hF:=vo
 try dsimp only at hF
 refine bq hE ?_
 refine Ci hF (fun Rm hF=>?_) (fun Rm hF=>?_)
 · exact ze hF
 refine bB ?_
 rw[wk k4]
 exact⟨_,bX _,_,k4+1,aM,rfl,aA,gD,ay,hF⟩
end Go.Proofs.YtfcjmpkenaiomaaGreat
