/-
  Functions of the program as Lean functions, and that the calls return what these say. No conditions.
-/
import Derived.Test.YtlnefhbbbikmgabGreatAskQueryGI2
set_option maxRecDepth 100000
set_option maxHeartbeats 4000000
set_option linter.unusedVariables false
namespace Go.Proofs.YtlnefhbbbikmgabGreat
open Go Go.Fw
def Ii(qi:List Int):Nat->Int->Option (Int)
 |0,_=>none
 |KH+1,GN=>(GU qi GN).bind fun r98=>
   if r98 then (
     Ii qi KH (IntKind.i64.wrap (GN+1)))
   else (
     some GN)
def Ij(lF:List Int)(lh:List Int):List aJ->Nat->(List aj)->Option ((List aj)×aN×Bool)
 |[],DV,J6=>some (J6,(⟨lF,lh⟩:aN),true)
 |abP::Ch,DV,J6=>(Ns abP (⟨lF,lh⟩:aN)).bind fun aq0=>
   (I9 J6 aq0).bind fun aq1=>
   Ij lF lh Ch (DV+1) aq1
def Ik(aK:Query)(qi:List Int)(r4:(List Int))(fuel:Nat):Nat->(List Int)->(List Int)->Int->Int->Option ((List aj)×aN×Bool)
 |0,_,_,_,_=>none
 |KI+1,lF,lh,ll,Bc=>if (decide ((Bc:Int)<(r4.length:Int)))then (
     (((ix r4 Bc).bind fun x83=>
       (Ii qi fuel ll).bind fun o87=>
       match o87 with
       |DW=>(IG DW).bind fun aq2=>
         if (!aq2)then (
           some (.inl ([],(⟨[],[]⟩:aN),false)))
         else (
           (app lF ([x83]:List Int)).bind fun aq3=>
           (app lh ([DW]:List Int)).bind fun aq4=>
           some (.inr (aq3,aq4,(IntKind.i64.wrap (DW+1)))))):Option (Sum ((List aj)×aN×Bool) ((List Int)×(List Int)×Int))).bind fun o78=>
     match o78 with
     | .inl r=>some r
     | .inr (c116,c119,xN)=>Ik aK qi r4 fuel KI c116 c119 xN (IntKind.i64.wrap (Bc+1)))
   else (
     Ij lF lh aK.aL 0 ([]:List aj))
def IV(fuel:Nat)(aK:Query)(qi:List Int):Option ((List aj)×aN×Bool):=
 (Nr aK).bind fun r4=>
 Ik aK qi r4 fuel (((r4.length:Int)-0).toNat+2) ([]:List Int) ([]:List Int) 0 0
theorem auN{fuel:Nat}{aK:Query}{aA bB:Sv}{qi:List Int}{bf:Sv}{R:(List aj)×aN×Bool}(hF:IV fuel aK qi=some R):
   Fw.Spec Tryz.prog 279 [(zg [aA.v,bB.v]),bf.v] [bi aA aK.a_,eF bB aK.aL,bi bf qi] (fun p:Sv×List Nat×Sv×List Nat×Sv×List Nat=>(.tuple [p.1.v,(zg [p.2.2.1.v,p.2.2.2.2.1.v]),(.bool R.2.2)].toArray)) (fun p=>[ik p.2.1 p.1 R.1,dW p.2.2.2.1 p.2.2.1 R.2.1.Vars,dW p.2.2.2.2.2 p.2.2.2.2.1 R.2.1.Values]):=by
 refine Se 62 Tryz.func279 [.tmp 4,.cell 5 152,.tmp 6] ?_
 intro H0 F0
 unfold IV at hF
 refine au ?_
 refine j6 (fun k1=>?_)
 refine au ?_
 refine gI (fun k2=>?_)
 refine fw ?_
 refine aP (iy gB.h rfl (vs:=[]) .nil (cells:=[(.slice none 0 0),(.slice none 0 0)]) rfl) ?_
 refine gI (fun k3=>?_)
 refine As (.agg ([(.slice none 0 0),(.slice none 0 0)]:List Value).toArray) ?_
 refine iq ?_
 refine bnd hF fun r4 hx5 hF=>qM (avn.h hx5) (fun p6=>?_)
 refine fw ?_
 refine gU (kI (m:=(((r4.length:Int)-0).toNat+2)) (fun KI f' cs'=>∃(g:Fr)(lF lh:List Int)(ll Bc:Int)(v63:Sv)(OC:List Nat)(v66:Sv)(Bb:List Nat),f'=dm g [(1,bf.v),(2,(pz k1)),(5,(pz k2)),(7,(pz k3)),(8,(zi ll)),(16,p6.1.v),(17,(zi (r4.length:Int))),(18,(zi Bc))]/\bL cs' [bi bf qi,bC k1 56 (zg [aA.v,bB.v]),bi aA aK.a_,eF bB aK.aL,aW k2 152 (.agg ([(.slice none 0 0),(.slice none 0 0)]:List Value).toArray),aW k3 152 (zg [v63.v,v66.v]),dW OC v63 lF,dW Bb v66 lh,dW p6.2 p6.1 r4]/\Ik aK qi r4 fuel KI lF lh ll Bc=some R) ⟨_,_,_,_,_,⟨none,0,0⟩,[],⟨none,0,0⟩,[],df,(.conv .nil (jJ (Ro:=(az ax)) (E:=3)) (.cons .nil) (.conv .nil (jJ (Ro:=(az ax)) (E:=3)) (.cons .nil) bT)),hF⟩ ?_)
 rintro KI _ _ ⟨g71,lF,lh,ll,Bc,v63,OC,v66,Bb,rfl,hE,hF⟩
 refine gV hE ?_
 rcases KI with _|KI
 · rw[Ik]at hF
   exact absurd hF (by simp)
 rw[Ik]at hF
 refine dO ?_
 refine Ci hF (fun aD6 hF=>?_) (fun aD6 hF=>?_)
 · refine au ?_
   obtain⟨o78,aD7,aq5⟩:=bind_some hF
   refine pU (fun f' cs'=>∃(c116 c119:List Int)(xN:Int)(v117:Sv)(ahM:List Nat)(abQ:Sv)(ahN:List Nat)(g:Fr),o78= .inr (c116,c119,xN)/\f'=dm g [(1,bf.v),(2,(pz k1)),(5,(pz k2)),(7,(pz k3)),(8,(zi xN)),(16,p6.1.v),(17,(zi (r4.length:Int))),(18,(zi Bc))]/\bL cs' [bi bf qi,bC k1 56 (zg [aA.v,bB.v]),bi aA aK.a_,eF bB aK.aL,aW k2 152 (.agg ([(.slice none 0 0),(.slice none 0 0)]:List Value).toArray),aW k3 152 (zg [v117.v,abQ.v]),dW ahM v117 c116,dW ahN abQ c119,dW p6.2 p6.1 r4]) ?_ ?_
   · replace hF:=aD7
     refine gU (eB ?_)
     refine bnd hF fun x83 Gf hF=>?_
     have aHA:=lX Gf
     obtain⟨aQd,aHB⟩:=kU Gf
     refine iJ jO.h gP.h.sz (.tmp rfl rfl) (.tmp rfl rfl) .q8 aHA (fun WF aHC=>?_)
     refine TC (w:=(zi x83)) wL.h (.tmp rfl rfl) .q8 aHC aHB aas ?_
     refine eu ?_
     obtain⟨o87,aD8,aHD⟩:=bind_some hF
     refine pU (fun f' cs'=>∃(DW:Int)(g:Fr),DW=o87/\f'=dm g [(1,bf.v),(2,(pz k1)),(5,(pz k2)),(7,(pz k3)),(8,(zi DW)),(10,(zi x83)),(16,p6.1.v),(17,(zi (r4.length:Int))),(18,(zi Bc))]/\bL cs' [bi bf qi,bC k1 56 (zg [aA.v,bB.v]),bi aA aK.a_,eF bB aK.aL,aW k2 152 (.agg ([(.slice none 0 0),(.slice none 0 0)]:List Value).toArray),aW k3 152 (zg [v63.v,v66.v]),dW OC v63 lF,dW Bb v66 lh,dW p6.2 p6.1 r4]) ?_ ?_
     · replace hF:=aD8
       refine gU (kI (m:=fuel) (fun KH f' cs'=>∃(g:Fr)(GN:Int),f'=dm g [(1,bf.v),(2,(pz k1)),(5,(pz k2)),(7,(pz k3)),(8,(zi GN)),(10,(zi x83)),(16,p6.1.v),(17,(zi (r4.length:Int))),(18,(zi Bc))]/\bL cs' [bi bf qi,bC k1 56 (zg [aA.v,bB.v]),bi aA aK.a_,eF bB aK.aL,aW k2 152 (.agg ([(.slice none 0 0),(.slice none 0 0)]:List Value).toArray),aW k3 152 (zg [v63.v,v66.v]),dW OC v63 lF,dW Bb v66 lh,dW p6.2 p6.1 r4]/\Ii qi KH GN=some o87) ⟨_,_,df,bT,hF⟩ ?_)
       rintro KH _ _ ⟨g91,GN,rfl,hE,hF⟩
       refine gV hE ?_
       rcases KH with _|KH
       · rw[Ii]at hF
         exact absurd hF (by simp)
       rw[Ii]at hF
       refine dO ?_
       refine bnd hF fun r98 hx99 hF=>oO (arO.h hx99) (fun _=>?_)
       refine au ?_
       refine Ci hF (fun aD9 hF=>?_) (fun aD9 hF=>?_)
       · refine au ?_
         refine gU (IC (Cm (zi GN) rfl rfl ?_))
         refine fw ?_
         exact⟨KH,lT _,_,_,df,bT,hF⟩
       exact jP hF
     rintro _ _ ⟨DW,aQe,rfl,rfl,hE⟩
     replace hF:=aHD
     try dsimp only at hF
     refine gV hE ?_
     refine fw ?_
     refine bnd hF fun aq2 hx104 hF=>oO (auL.h hx104) (fun _=>?_)
     refine eu ?_
     refine Ci hF (fun aD_ hF=>?_) (fun aD_ hF=>?_)
     · refine au ?_
       refine aP (iy gB.h rfl (vs:=[]) .nil (cells:=[(.slice none 0 0),(.slice none 0 0)]) rfl) ?_
       refine au ?_
       refine As (.agg ([(.slice none 0 0),(.slice none 0 0)]:List Value).toArray) ?_
       refine fw ?_
       cases hF
       replace hF:=aq5
       try dsimp only at hF
       cases hF
       exact iW (⟨none,0,0⟩,[],⟨none,0,0⟩,[],⟨none,0,0⟩,[]) (.tmp rfl rfl (.lZ rfl rfl .h rfl vD.h gB.h.sz rfl rfl (.tmp rfl rfl .nil))) rfl (.conv .nil (jJ (Ro:=dV) (E:=164)) (.cons .nil) (.conv .nil (jJ (Ro:=(az ax)) (E:=3)) (.cons .nil) (.conv .nil (jJ (Ro:=(az ax)) (E:=3)) (.cons .nil) (.sel (.cons .q2 (.cons (.t .h) (.cons .h .nil)))))))
     refine au ?_
     refine iQ [0,1,2,3,5,6,7,8,4,10,9,11,12,13] [0,1,0,4,15,0,32,0,128,511,127,2047,4095,8191] [4,9,11,13] mixed (by decide+kernel) ?_
     refine du ?_
     refine dF rfl .no .q5 (fun ha hp=>gy (v:=v63.v) ry.h (EN ha (.tmp rfl rfl) rfl) hp.2 rfl rfl) ?_
     refine du ?_
     refine jw rfl .no rfl (fun ha=>gq (g:=true) (len:=1) (parts:=[(0,.tmp 33)]) jO.h gP.h (.cons (EN ha (.tmp rfl rfl) rfl) .nil) (vs:=[(zi x83)]) rfl rfl rfl (by intro v hv; simp at hv; rcases hv with rfl<;>rfl)) (fun aQf=>?_)
     refine lQ (.cons .h .nil) (gu (Ro:=(az ax)) (E:=3) (F:=([]++[])) (xs:=([x83]:List Int)) (iV (vg (fun _=>rfl)) fU dS) rfl rfl) ?_
     refine du ?_
     refine dF rfl .no .q6 (fun ha hp=>gy (v:=v66.v) ry.h (EN ha (.tmp rfl rfl) rfl) hp.2 rfl rfl) ?_
     refine du ?_
     refine jw rfl .no rfl (fun ha=>gq (g:=true) (len:=1) (parts:=[(0,.tmp 38)]) jO.h gP.h (.cons (EN ha (.tmp rfl rfl) rfl) .nil) (vs:=[(zi DW)]) rfl rfl rfl (by intro v hv; simp at hv; rcases hv with rfl<;>rfl)) (fun aQg=>?_)
     refine lQ (.cons .h .nil) (gu (Ro:=(az ax)) (E:=3) (F:=([]++[])) (xs:=([DW]:List Int)) (iV (vg (fun _=>rfl)) fU dS) rfl rfl) ?_
     refine bnd hF fun aq3 Jq hF=>dx rfl rfl .no (.cons .q8 (.cons (.t .h) .nil)) (.own .h (by simp[ah]) (.own .q6 (fun _ h=>h) (.aV rfl (.aV rfl .nil)))) (fun ha=>iU (Ro:=(az ax)) jO.h yT gP.h rfl rfl rfl (EN ha (.tmp rfl rfl) rfl) (EN ha (.tmp rfl rfl) rfl) Jq kJ) (fun abR=>?_)
     refine du ?_
     refine bnd hF fun aq4 hx112 hF=>dx rfl rfl .no (.cons .q8 (.cons (.t .h) .nil)) (.aV rfl (.aV rfl (.aV rfl (.aV rfl .nil)))) (fun ha=>iU (Ro:=(az ax)) jO.h yT gP.h rfl rfl rfl (EN ha (.tmp rfl rfl) rfl) (EN ha (.tmp rfl rfl) rfl) hx112 kJ) (fun ahO=>?_)
     refine dx rfl rfl .no (.cons .q7 .nil) (.aV rfl (.aV rfl (.aV rfl (.aV rfl .nil)))) (fun ha=>iO (e':=(zg [abR.1.v,v66.v])) lw.h.sz (EN ha (.tmp rfl rfl) rfl) (EN ha (.tmp rfl rfl) rfl) rfl rfl rfl rfl rfl) (fun _=>?_)
     refine du ?_
     refine dx rfl rfl .no (.cons .h .nil) (.aV rfl (.aV rfl (.aV rfl (.aV rfl .nil)))) (fun ha=>iO (e':=(zg [abR.1.v,ahO.1.v])) lw.h.sz (EN ha (.tmp rfl rfl) rfl) (EN ha (.tmp rfl rfl) rfl) rfl rfl rfl rfl rfl) (fun _=>?_)
     refine du ?_
     refine fI ?_
     cases hF
     exact⟨_,_,_,abR.1,abR.2,ahO.1,ahO.2,_,rfl,df,bT⟩
   rintro _ _ ⟨c116,c119,xN,v117,ahM,abQ,ahN,aQh,rfl,rfl,hE⟩
   replace hF:=aq5
   try dsimp only at hF
   refine gV hE ?_
   refine dO ?_
   exact⟨KI,lT _,_,_,_,_,_,v117,ahM,abQ,ahN,df,bT,hF⟩
 refine fI ?_
 refine lJ rfl (gq (g:=true) lC.h jY.h .nil (vs:=[]) rfl rfl rfl (by simp)) (fun aq6=>?_)
 refine mo (.cons .h .nil) (gu (Ro:=dV) (E:=164) (F:=[]) (xs:=([]:List aj)) fU rfl rfl) ?_
 refine JR ?_
 refine gU (kI (m:=aK.aL.length) (fun aq7 f' cs'=>∃(g:Fr)(DV:Nat)(Ch:List aJ)(J6:List aj)(abS:Sv)(ahP:List Nat),aq7=Ch.length/\f'=dm g [(5,(pz k2)),(7,(pz k3)),(11,abS.v),(48,bB.v),(49,(zi (aK.aL.length:Int))),(50,(zi (DV:Int)))]/\List.drop DV aK.aL=Ch/\bL cs' [aW k2 152 (.agg ([(.slice none 0 0),(.slice none 0 0)]:List Value).toArray),aW k3 152 (zg [v63.v,v66.v]),dW OC v63 lF,dW Bb v66 lh,ik ahP abS J6,eF bB aK.aL]/\Ij lF lh Ch DV J6=some R) ⟨_,0,_,_,⟨(some ⟨aq6,0,none⟩),0,1⟩,(aq6::[]),rfl,df,rfl,bT,hF⟩ ?_)
 rintro aq7 _ _ ⟨aQi,DV,Ch,J6,abS,ahP,rfl,rfl,apg,hE,hF⟩
 refine Kb hE aK.aL (fun aMw=>?_)
 rcases Ch with _|⟨abP,Ch⟩
 · have aD':=dn apg
   rw[Ij]at hF
   refine dO ?_
   refine mQ ?_
   refine dO ?_
   refine iQ [0,1,2,3,4] [0,0,1,7,15] [3] mixed (by decide+kernel) ?_
   refine du ?_
   refine dF rfl .no (.t .h) (fun ha hp=>lm vD.h gB.h.sz rfl (EN ha (.tmp rfl rfl) rfl) hp.2 rfl) ?_
   refine du ?_
   refine dx rfl rfl .no (.cons .h .nil) (.aV rfl .nil) (fun ha=>iO (e':=(zg [v63.v,v66.v])) (v:=(zg [v63.v,v66.v])) gB.h.sz (EN ha (.tmp rfl rfl) rfl) (EN ha (.tmp rfl rfl) rfl) rfl rfl rfl rfl rfl) (fun _=>?_)
   refine jF ?_
   refine au ?_
   cases hF
   exact iW (abS,ahP,v63,OC,v66,Bb) (.tmp rfl rfl (.lZ rfl rfl .h rfl vD.h gB.h.sz rfl rfl (.tmp rfl rfl .nil))) rfl (.sel (.cons .q4 (.cons .q2 (.cons .q2 .nil))))
 obtain⟨aD',aEa,aEb⟩:=kH apg
 rw[Ij]at hF
 refine dO ?_
 refine mP ?_
 refine fw ?_
 refine Ai aEa (fun aHE aHF=>?_)
 refine NV (Bp abP) Bq (fun aHG=>?_)
 refine gI (fun aQj=>?_)
 refine As (zg [(zi abP.aD),aHG.v]) ?_
 refine fI ?_
 refine bnd hF fun aq0 aEc hF=>apQ (.cons .q6 (.cons .q5 (.rd (.t .h) rfl .nil))) (qQ (pre:=_) (.cons aX (.cons aX .nil)) (fun _=>(.cons .nil)) (qR (.rd .q2 rfl (.rd .h rfl (.rd (.t .h) rfl .nil))) (cK aC2.h fG (avo.h aEc)))) (fun aQk=>?_)
 refine afg .q2 aX ?_
 refine bnd hF fun aq1 Uk hF=>qM (ak1.h Uk) (fun aq8=>?_)
 refine lN ?_
 rw[wk DV]
 exact⟨_,lT _,_,DV+1,Ch,_,aq8.1,aq8.2,rfl,df,aEb,bT,hF⟩
instance avp:GL 279 t29 t0 u22 IV:=⟨fun h=>auN h⟩
theorem auO{fuel:Nat}{aK:Query}{aA:Sv}{bB:Sv}{qi:List Int}{bf:Sv}{R:(List aj)×aN×Bool}(hF:IV fuel aK qi=some R):
   Fw.Spec Tryz.prog 279 [(.agg [aA.v,bB.v].toArray),bf.v] [aI (ak 3 ax) aA.v aK.a_,aI (ak 138 l7) bB.v aK.aL,aI (ak 3 ax) bf.v qi] (fun p:Sv×List Nat×Sv×List Nat×Sv×List Nat=>(.tuple [p.1.v,(.agg [p.2.2.1.v,p.2.2.2.2.1.v].toArray),(.bool R.2.2)].toArray)) (fun p=>[ah (aa 164 dV) p.2.1 p.1.v R.1,ah (aa 3 (az ax)) p.2.2.2.1 p.2.2.1.v R.2.1.Vars,ah (aa 3 (az ax)) p.2.2.2.2.2 p.2.2.2.2.1.v R.2.1.Values]):=avp.h hF
def LV(aM:aN):List Int->Nat->(List Int)->Option ((List Int))
 |[],k10,c4=>some c4
 |uR::ae9,k10,c4=>(yo aM uR).bind fun eX=>
   (app c4 ([eX]:List Int)).bind fun z25=>
   LV aM ae9 (k10+1) z25
def E_(aK:Query)(aM:aN):Option ((List Int)):=
 LV aM aK.a_ 0 ([]:List Int)
instance auP:I2 282 t29 t30 u1 E_:=⟨by
 intro _ _ _ _ _ _ _ hF
 refine' en Tryz.func282 (E_.eq_1 ..)
 refine' ed (q1 5 (tO 3 (az ax))) 12 [3,10,11]<;>rw[LV]at hF<;>refine' go⟩
theorem atU{aK:Query}{aA:Sv}{bB:Sv}{aM:aN}{bf:Sv}{bR:Sv}{R:(List Int)}(hF:E_ aK aM=some R):
   Fw.Spec Tryz.prog 282 [(.agg [aA.v,bB.v].toArray),(.agg [bf.v,bR.v].toArray)] [aI (ak 3 ax) aA.v aK.a_,aI (ak 138 l7) bB.v aK.aL,aI (ak 3 ax) bf.v aM.Vars,aI (ak 3 ax) bR.v aM.Values] (fun p:Sv×List Nat=>p.1.v) (fun p=>[ah (aa 3 (az ax)) p.2 p.1.v R]):=auP.h hF
def YC(aM:aN):Option (aN):=
 (rT aM.Vars).bind fun r3=>
 (rT aM.Values).bind fun r6=>
 some ({Vars:=r3,Values:=r6}:aN)
instance asv:I1 306 t30 u21 YC:=⟨by
 intro _ _ _ _ hF
 have hD:=True.intro
 refine' en Tryz.func306 (YC.eq_1 ..)
 refine' KD [0,1,3,4,2,5,6,7] [0,1,3,0,8,31,63,127] [2,5,7] mixed ?_
 refine' go⟩
def Ho(dC:aj):List Int->Nat->(List Int)->(List Int)->Option (aN×Bool)
 |[],rR,c80,zK=>some ((⟨c80,zK⟩:aN),true)
 |x91::CL,rR,c80,zK=>((((Fz x91).bind fun ahQ=>
       bif ahQ then ((He (⟨c80,zK⟩:aN) x91).bind fun abT=>
         some (decide ((abT:Int)<0)))
       else (some false)).bind fun ahR=>
     match ahR with
     |Vu=>if Vu then (
         (ix dC.Values (rR:Int)).bind fun x113=>
         (app c80 ([x91]:List Int)).bind fun ahS=>
         (app zK ([x113]:List Int)).bind fun ahT=>
         (ix dC.Values (rR:Int)).bind fun aq9=>
         (yo (⟨ahS,ahT⟩:aN) x91).bind fun aq_=>
         if ((aq_:Int)!=aq9)then (
           some (.inl ((⟨[],[]⟩:aN),false)))
         else (
           some (.inr (ahS,ahT))))
       else (
         (ix dC.Values (rR:Int)).bind fun ara=>
         (yo (⟨c80,zK⟩:aN) x91).bind fun arb=>
         if ((arb:Int)!=ara)then (
           some (.inl ((⟨[],[]⟩:aN),false)))
         else (
           some (.inr (c80,zK))))):Option (Sum (aN×Bool) ((List Int)×(List Int)))).bind fun o98=>
   match o98 with
   | .inl r=>some r
   | .inr (c148,Vv)=>Ho dC CL (rR+1) c148 Vv
def Mh(aM:aN)(ae:aJ)(dC:aj):Option (aN×Bool):=
 if (((ae.aD:Int)!=dC.aD)||((((ae.Terms.length:Int):Int)!=(dC.Values.length:Int))||(((aM.Vars.length:Int):Int)!=(aM.Values.length:Int))))then (
   some ((⟨[],[]⟩:aN),false))
 else (
   (YC aM).bind fun r8=>
   Ho dC ae.Terms 0 r8.Vars r8.Values)
theorem asO{aM:aN}{aA bB:Sv}{ae:aJ}{bR:Sv}{dC:aj}{gK:Sv}{R:aN×Bool}(hF:Mh aM ae dC=some R):
   Fw.Spec Tryz.prog 290 [(zg [aA.v,bB.v]),(zg [(zi ae.aD),bR.v]),(zg [(zi dC.aD),gK.v])] [bi aA aM.Vars,bi bB aM.Values,bi bR ae.Terms,bi gK dC.Values] (fun p:Sv×List Nat×Sv×List Nat=>(.tuple [(zg [p.1.v,p.2.2.1.v]),(.bool R.2)].toArray)) (fun p=>[dW p.2.1 p.1 R.1.Vars,dW p.2.2.2 p.2.2.1 R.1.Values]):=by
 refine Se 81 Tryz.func290 [.cell 6 152,.tmp 7] ?_
 intro H0 F0
 unfold Mh at hF
 refine au ?_
 refine j6 (fun k1=>?_)
 refine j6 (fun k2=>?_)
 refine j6 (fun k3=>?_)
 refine gI (fun k4=>?_)
 refine dO ?_
 refine qo (fun f' cs'=>∃(g:Fr),f'=dm g [(3,(pz k1)),(4,(pz k2)),(5,(pz k3)),(6,(pz k4)),(33,(.bool (((ae.aD:Int)!=dC.aD)||((((ae.Terms.length:Int):Int)!=(dC.Values.length:Int))||(((aM.Vars.length:Int):Int)!=(aM.Values.length:Int))))))]/\bL cs' [bC k1 152 (zg [aA.v,bB.v]),bi aA aM.Vars,bi bB aM.Values,bC k2 138 (zg [(zi ae.aD),bR.v]),bi bR ae.Terms,bC k3 164 (zg [(zi dC.aD),gK.v]),bi gK dC.Values,aW k4 152 (.agg ([(.slice none 0 0),(.slice none 0 0)]:List Value).toArray)]) ?_ ?_
 · refine lN ?_
   rcases kQ ((ae.aD:Int)!=dC.aD)with hg5|hg5
   · rw[hg5]
     try rw[hg5]at hF; dsimp only[eZ,eY]at hF
     refine aC7 ?_
     exact⟨_,df,bT⟩
   rw[hg5]
   try rw[hg5]at hF; dsimp only[eZ,eY]at hF
   refine aoI ?_
   rcases kQ (((ae.Terms.length:Int):Int)!=(dC.Values.length:Int))with WR|WR
   · rw[WR]
     try rw[WR]at hF; dsimp only[eZ,eY]at hF
     refine JR ?_
     exact⟨_,df,bT⟩
   rw[WR]
   try rw[WR]at hF; dsimp only[eZ,eY]at hF
   refine aoI ?_
   exact⟨_,df,bT⟩
 rintro _ _ ⟨g7,rfl,hE⟩
 refine gV hE ?_
 refine Ci hF (fun aEd hF=>?_) (fun aEd hF=>?_)
 · refine au ?_
   refine aP (iy gB.h rfl (vs:=[]) .nil (cells:=[(.slice none 0 0),(.slice none 0 0)]) rfl) ?_
   refine As (.agg ([(.slice none 0 0),(.slice none 0 0)]:List Value).toArray) ?_
   refine fw ?_
   cases hF
   exact iW (⟨none,0,0⟩,[],⟨none,0,0⟩,[]) (.lZ rfl rfl .h rfl vD.h gB.h.sz rfl rfl (.tmp rfl rfl .nil)) rfl (.conv .nil (jJ (Ro:=(az ax)) (E:=3)) (.cons .nil) (.conv .nil (jJ (Ro:=(az ax)) (E:=3)) (.cons .nil) (.sel (.cons (.t .h) (.cons .h .nil)))))
 refine fw ?_
 refine bnd hF fun r8 Eo hF=>V3 (asv.h Eo) (fun sV=>?_)
 refine gI (fun k11=>?_)
 refine As (zg [sV.1.v,sV.2.2.1.v]) ?_
 refine kP ?_
 refine gU (kI (m:=ae.Terms.length) (fun m87 f' cs'=>∃(g:Fr)(rR:Nat)(CL c80 zK:List Int)(v81:Sv)(WS:List Nat)(v84:Sv)(WT:List Nat),m87=CL.length/\f'=dm g [(5,(pz k3)),(6,(pz k4)),(8,(pz k11)),(38,bR.v),(39,(zi (ae.Terms.length:Int))),(40,(zi (rR:Int)))]/\List.drop rR ae.Terms=CL/\bL cs' [bC k3 164 (zg [(zi dC.aD),gK.v]),bi gK dC.Values,aW k4 152 (.agg ([(.slice none 0 0),(.slice none 0 0)]:List Value).toArray),aW k11 152 (zg [v81.v,v84.v]),dW WS v81 c80,dW WT v84 zK,bi bR ae.Terms]/\Ho dC CL rR c80 zK=some R) ⟨_,0,_,_,_,sV.1,sV.2.1,sV.2.2.1,sV.2.2.2,rfl,df,rfl,bT,hF⟩ ?_)
 rintro m87 _ _ ⟨g88,rR,CL,c80,zK,v81,WS,v84,WT,rfl,rfl,arc,hE,hF⟩
 refine Kb hE ae.Terms (fun aN3=>?_)
 rcases CL with _|⟨x91,CL⟩
 · have aHH:=dn arc
   rw[Ho]at hF
   refine dO ?_
   refine mQ ?_
   refine lN ?_
   refine As (zg [v81.v,v84.v]) ?_
   refine fw ?_
   cases hF
   exact iW (v81,WS,v84,WT) (.lZ rfl rfl .h rfl vD.h gB.h.sz rfl rfl (.tmp rfl rfl .nil)) rfl (.sel (.cons .q4 (.cons .q4 .nil)))
 obtain⟨aHH,aHI,hd95⟩:=kH arc
 rw[Ho]at hF
 refine dO ?_
 refine mP ?_
 refine au ?_
 obtain⟨o98,aEe,ahU⟩:=bind_some hF
 refine pU (fun f' cs'=>∃(c148 Vv:List Int)(abU:Sv)(ahV:List Nat)(v152:Sv)(ahW:List Nat)(g:Fr),o98= .inr (c148,Vv)/\f'=dm g [(5,(pz k3)),(6,(pz k4)),(8,(pz k11)),(38,bR.v),(39,(zi (ae.Terms.length:Int))),(40,(zi (rR:Int)))]/\bL cs' [bC k3 164 (zg [(zi dC.aD),gK.v]),bi gK dC.Values,aW k4 152 (.agg ([(.slice none 0 0),(.slice none 0 0)]:List Value).toArray),aW k11 152 (zg [abU.v,v152.v]),dW ahV abU c148,dW ahW v152 Vv,bi bR ae.Terms]) ?_ ?_
 · replace hF:=aEe
   refine gU (eB (Cm (zi (rR:Int)) rfl rfl ?_))
   refine Ai aHI (fun aQl aQm=>?_)
   refine Al TI ?_
   refine dO ?_
   obtain⟨ahR,aAN,aEf⟩:=bind_some hF
   refine au ?_
   refine qo (fun f' cs'=>∃(Vu:Bool)(g:Fr),Vu=ahR/\f'=dm g [(5,(pz k3)),(6,(pz k4)),(8,(pz k11)),(9,(zi (rR:Int))),(10,(zi x91)),(38,bR.v),(39,(zi (ae.Terms.length:Int))),(40,(zi (rR:Int))),(52,(.bool Vu))]/\bL cs' [bC k3 164 (zg [(zi dC.aD),gK.v]),bi gK dC.Values,aW k4 152 (.agg ([(.slice none 0 0),(.slice none 0 0)]:List Value).toArray),aW k11 152 (zg [v81.v,v84.v]),dW WS v81 c80,dW WT v84 zK,bi bR ae.Terms]) ?_ ?_
   · replace hF:=aAN
     refine au ?_
     refine bnd hF fun ahQ aEg hF=>oO (avU.h aEg) (fun _=>?_)
     refine au ?_
     rcases kQ ahQ with Ul|Ul
     · rw[Ul]
       try rw[Ul]at hF; dsimp only[eZ,eY]at hF
       refine fI ?_
       refine bnd hF fun abT Jq hF=>tZ (.cons .q6 (.cons .q5 .nil)) (qQ (pre:=[]) (.cons aX (.cons aX .nil)) (fun _=>.nil) (cK aC3.h fG (ar8.h Jq))) (fun _=>?_)
       exact jP hF
     rw[Ul]
     try rw[Ul]at hF; dsimp only[eZ,eY]at hF
     exact jP hF
   rintro _ _ ⟨Vu,aQn,rfl,rfl,hE⟩
   replace hF:=aEf
   try dsimp only at hF
   refine gV hE ?_
   refine Ci hF (fun aEh hF=>?_) (fun aEh hF=>?_)
   · refine qP [0,1,2,3,5,6,7,8,9,10,11,12,4,14,13,15,16,17] [0,1,0,4,15,0,32,0,128,0,896,1920,3968,8191,127,32767,65535,131071] [4,13,15,17] mixed (by decide+kernel) ?_
     refine du ?_
     refine dF rfl .no .q3 (fun ha hp=>gy (v:=v81.v) ry.h (EN ha (.tmp rfl rfl) rfl) hp.2 rfl rfl) ?_
     refine du ?_
     refine jw rfl .no rfl (fun ha=>gq (g:=true) (len:=1) (parts:=[(0,.tmp 55)]) jO.h gP.h (.cons (EN ha (.tmp rfl rfl) rfl) .nil) (vs:=[(zi x91)]) rfl rfl rfl (by intro v hv; simp at hv; rcases hv with rfl<;>rfl)) (fun aqk=>?_)
     refine lQ (.cons .h .nil) (gu (Ro:=(az ax)) (E:=3) (F:=([]++[])) (xs:=([x91]:List Int)) (iV (vg (fun _=>rfl)) fU dS) rfl rfl) ?_
     refine du ?_
     refine dF rfl .no .q4 (fun ha hp=>gy (v:=v84.v) ry.h (EN ha (.tmp rfl rfl) rfl) hp.2 rfl rfl) ?_
     refine pu ?_
     refine zI hF fun x113 aN4 Jr hF=>?_
     refine Di Jr (fun aQo aQp=>?_)
     refine Dl TI ?_
     refine jw rfl .no rfl (fun ha=>gq (g:=true) (len:=1) (parts:=[(0,.tmp 64)]) jO.h gP.h (.cons (EN ha (.tmp rfl rfl) rfl) .nil) (vs:=[(zi x113)]) rfl rfl rfl (by intro v hv; simp at hv; rcases hv with rfl<;>rfl)) (fun aQq=>?_)
     refine lQ (.cons .h .nil) (gu (Ro:=(az ax)) (E:=3) (F:=([]++[])) (xs:=([x113]:List Int)) (iV (vg (fun _=>rfl)) fU dS) rfl rfl) ?_
     refine bnd hF fun ahS aEi hF=>dx rfl rfl .no (.cons .q7 (.cons .q2 .nil)) (.own .h (by simp[ah]) (.own .q5 (fun _ h=>h) (.aV rfl (.aV rfl .nil)))) (fun ha=>iU (Ro:=(az ax)) jO.h yT gP.h rfl rfl rfl (EN ha (.tmp rfl rfl) rfl) (EN ha (.tmp rfl rfl) rfl) aEi kJ) (fun abV=>?_)
     refine du ?_
     refine bnd hF fun ahT aEj hF=>dx rfl rfl .no (.cons .q7 (.cons (.t .h) .nil)) (.aV rfl (.aV rfl (.aV rfl (.aV rfl .nil)))) (fun ha=>iU (Ro:=(az ax)) jO.h yT gP.h rfl rfl rfl (EN ha (.tmp rfl rfl) rfl) (EN ha (.tmp rfl rfl) rfl) aEj kJ) (fun ahX=>?_)
     refine dx rfl rfl .no (.cons .q6 .nil) (.aV rfl (.aV rfl (.aV rfl (.aV rfl .nil)))) (fun ha=>iO (e':=(zg [abV.1.v,v84.v])) lw.h.sz (EN ha (.tmp rfl rfl) rfl) (EN ha (.tmp rfl rfl) rfl) rfl rfl rfl rfl rfl) (fun _=>?_)
     refine du ?_
     refine dx rfl rfl .no (.cons .h .nil) (.aV rfl (.aV rfl (.aV rfl (.aV rfl .nil)))) (fun ha=>iO (e':=(zg [abV.1.v,ahX.1.v])) lw.h.sz (EN ha (.tmp rfl rfl) rfl) (EN ha (.tmp rfl rfl) rfl) rfl rfl rfl rfl rfl) (fun _=>?_)
     refine du ?_
     refine iQ [0,1,3,4,5,6,7,2,8] [0,0,3,0,8,0,56,120,255] [2] mixed (by decide+kernel) ?_
     refine dF rfl .no .h (fun ha hp=>lm vD.h gB.h.sz rfl (EN ha (.tmp rfl rfl) rfl) hp.2 rfl) ?_
     refine Az ?_
     refine zI hF fun aq9 aN5 aEk hF=>?_
     refine Di aEk (fun aQr aQs=>?_)
     refine Dl TI ?_
     refine bnd hF fun aq_ aEl hF=>pQ rfl rfl .no (.cons .q2 (.cons .q2 .nil)) (.aV rfl .nil) (fun ha=>qQ (pre:=[]) (.cons aX (.cons aX .nil)) (fun _=>.nil) (cK aoH.h (.cons (EN ha (.tmp rfl rfl) rfl) (.cons (EN ha (.tmp rfl rfl) rfl) .nil)) (ake.h aEl))) (fun _=>?_)
     refine jF ?_
     refine Ci hF (fun aEm hF=>?_) (fun aEm hF=>?_)
     · refine au ?_
       refine aP (iy gB.h rfl (vs:=[]) .nil (cells:=[(.slice none 0 0),(.slice none 0 0)]) rfl) ?_
       refine As (.agg ([(.slice none 0 0),(.slice none 0 0)]:List Value).toArray) ?_
       refine fw ?_
       cases hF
       replace hF:=ahU
       try dsimp only at hF
       cases hF
       exact iW (⟨none,0,0⟩,[],⟨none,0,0⟩,[]) (.lZ rfl rfl .h rfl vD.h gB.h.sz rfl rfl (.tmp rfl rfl .nil)) rfl (.conv .nil (jJ (Ro:=(az ax)) (E:=3)) (.cons .nil) (.conv .nil (jJ (Ro:=(az ax)) (E:=3)) (.cons .nil) (.sel (.cons (.t .h) (.cons .h .nil)))))
     refine au ?_
     cases hF
     exact⟨_,_,abV.1,abV.2,ahX.1,ahX.2,_,rfl,df,bT⟩
   refine au ?_
   refine iQ [0,1,3,4,5,6,7,2,8] [0,0,3,0,8,0,56,120,255] [2] mixed (by decide+kernel) ?_
   refine dF rfl .no .q3 (fun ha hp=>lm vD.h gB.h.sz rfl (EN ha (.tmp rfl rfl) rfl) hp.2 rfl) ?_
   refine Az ?_
   refine zI hF fun ara aN6 aEn hF=>?_
   refine Di aEn (fun aHE aHF=>?_)
   refine Dl TI ?_
   refine bnd hF fun arb aEo hF=>pQ rfl rfl .no (.cons .q6 (.cons .q5 .nil)) (.aV rfl .nil) (fun ha=>qQ (pre:=[]) (.cons aX (.cons aX .nil)) (fun _=>.nil) (cK aoH.h (.cons (EN ha (.tmp rfl rfl) rfl) (.cons (EN ha (.tmp rfl rfl) rfl) .nil)) (ake.h aEo))) (fun _=>?_)
   refine jF ?_
   refine Ci hF (fun aEp hF=>?_) (fun aEp hF=>?_)
   · refine au ?_
     refine aP (iy gB.h rfl (vs:=[]) .nil (cells:=[(.slice none 0 0),(.slice none 0 0)]) rfl) ?_
     refine As (.agg ([(.slice none 0 0),(.slice none 0 0)]:List Value).toArray) ?_
     refine fw ?_
     cases hF
     replace hF:=ahU
     try dsimp only at hF
     cases hF
     exact iW (⟨none,0,0⟩,[],⟨none,0,0⟩,[]) (.lZ rfl rfl .h rfl vD.h gB.h.sz rfl rfl (.tmp rfl rfl .nil)) rfl (.conv .nil (jJ (Ro:=(az ax)) (E:=3)) (.cons .nil) (.conv .nil (jJ (Ro:=(az ax)) (E:=3)) (.cons .nil) (.sel (.cons (.t .h) (.cons .h .nil)))))
   refine au ?_
   cases hF
   exact⟨_,_,v81,WS,v84,WT,_,rfl,df,bT⟩
 rintro _ _ ⟨c148,Vv,abU,ahV,v152,ahW,aQt,rfl,rfl,hE⟩
 replace hF:=ahU
 try dsimp only at hF
 refine gV hE ?_
 refine dO ?_
 rw[wk rR]
 exact⟨_,lT _,_,rR+1,CL,_,_,abU,ahV,v152,ahW,rfl,df,hd95,bT,hF⟩
instance aJf:I3 290 t30 t17 t6 u24 Mh:=⟨fun h=>asO h⟩
def LF(ae:aJ)(jc:aN):List aj->Nat->(List aN)->Option ((List aN))
 |[],Eu,c24=>some c24
 |x32::aAO,Eu,c24=>((Mh jc ae x32).bind fun zG=>
     if zG.2 then (
       (app c24 ([zG.1]:List aN)).bind fun z50=>
       some z50)
     else (
       some c24)).bind fun WQ=>
   match WQ with
   |c54=>LF ae jc aAO (Eu+1) c54
def LG(ae:aJ)(dM:List aj):List aN->Nat->(List aN)->Option ((List aN))
 |[],k9,c3=>some c3
 |jc::r_,k9,c3=>(LF ae jc dM 0 c3).bind fun wS=>
   match wS with
   |c59=>LG ae dM r_ (k9+1) c59
def yl(Bw:List aN)(ae:aJ)(dM:List aj):Option ((List aN)):=
 LG ae dM Bw 0 ([]:List aN)
instance atX:I3 253 t31 t17 t20 u25 yl:=⟨by
 intro _ _ _ _ _ _ _ hF
 have hK:=True.intro
 refine' en Tryz.func253 (yl.eq_1 ..)
 refine' dZ ?_
 refine' go
 refine' ed (q1 7 (tO 152 j3)) 17 [2,4,15,16]<;>rw[LG]at hF<;>refine' go
 refine' cu (q1 7 (tO 152 j3)) [2,4,15,16,17]
 refine' ed (q1 7 (tO 152 j3)) 23 [2,4,9,15,16,17,21,22]<;>rw[LF]at hF<;>refine' go
 refine' cu (q1 7 (tO 152 j3)) [2,4,9,15,16,17,21,22,23]⟩
theorem ajL{Bw:List aN}{aA:Sv}{ae:aJ}{bR:Sv}{dM:List aj}{bJ:Sv}{R:(List aN)}(hF:yl Bw ae dM=some R):
   Fw.Spec Tryz.prog 253 [aA.v,(.agg [(.int .i64 ae.aD),bR.v].toArray),bJ.v] [aI (ak 152 sF) aA.v Bw,aI (ak 3 ax) bR.v ae.Terms,aI (ak 164 gZ) bJ.v dM] (fun p:Sv×List Nat=>p.1.v) (fun p=>[ah (aa 152 j3) p.2 p.1.v R]):=atX.h hF
def PG(dM:List aj):List aJ->Nat->(List aN)->Option ((List aN))
 |[],k9,c3=>some c3
 |jc::r_,k9,c3=>(yl c3 jc dM).bind fun mq=>
   PG dM r_ (k9+1) mq
def QD(aK:Query)(dM:List aj):Option ((List aN)):=
 PG dM aK.aL 0 ([({Vars:=[],Values:=[]}:aN)]:List aN)
instance aIY:I2 300 t29 t20 u25 QD:=⟨by
 intro _ _ _ _ _ _ hF
 refine' en Tryz.func300 (QD.eq_1 ..)
 refine' aP (iy gB.h rfl (vs:=[]) .nil (cells:=[(.slice none 0 0),(.slice none 0 0)]) rfl) ?_
 refine' go
 refine' Gb j3 [({Vars:=[],Values:=[]}:aN)]
 refine' ed (q1 5 (tO 152 j3)) 13 [1,11,12]<;>rw[PG]at hF<;>refine' go⟩
def O5(xO:List Int):List Int->Nat->Option (Bool)
 |[],k4=>some true
 |x6::dH,k4=>(ix xO (k4:Int)).bind fun wN=>
   if ((x6:Int)!=wN)then (
     some false)
   else (
     O5 xO dH (k4+1))
def KT(Gr:List Int)(xO:List Int):Option (Bool):=
 if (((Gr.length:Int):Int)!=(xO.length:Int))then (
   some false)
 else (
   O5 xO Gr 0)
instance aIo:I2 293 t0 t0 u20 KT:=⟨by
 intro _ _ _ _ _ hF
 refine' en Tryz.func293 (KT.eq_1 ..)
 refine' eP q0 13 [0,1,12]<;>rw[O5]at hF<;>refine' go⟩
def Pt(aK:Query)(xq:List Int):List aN->Nat->Option (aN×Bool)
 |[],rQ=>some (({Vars:=[],Values:=[]}:aN),false)
 |x34::Tk,rQ=>(E_ aK x34).bind fun zG=>
   (KT zG xq).bind fun iH=>
   if iH then (
     some (x34,true))
   else (
     Pt aK xq Tk (rQ+1))
def LH(aK:Query)(dM:List aj)(xq:List Int):Option (aN×Bool):=
 (QD aK dM).bind fun r3=>
 Pt aK xq r3 0
instance asw:I3 281 t29 t20 t0 u33 LH:=⟨by
 intro _ _ _ _ _ _ _ _ hF
 refine' en Tryz.func281 (LH.eq_1 ..)
 rename_i r3 p5
 refine' UU (ah (aa 152 j3) p5.2 p5.1.v r3) ?_
 refine' eP q0 14 [2,3,6,12,13]<;>rw[Pt]at hF<;>refine' go
 refine' aP (iy gB.h rfl (vs:=[]) .nil (cells:=[(.slice none 0 0),(.slice none 0 0)]) rfl) ?_
 refine' go⟩
theorem ase{aK:Query}{aA:Sv}{bB:Sv}{dM:List aj}{bf:Sv}{xq:List Int}{bJ:Sv}{R:aN×Bool}(hF:LH aK dM xq=some R):
   Fw.Spec Tryz.prog 281 [(.agg [aA.v,bB.v].toArray),bf.v,bJ.v] [aI (ak 3 ax) aA.v aK.a_,aI (ak 138 l7) bB.v aK.aL,aI (ak 164 gZ) bf.v dM,aI (ak 3 ax) bJ.v xq] (fun p:Sv×Sv=>(.tuple [(.agg [p.1.v,p.2.v].toArray),(.bool R.2)].toArray)) (fun p=>[aI (ak 3 ax) p.1.v R.1.Vars,aI (ak 3 ax) p.2.v R.1.Values]):=asw.h hF
def Mi(fuel:Nat)(mU:Query)(aK:Query):Option (Bool):=
 if (((mU.a_.length:Int):Int)!=(aK.a_.length:Int))then (
   some false)
 else (
   (Hz mU).bind fun r4=>
   (Hz aK).bind fun r7=>
   (EA ([r4,r7]:List (List Int))).bind fun nT=>
   (IV fuel mU nT).bind fun iG=>
   if (!iG.2.2)then (
     some false)
   else (
     (E_ mU iG.2.1).bind fun qO=>
     (LH aK iG.1 qO).bind fun fD=>
     some fD.2))
theorem asP{fuel:Nat}{mU:Query}{aA bB:Sv}{aK:Query}{bf bR:Sv}{R:Bool}(hF:Mi fuel mU aK=some R):
   Fw.Spec Tryz.prog 244 [(zg [aA.v,bB.v]),(zg [bf.v,bR.v])] [bi aA mU.a_,eF bB mU.aL,bi bf aK.a_,eF bR aK.aL] (fun _:Unit=>(.bool R)) (fun _=>[]):=by
 refine Se 41 Tryz.func244 [.tmp 4] ?_
 intro H0 F0
 unfold Mi at hF
 refine au ?_
 refine j6 (fun k1=>?_)
 refine j6 (fun k2=>?_)
 refine TM ?_
 refine Ci hF (fun ahY hF=>?_) (fun ahY hF=>?_)
 · exact ze hF
 refine au ?_
 refine iQ [0,1,3,12,2,4,5,6,7,8,9,10,11,13,14,15] [0,0,2,0,14,30,62,127,255,511,511,511,0,5119,14335,32767] [2,4,6,7,14] mixed (by decide+kernel) ?_
 refine pu ?_
 refine jw rfl .no rfl (fun ha=>vW (g:=true) gB.h rfl rfl) (fun k3=>?_)
 refine bnd hF fun r4 hx5 hF=>dx rfl rfl .no (.rd .q3 rfl (.rd .q4 rfl .nil)) (.own .h (fun _ h=>h) .nil) (fun ha=>cK aoG.h (.cons (EN ha (.tmp rfl rfl) rfl) .nil) (@ai6 mU aA bB _ hx5)) (fun p6=>?_)
 refine bnd hF fun r7 Kz hF=>dx rfl rfl .no (.rd .q6 rfl (.rd .q7 rfl .nil)) (.own (.t .h) (fun _ h=>h) .nil) (fun ha=>cK aoG.h (.cons (EN ha (.tmp rfl rfl) rfl) .nil) (@ai6 aK bf bR _ Kz)) (fun p9=>?_)
 refine jw rfl .no rfl (fun ha=>gq (g:=true) (len:=2) (parts:=[(0,.tmp 20),(1,.tmp 22)]) mM.h lw.h (.cons (EN ha (.tmp rfl rfl) rfl) (.cons (EN ha (.tmp rfl rfl) rfl) .nil)) (vs:=[p6.1.v,p9.1.v]) rfl rfl rfl (by intro v hv; simp at hv; rcases hv with rfl|rfl<;>rfl)) (fun k10=>?_)
 refine lQ (.cons .h (.cons (.t .h) (.cons .h .nil))) (gu (Ro:=(aa 3 (az ax))) (E:=22) (F:=(p6.2++(p9.2++[]))) (xs:=([r4,r7]:List (List Int))) (iV yA (iV yA fU dS) dS) rfl rfl) ?_
 refine bnd hF fun nT ahZ hF=>pQ rfl rfl .no (.cons .h .nil) (.aV rfl (.own .h (fun _ h=>h) .nil)) (fun ha=>mH aX (fun _=>(.cons .nil)) (cK aoD.h (.cons (EN ha (.tmp rfl rfl) rfl) .nil) (@aiM ([r4,r7]:List (List Int)) (⟨(some ⟨k10,0,none⟩),2,1⟩) _ ahZ))) (fun OD=>?_)
 refine bnd hF fun iG DL hF=>aeO rfl rfl .no (.cons (.t .h) (.rd .q4 rfl (.rd .q5 rfl .nil))) (.aV rfl (.own (.t .h) (fun _ h=>h) .nil)) (fun ha=>mH aX (fun _=>(.cons (.cons (.cons .nil)))) (qR (.rd (.t .h) rfl (.rd .q2 rfl (.rd .h rfl .nil))) (cK aCY.h (.cons (EN ha (.tmp rfl rfl) rfl) (.cons (EN ha (.tmp rfl rfl) rfl) .nil)) (@auO fuel mU aA bB nT OD.1 _ DL)))) (fun p16=>?_)
 refine du ?_
 refine dw rfl .no (fun ha=>tC (l:=[p16.1.v,(zg [p16.2.2.1.v,p16.2.2.2.2.1.v]),(.bool iG.2.2)]) (v:=p16.1.v) (EN ha (.tmp rfl rfl) rfl) rfl) ?_
 refine dw rfl .no (fun ha=>tC (l:=[p16.1.v,(zg [p16.2.2.1.v,p16.2.2.2.2.1.v]),(.bool iG.2.2)]) (v:=(zg [p16.2.2.1.v,p16.2.2.2.2.1.v])) (EN ha (.tmp rfl rfl) rfl) rfl) ?_
 refine dw rfl .no (fun ha=>tC (l:=[p16.1.v,(zg [p16.2.2.1.v,p16.2.2.2.2.1.v]),(.bool iG.2.2)]) (v:=(.bool iG.2.2)) (EN ha (.tmp rfl rfl) rfl) rfl) ?_
 refine du ?_
 refine dx rfl rfl .no (.cons .q5 .nil) (.aV rfl (.aV rfl .nil)) (fun ha=>iO (e':=(zg [p16.2.2.1.v,p16.2.2.2.2.1.v])) (v:=(zg [p16.2.2.1.v,p16.2.2.2.2.1.v])) gB.h.sz (EN ha (.tmp rfl rfl) rfl) (EN ha (.tmp rfl rfl) rfl) rfl rfl rfl rfl rfl) (fun _=>?_)
 refine jF ?_
 refine fI ?_
 refine Ci hF (fun aHJ hF=>?_) (fun aHJ hF=>?_)
 · exact ze hF
 refine au ?_
 refine uq .q3 aX ?_
 iterate 2 refine uq .q4 aX ?_
 refine iQ [0,1,2,3,9,4,5,6,7,8,10,11] [0,0,0,0,12,31,63,127,127,0,767,2047] [4,5,10] mixed (by decide+kernel) ?_
 refine pu ?_
 refine dF rfl .no .q3 (fun ha hp=>lm vD.h gB.h.sz rfl (EN ha (.tmp rfl rfl) rfl) hp.2 rfl) ?_
 refine jw rfl .no rfl (fun ha=>vW (g:=true) gB.h rfl rfl) (fun k23=>?_)
 refine bnd hF fun qO hx25 hF=>dx rfl rfl .no (.rd .q9 rfl (.rd .q10 rfl (.rd .q3 rfl (.rd .q2 rfl .nil)))) (.own .h (fun _ h=>h) (.aV rfl .nil)) (fun ha=>CG (post':=fun p26:Sv×List Nat=>[bi p26.1 qO]) (fun p26=>(.cO .h aX bT)) (cK aC0.h (.cons (EN ha (.tmp rfl rfl) rfl) (.cons (EN ha (.tmp rfl rfl) rfl) .nil)) (@atU mU aA bB iG.2.1 p16.2.2.1 p16.2.2.2.2.1 _ hx25))) (fun p26=>?_)
 refine bnd hF fun fD hx28 hF=>pQ rfl rfl .no (.rd .q12 rfl (.rd .q13 rfl (.rd .q2 rfl (.rd .h rfl .nil)))) (.own (.t .h) (fun _ h=>h) (.aV rfl .nil)) (fun ha=>cK aCZ.h (.cons (EN ha (.tmp rfl rfl) rfl) (.cons (EN ha (.tmp rfl rfl) rfl) (.cons (EN ha (.tmp rfl rfl) rfl) .nil))) (@ase aK bf bR iG.1 p16.1 qO p26.1 _ hx28)) (fun p29=>?_)
 refine du ?_
 refine dw rfl .no (fun ha=>tC (l:=[(zg [p29.1.v,p29.2.v]),(.bool fD.2)]) (v:=(zg [p29.1.v,p29.2.v])) (EN ha (.tmp rfl rfl) rfl) rfl) ?_
 refine dw rfl .no (fun ha=>tC (l:=[(zg [p29.1.v,p29.2.v]),(.bool fD.2)]) (v:=(.bool fD.2)) (EN ha (.tmp rfl rfl) rfl) rfl) ?_
 refine dx rfl rfl .no (.cons .q3 .nil) (.aV rfl (.aV rfl .nil)) (fun ha=>iO (e':=(zg [p29.1.v,p29.2.v])) (v:=(zg [p29.1.v,p29.2.v])) gB.h.sz (EN ha (.tmp rfl rfl) rfl) (EN ha (.tmp rfl rfl) rfl) rfl rfl rfl rfl rfl) (fun _=>?_)
 refine jF ?_
 exact ze hF
instance aJg:GL 244 t29 t29 u20 Mi:=⟨fun h=>asP h⟩
def Qh(fuel:Nat)(aC:List Int)(mU:Query)(aK:Query):Option (Bool):=
 ((E9 aC mU).bind fun r5=>
   bif r5 then ((E9 aC aK).bind fun r9=>
     bif r9 then ((Mi fuel mU aK).bind fun gQ=>
       some gQ)
     else (some false))
   else (some false)).bind fun o3=>
 match o3 with
 |c16=>some c16
instance aIM:IF3 199 t0 t29 t29 u20 Qh:=⟨by
 intro _ _ _ _ _ _ _ _ _ _ hF
 refine' en Tryz.func199 (Qh.eq_1 ..)
 refine' rc (q1 6 tB) []⟩
def Zt(ae:aJ):Option (aJ):=
 (rT ae.Terms).bind fun r3=>
 some ({aD:=ae.aD,Terms:=r3}:aJ)
instance aJQ:I1 198 t17 u17 Zt:=⟨by
 intro _ _ _ hF
 refine' en Tryz.func198 (Zt.eq_1 ..)⟩
end Go.Proofs.YtlnefhbbbikmgabGreat
