/-
  Functions of the program as Lean functions, and that the calls return what these say: part 4. No conditions.
-/
import Derived.Test.YtfcjmpkenaiomaaGreatFnAuditsG2
import Derived.KernelRfl
set_option maxRecDepth 100000
set_option maxHeartbeats 1000000
set_option linter.unusedVariables false
namespace Go.Proofs.YtfcjmpkenaiomaaGreat
open Go Go.Fw

def Kr:List Int->Nat->Option (Int)
 |[],k4=>some (-1)
 |x6::aM,k4=>(UU x6).bind fun fI=>
   if fI then (
     some (k4:Int))
   else (
     Kr aM (k4+1))
def Un(ag:List Int):Option (Int):=
 Kr ag 0
theorem ak7{ag:List Int}{ae:Sv}{R:Int}(hF:Un ag=some R):
   Fw.Spec Tryz.prog 81 [ae.v,(.func (.func 142) [].toArray [].toArray)] [ah ae ag] (fun _:Unit=>(zi R)) (fun _=>[]):=by
 refine Se 19 Tryz.func81 [.tmp 4] ?_
 intro H0 F0
 unfold Un at hF
 refine gB ?_
 refine bi (bT (m:=ag.length) (fun m2 f' cs'=>∃(g:Fr)(k4:Nat)(aM:List Int),m2=aM.length/\f'=aQ g [(0,ae.v),(1,(.func (.func 142) [].toArray [].toArray)),(7,(zi (ag.length:Int))),(8,(zi (k4:Int)))]/\List.drop k4 ag=aM/\aN cs' [ah ae ag]/\Kr aM k4=some R) ⟨_,0,_,rfl,aA,rfl,ay,hF⟩ ?_)
 rintro m2 _ _ ⟨g3,k4,aM,rfl,rfl,hd7,hE,hF⟩
 refine Kb hE ag (fun kT=>?_)
 rcases aM with _|⟨x6,aM⟩
 · have gF:=dn hd7
   rw[Kr]at hF
   refine bg ?_
   refine dJ ?_
   exact ze hF
 obtain⟨gF,bY,gD⟩:=dz hd7
 rw[Kr]at hF
 refine bg ?_
 refine dI ?_
 refine ky ?_
 refine Ai bY (fun k13 oz=>?_)
 refine Al dN ?_
 refine bnd hF fun fI hx16 hF=>lZ .nil (qD asO.h (.tmp rfl rfl) b_ (al3 hx16)) (fun _=>?_)
 refine au ?_
 refine Ci hF (fun vG hF=>?_) (fun vG hF=>?_)
 · exact ze hF
 refine aY ?_
 rw[wk k4]
 exact⟨_,bX _,_,k4+1,aM,rfl,aA,gD,ay,hF⟩
def NI(ag:List Int):Option (Bool):=
 (Un ag).bind fun r1=>
 some (decide ((0:Int)<=r1))
theorem akZ{ag:List Int}{ae:Sv}{R:Bool}(hF:NI ag=some R):
   Fw.Spec Tryz.prog 38 [ae.v,(.func (.func 142) [].toArray [].toArray)] [ah ae ag] (fun _:Unit=>(.bool R)) (fun _=>[]):=by
 refine Se 9 Tryz.func38 [.tmp 4] ?_
 intro H0 F0
 unfold NI at hF
 refine bB ?_
 refine bnd hF fun r1 hx2 hF=>bD (ak7 hx2) (fun _=>?_)
 exact ze hF
def Eh(ag:List Int):Option (Bool):=
 ((oQ (ag.length:Int) 1 3).bind fun r3=>
   bif r3 then ((NI ag).bind fun r7=>
     some (!r7))
   else (some false)).bind fun o1=>
 match o1 with
 |c10=>some c10
theorem UL{ag:List Int}{ae:Sv}{R:Bool}(hF:Eh ag=some R):
   Fw.Spec Tryz.prog 104 [ae.v] [ah ae ag] (fun _:Unit=>(.bool R)) (fun _=>[]):=by
 refine Se 11 Tryz.func104 [.tmp 2] ?_
 intro H0 F0
 unfold Eh at hF
 refine bu ?_
 obtain⟨o1,yx,hO2⟩:=bind_some hF
 refine au ?_
 refine eX (fun f' cs'=>∃(c10:Bool)(g:Fr),c10=o1/\f'=aQ g [(2,(.bool c10))]/\aN cs' []) ?_ ?_
 · replace hF:=yx
   refine aT ?_
   refine bnd hF fun r3 hx4 hF=>bD (su hx4) (fun _=>?_)
   refine au ?_
   rcases bE r3 with kg|kg
   · rw[kg]
     try rw[kg]at hF; dsimp only[aJ,aI]at hF
     refine bu ?_
     refine bnd hF fun r7 tN hF=>bD (akZ tN) (fun _=>?_)
     exact bJ hF
   rw[kg]
   try rw[kg]at hF; dsimp only[aJ,aI]at hF
   exact bJ hF
 rintro _ _ ⟨c10,g11,rfl,rfl,hE⟩
 replace hF:=hO2
 try dsimp only at hF
 refine bq hE ?_
 exact ze hF
def Es(ag:List Int)(oH:Int):Option (Bool):=
 ((Eh ag).bind fun r3=>
   bif r3 then ((oQ oH 0 (IntKind.i64.wrap ((ag.length:Int)-1))).bind fun r7=>
     some r7)
   else (some false)).bind fun o1=>
 match o1 with
 |c10=>some c10
theorem UY{ag:List Int}{ae:Sv}{oH:Int}{R:Bool}(hF:Es ag oH=some R):
   Fw.Spec Tryz.prog 144 [ae.v,(zi oH)] [ah ae ag] (fun _:Unit=>(.bool R)) (fun _=>[]):=by
 refine Se 14 Tryz.func144 [.tmp 4] ?_
 intro H0 F0
 unfold Es at hF
 refine bu ?_
 obtain⟨o1,yx,hO2⟩:=bind_some hF
 refine au ?_
 refine eX (fun f' cs'=>∃(c10:Bool)(g:Fr),c10=o1/\f'=aQ g [(4,(.bool c10))]/\aN cs' []) ?_ ?_
 · replace hF:=yx
   refine au ?_
   refine bnd hF fun r3 hx4 hF=>bD (UL hx4) (fun _=>?_)
   refine au ?_
   rcases bE r3 with kg|kg
   · rw[kg]
     try rw[kg]at hF; dsimp only[aJ,aI]at hF
     refine gB ?_
     refine bnd hF fun r7 tN hF=>bD (su tN) (fun _=>?_)
     exact bJ hF
   rw[kg]
   try rw[kg]at hF; dsimp only[aJ,aI]at hF
   exact bJ hF
 rintro _ _ ⟨c10,g11,rfl,rfl,hE⟩
 replace hF:=hO2
 try dsimp only at hF
 refine bq hE ?_
 exact ze hF
def Gv(ai:List Int):List Int->Nat->Option (Bool)
 |[],k4=>some true
 |x6::aM,k4=>(bif (decide ((0:Int)<(k4:Int)))then ((ix ai (IntKind.i64.wrap ((k4:Int)-1))).bind fun g_=>
       some (decide ((x6:Int)<=g_)))
     else (some false)).bind fun ma=>
   match ma with
   |c24=>if c24 then (
       some false)
     else (
       Gv ai aM (k4+1))
def OJ(ai:List Int):Option (Bool):=
 Gv ai ai 0
theorem amq{ai:List Int}{ae:Sv}{R:Bool}(hF:OJ ai=some R):
   Fw.Spec Tryz.prog 178 [ae.v] [ah ae ai] (fun _:Unit=>(.bool R)) (fun _=>[]):=by
 refine Se 24 Tryz.func178 [.tmp 2] ?_
 intro H0 F0
 unfold OJ at hF
 refine gB ?_
 refine bi (bT (m:=ai.length) (fun m2 f' cs'=>∃(g:Fr)(k4:Nat)(aM:List Int),m2=aM.length/\f'=aQ g [(0,ae.v),(5,(zi (ai.length:Int))),(6,(zi (k4:Int)))]/\List.drop k4 ai=aM/\aN cs' [ah ae ai]/\Gv ai aM k4=some R) ⟨_,0,_,rfl,aA,rfl,ay,hF⟩ ?_)
 rintro m2 _ _ ⟨g3,k4,aM,rfl,rfl,hd7,hE,hF⟩
 refine Kb hE ai (fun kT=>?_)
 rcases aM with _|⟨x6,aM⟩
 · have gF:=dn hd7
   rw[Gv]at hF
   refine bg ?_
   refine dJ ?_
   exact ze hF
 obtain⟨gF,bY,gD⟩:=dz hd7
 rw[Gv]at hF
 refine bg ?_
 refine dI ?_
 refine bB ?_
 obtain⟨ma,uQ,vo⟩:=bind_some hF
 refine dS [0,1,2,3,4,5,6,7,8,9,10,11,12,13] [0,1,3,7,7,31,63,7,7,263,903,1927,4095,8191] [] mixed (by decide+kernel) ?_
 refine kS (fun f' cs'=>∃(c24:Bool)(g:Fr),c24=ma/\f'=aQ g [(0,ae.v),(5,(zi (ai.length:Int))),(6,(zi (k4:Int))),(22,(.bool c24))]/\aN cs' [ah ae ai]) ?_ ?_
 · replace hF:=uQ
   refine dm ?_
   rcases bE (decide ((0:Int)<(k4:Int)))with jo|jo
   · rw[jo]
     try rw[jo]at hF; dsimp only[aJ,aI]at hF
     refine bR ?_
     refine Di bY (fun k16 JE=>?_)
     refine Dl dN ?_
     refine dm ?_
     refine zI hF fun g_ ajB lv hF=>?_
     refine Di lv (fun k22 j23=>?_)
     refine Dl dN ?_
     exact eu hF
   rw[jo]
   try rw[jo]at hF; dsimp only[aJ,aI]at hF
   exact eu hF
 rintro _ _ ⟨c24,g27,rfl,rfl,hE⟩
 replace hF:=vo
 try dsimp only at hF
 refine bq hE ?_
 refine Ci hF (fun Cy hF=>?_) (fun Cy hF=>?_)
 · exact ze hF
 refine aY ?_
 rw[wk k4]
 exact⟨_,bX _,_,k4+1,aM,rfl,aA,gD,ay,hF⟩
def NU(pX:Int)(aj:Int):Option (Bool):=
 (oQ pX 0 (IntKind.i64.wrap (aj-1))).bind fun r1=>
 some (!r1)
theorem alo{pX:Int}{bS:Nat}{aj:Int}{R:Bool}(hF:NU pX aj=some R):
   Fw.Spec Tryz.prog 179 [(zi pX),(pz bS)] [aX bS 3 (zi aj)] (fun _:Unit=>(.bool R)) (fun _=>[]):=by
 refine Se 9 Tryz.func179 [.tmp 3] ?_
 intro H0 F0
 unfold NU at hF
 refine bH ?_
 refine bnd hF fun r1 hx2 hF=>bD (su hx2) (fun _=>?_)
 exact ze hF
def Ko(aj:Int):List Int->Nat->Option (Int)
 |[],k4=>some (-1)
 |x6::aM,k4=>(NU x6 aj).bind fun fI=>
   if fI then (
     some (k4:Int))
   else (
     Ko aj aM (k4+1))
def Ul(ag:List Int)(aj:Int):Option (Int):=
 Ko aj ag 0
theorem ak5{ag:List Int}{ae:Sv}{bS:Nat}{aj R:Int}(hF:Ul ag aj=some R):
   Fw.Spec Tryz.prog 81 [ae.v,(.func (.func 179) [].toArray [(pz bS)].toArray)] [ah ae ag,aX bS 3 (zi aj)] (fun _:Unit=>(zi R)) (fun _=>[]):=by
 refine Se 19 Tryz.func81 [.tmp 4] ?_
 intro H0 F0
 unfold Ul at hF
 refine gB ?_
 refine bi (bT (m:=ag.length) (fun m2 f' cs'=>∃(g:Fr)(k4:Nat)(aM:List Int),m2=aM.length/\f'=aQ g [(0,ae.v),(1,(.func (.func 179) [].toArray [(pz bS)].toArray)),(7,(zi (ag.length:Int))),(8,(zi (k4:Int)))]/\List.drop k4 ag=aM/\aN cs' [ah ae ag,aX bS 3 (zi aj)]/\Ko aj aM k4=some R) ⟨_,0,_,rfl,aA,rfl,ay,hF⟩ ?_)
 rintro m2 _ _ ⟨g3,k4,aM,rfl,rfl,hd7,hE,hF⟩
 refine Kb hE ag (fun kT=>?_)
 rcases aM with _|⟨x6,aM⟩
 · have gF:=dn hd7
   rw[Ko]at hF
   refine bg ?_
   refine dJ ?_
   exact ze hF
 obtain⟨gF,bY,gD⟩:=dz hd7
 rw[Ko]at hF
 refine bg ?_
 refine dI ?_
 refine ky ?_
 refine Ai bY (fun k13 oz=>?_)
 refine Al dN ?_
 refine bnd hF fun fI hx16 hF=>lZ (.rd .q2 rfl .nil) (qD asQ.h (.tmp rfl rfl) b_ (alo hx16)) (fun _=>?_)
 refine au ?_
 refine Ci hF (fun vG hF=>?_) (fun vG hF=>?_)
 · exact ze hF
 refine aY ?_
 rw[wk k4]
 exact⟨_,bX _,_,k4+1,aM,rfl,aA,gD,ay,hF⟩
def NG(ag:List Int)(aj:Int):Option (Bool):=
 (Ul ag aj).bind fun r1=>
 some (decide ((0:Int)<=r1))
theorem akU{ag:List Int}{ae:Sv}{bS:Nat}{aj:Int}{R:Bool}(hF:NG ag aj=some R):
   Fw.Spec Tryz.prog 38 [ae.v,(.func (.func 179) [].toArray [(pz bS)].toArray)] [ah ae ag,aX bS 3 (zi aj)] (fun _:Unit=>(.bool R)) (fun _=>[]):=by
 refine Se 9 Tryz.func38 [.tmp 4] ?_
 intro H0 F0
 unfold NG at hF
 refine bB ?_
 refine bnd hF fun r1 hx2 hF=>bD (ak5 hx2) (fun _=>?_)
 exact ze hF
def Py(gU:Int):Option (Bool):=
 (oQ gU 0 99).bind fun r1=>
 some r1
theorem af0{gU:Int}{R:Bool}(hF:Py gU=some R):
   Fw.Spec Tryz.prog 125 [(zi gU)] [] (fun _:Unit=>(.bool R)) (fun _=>[]):=by
 refine Se 5 Tryz.func125 [.tmp 2] ?_
 intro H0 F0
 unfold Py at hF
 refine aY ?_
 refine bnd hF fun r1 hx2 hF=>bD (su hx2) (fun _=>?_)
 exact ze hF
def UM(aa:Method)(Bi:Int):Option (Bool):=
 ((OJ aa.Inputs).bind fun r5=>
   bif r5 then ((NG aa.Inputs Bi).bind fun r9=>
     bif (!r9)then ((oQ aa.Limit 0 9).bind fun oN=>
       bif oN then ((Py aa.Cost).bind fun oP=>
         bif oP then ((oQ aa.Quota 1 99).bind fun oD=>
           some oD)
         else (some false))
       else (some false))
     else (some false))
   else (some false)).bind fun o3=>
 match o3 with
 |c24=>some c24
theorem alO{aa:Method}{aO:Sv}{Bi:Int}{R:Bool}(hF:UM aa Bi=some R):
   Fw.Spec Tryz.prog 145 [(zg [(zi aa.Rel),aO.v,(zi aa.Limit),(zi aa.Cost),(zi aa.Quota)]),(zi Bi)] [ah aO aa.Inputs] (fun _:Unit=>(.bool R)) (fun _=>[]):=by
 refine Se 30 Tryz.func145 [.tmp 4] ?_
 intro H0 F0
 unfold UM at hF
 refine au ?_
 refine bN (fun k1=>?_)
 refine bN (fun k2=>?_)
 refine aT ?_
 obtain⟨o3,vC,hO4⟩:=bind_some hF
 refine au ?_
 refine eX (fun f' cs'=>∃(c24:Bool)(g:Fr),c24=o3/\f'=aQ g [(4,(.bool c24))]/\aN cs' []) ?_ ?_
 · replace hF:=vC
   refine aT ?_
   refine bnd hF fun r5 hx6 hF=>bD (amq hx6) (fun _=>?_)
   refine au ?_
   rcases bE r5 with ko|ko
   · rw[ko]
     try rw[ko]at hF; dsimp only[aJ,aI]at hF
     refine aY ?_
     refine aP (wo (fn:=.func 179) (vs:=[]) (us:=[(pz k2)]) .nil b_) ?_
     refine au ?_
     refine bnd hF fun r9 jm hF=>bD (akU jm) (fun _=>?_)
     refine bg ?_
     rcases bE (!r9)with lC|lC
     · rw[lC]
       try rw[lC]at hF; dsimp only[aJ,aI]at hF
       refine aY ?_
       refine bnd hF fun oN j5 hF=>bD (su j5) (fun _=>?_)
       refine aT ?_
       rcases bE oN with yn|yn
       · rw[yn]
         try rw[yn]at hF; dsimp only[aJ,aI]at hF
         refine aY ?_
         refine bnd hF fun oP mJ hF=>bD (af0 mJ) (fun _=>?_)
         refine aT ?_
         rcases bE oP with qU|qU
         · rw[qU]
           try rw[qU]at hF; dsimp only[aJ,aI]at hF
           refine aY ?_
           refine bnd hF fun oD sZ hF=>bD (su sZ) (fun _=>?_)
           exact bJ hF
         rw[qU]
         try rw[qU]at hF; dsimp only[aJ,aI]at hF
         exact bJ hF
       rw[yn]
       try rw[yn]at hF; dsimp only[aJ,aI]at hF
       exact bJ hF
     rw[lC]
     try rw[lC]at hF; dsimp only[aJ,aI]at hF
     exact bJ hF
   rw[ko]
   try rw[ko]at hF; dsimp only[aJ,aI]at hF
   exact bJ hF
 rintro _ _ ⟨c24,Tp,rfl,rfl,hE⟩
 replace hF:=hO4
 try dsimp only at hF
 refine bq hE ?_
 exact ze hF
def O5(ag:List Int)(aa:Method):Option (Bool):=
 ((Es ag aa.Rel).bind fun r4=>
   bif r4 then ((ix ag aa.Rel).bind fun x8=>
     (UM aa x8).bind fun jW=>
     some jW)
   else (some false)).bind fun o2=>
 match o2 with
 |c17=>some c17
theorem amY{ag:List Int}{ae:Sv}{aa:Method}{aV:Sv}{R:Bool}(hF:O5 ag aa=some R):
   Fw.Spec Tryz.prog 107 [ae.v,(zg [(zi aa.Rel),aV.v,(zi aa.Limit),(zi aa.Cost),(zi aa.Quota)])] [ah ae ag,ah aV aa.Inputs] (fun _:Unit=>(.bool R)) (fun _=>[]):=by
 refine Se 18 Tryz.func107 [.tmp 4] ?_
 intro H0 F0
 unfold O5 at hF
 refine au ?_
 refine bN (fun k1=>?_)
 refine aT ?_
 obtain⟨o2,fU,hO3⟩:=bind_some hF
 refine dS [0,1,2,3,4,5,6,7,8,9,10,11,12,13] [0,0,2,7,15,31,31,31,159,479,991,2047,4095,8191] [3,11] mixed (by decide+kernel) ?_
 refine kS (fun f' cs'=>∃(c17:Bool)(g:Fr),c17=o2/\f'=aQ g [(4,(.bool c17))]/\aN cs' []) ?_ ?_
 · replace hF:=fU
   refine dm ?_
   refine bnd hF fun r4 hx5 hF=>eZ (UY hx5) (fun _=>?_)
   refine du ?_
   rcases bE r4 with bn|bn
   · rw[bn]
     try rw[bn]at hF; dsimp only[aJ,aI]at hF
     refine nQ ?_
     refine zI hF fun x8 akf kW hF=>?_
     refine Di kW (fun k12 j13=>?_)
     refine Dl dN ?_
     refine bnd hF fun jW kz hF=>eZ (alO kz) (fun _=>?_)
     exact eu hF
   rw[bn]
   try rw[bn]at hF; dsimp only[aJ,aI]at hF
   exact eu hF
 rintro _ _ ⟨c17,g18,rfl,rfl,hE⟩
 replace hF:=hO3
 try dsimp only at hF
 refine bq hE ?_
 exact ze hF
def NY(aa:Method)(aj:List Int):Option (Bool):=
 (O5 aj aa).bind fun r2=>
 some (!r2)
theorem alv{aa:Method}{aO:Sv}{bS:Nat}{aj:List Int}{fF:Sv}{R:Bool}(hF:NY aa aj=some R):
   Fw.Spec Tryz.prog 106 [(zg [(zi aa.Rel),aO.v,(zi aa.Limit),(zi aa.Cost),(zi aa.Quota)]),(pz bS)] [ah aO aa.Inputs,aX bS 24 fF.v,ah fF aj] (fun _:Unit=>(.bool R)) (fun _=>[]):=by
 refine Se 8 Tryz.func106 [.tmp 3] ?_
 intro H0 F0
 unfold NY at hF
 refine au ?_
 refine bN (fun k1=>?_)
 refine aY ?_
 refine bnd hF fun r2 hx3 hF=>bD (amY hx3) (fun _=>?_)
 exact ze hF
def Ka(aj:List Int):List Method->Nat->Option (Int)
 |[],k4=>some (-1)
 |x6::aM,k4=>(NY x6 aj).bind fun r16=>
   if r16 then (
     some (k4:Int))
   else (
     Ka aj aM (k4+1))
def Ub(ag:List Method)(aj:List Int):Option (Int):=
 Ka aj ag 0
theorem akD{ag:List Method}{ae:Sv}{bS:Nat}{aj:List Int}{fF:Sv}{R:Int}(hF:Ub ag aj=some R):
   Fw.Spec Tryz.prog 143 [ae.v,(.func (.func 106) [].toArray [(pz bS)].toArray)] [bV ae ag,aX bS 24 fF.v,ah fF aj] (fun _:Unit=>(zi R)) (fun _=>[]):=by
 refine Se 19 Tryz.func143 [.tmp 4] ?_
 intro H0 F0
 unfold Ub at hF
 refine gB ?_
 refine bi (bT (m:=ag.length) (fun m2 f' cs'=>∃(g:Fr)(k4:Nat)(aM:List Method),m2=aM.length/\f'=aQ g [(0,ae.v),(1,(.func (.func 106) [].toArray [(pz bS)].toArray)),(7,(zi (ag.length:Int))),(8,(zi (k4:Int)))]/\List.drop k4 ag=aM/\aN cs' [bV ae ag,aX bS 24 fF.v,ah fF aj]/\Ka aj aM k4=some R) ⟨_,0,_,rfl,aA,rfl,ay,hF⟩ ?_)
 rintro m2 _ _ ⟨g3,k4,aM,rfl,rfl,hd7,hE,hF⟩
 refine Kb hE ag (fun kT=>?_)
 rcases aM with _|⟨x6,aM⟩
 · have gF:=dn hd7
   rw[Ka]at hF
   refine bg ?_
   refine dJ ?_
   exact ze hF
 obtain⟨gF,bY,gD⟩:=dz hd7
 rw[Ka]at hF
 refine bg ?_
 refine dI ?_
 refine ky ?_
 refine Ai bY (fun k13 oz=>?_)
 refine mX (uf x6) uH (fun ni=>?_)
 refine bnd hF fun r16 jF hF=>lZ (.rd .h rfl (.rd .q3 rfl (.rd .q4 rfl .nil))) (qD asP.h (.tmp rfl rfl) b_ (alv jF)) (fun _=>?_)
 refine au ?_
 refine Ci hF (fun nD hF=>?_) (fun nD hF=>?_)
 · exact ze hF
 refine aY ?_
 rw[wk k4]
 exact⟨_,bX _,_,k4+1,aM,rfl,aA,gD,ay,hF⟩
def Ny(ag:List Method)(aj:List Int):Option (Bool):=
 (Ub ag aj).bind fun r1=>
 some (decide ((0:Int)<=r1))
theorem akt{ag:List Method}{ae:Sv}{bS:Nat}{aj:List Int}{fF:Sv}{R:Bool}(hF:Ny ag aj=some R):
   Fw.Spec Tryz.prog 105 [ae.v,(.func (.func 106) [].toArray [(pz bS)].toArray)] [bV ae ag,aX bS 24 fF.v,ah fF aj] (fun _:Unit=>(.bool R)) (fun _=>[]):=by
 refine Se 9 Tryz.func105 [.tmp 4] ?_
 intro H0 F0
 unfold Ny at hF
 refine bB ?_
 refine bnd hF fun r1 hx2 hF=>bD (akD hx2) (fun _=>?_)
 exact ze hF
def Hd(ag:List Int)(ai:List Method):Option (Bool):=
 ((Eh ag).bind fun r4=>
   bif r4 then (bif (decide (((ai.length:Int):Int)<=5))then ((Ny ai ag).bind fun r9=>
       some (!r9))
     else (some false))
   else (some false)).bind fun o2=>
 match o2 with
 |c12=>some c12
theorem YR{ag:List Int}{ae:Sv}{ai:List Method}{ax:Sv}{R:Bool}(hF:Hd ag ai=some R):
   Fw.Spec Tryz.prog 53 [ae.v,ax.v] [ah ae ag,bV ax ai] (fun _:Unit=>(.bool R)) (fun _=>[]):=by
 refine Se 18 Tryz.func53 [.tmp 4] ?_
 intro H0 F0
 unfold Hd at hF
 refine au ?_
 refine bN (fun k1=>?_)
 refine aT ?_
 obtain⟨o2,fU,hO3⟩:=bind_some hF
 refine au ?_
 refine eX (fun f' cs'=>∃(c12:Bool)(g:Fr),c12=o2/\f'=aQ g [(4,(.bool c12))]/\aN cs' []) ?_ ?_
 · replace hF:=fU
   refine au ?_
   refine bnd hF fun r4 hx5 hF=>bD (UL hx5) (fun _=>?_)
   refine au ?_
   rcases bE r4 with bn|bn
   · rw[bn]
     try rw[bn]at hF; dsimp only[aJ,aI]at hF
     refine dL ?_
     rcases bE (decide (((ai.length:Int):Int)<=5))with ko|ko
     · rw[ko]
       try rw[ko]at hF; dsimp only[aJ,aI]at hF
       refine bu ?_
       refine aP (wo (fn:=.func 106) (vs:=[]) (us:=[(pz k1)]) .nil b_) ?_
       refine au ?_
       refine bnd hF fun r9 jm hF=>bD (akt jm) (fun _=>?_)
       exact bJ hF
     rw[ko]
     try rw[ko]at hF; dsimp only[aJ,aI]at hF
     exact bJ hF
   rw[bn]
   try rw[bn]at hF; dsimp only[aJ,aI]at hF
   exact bJ hF
 rintro _ _ ⟨c12,g13,rfl,rfl,hE⟩
 replace hF:=hO3
 try dsimp only at hF
 refine bq hE ?_
 exact ze hF
def NT(pX:Int)(aj:Int):Option (Bool):=
 (oQ pX 0 (IntKind.i64.wrap (aj-1))).bind fun r1=>
 some (!r1)
theorem alk{pX:Int}{bS:Nat}{aj:Int}{R:Bool}(hF:NT pX aj=some R):
   Fw.Spec Tryz.prog 180 [(zi pX),(pz bS)] [aX bS 3 (zi aj)] (fun _:Unit=>(.bool R)) (fun _=>[]):=by
 refine Se 9 Tryz.func180 [.tmp 3] ?_
 intro H0 F0
 unfold NT at hF
 refine bH ?_
 refine bnd hF fun r1 hx2 hF=>bD (su hx2) (fun _=>?_)
 exact ze hF
def Kn(aj:Int):List Int->Nat->Option (Int)
 |[],k4=>some (-1)
 |x6::aM,k4=>(NT x6 aj).bind fun fI=>
   if fI then (
     some (k4:Int))
   else (
     Kn aj aM (k4+1))
def Uk(ag:List Int)(aj:Int):Option (Int):=
 Kn aj ag 0
theorem akW{ag:List Int}{ae:Sv}{bS:Nat}{aj R:Int}(hF:Uk ag aj=some R):
   Fw.Spec Tryz.prog 81 [ae.v,(.func (.func 180) [].toArray [(pz bS)].toArray)] [ah ae ag,aX bS 3 (zi aj)] (fun _:Unit=>(zi R)) (fun _=>[]):=by
 refine Se 19 Tryz.func81 [.tmp 4] ?_
 intro H0 F0
 unfold Uk at hF
 refine gB ?_
 refine bi (bT (m:=ag.length) (fun m2 f' cs'=>∃(g:Fr)(k4:Nat)(aM:List Int),m2=aM.length/\f'=aQ g [(0,ae.v),(1,(.func (.func 180) [].toArray [(pz bS)].toArray)),(7,(zi (ag.length:Int))),(8,(zi (k4:Int)))]/\List.drop k4 ag=aM/\aN cs' [ah ae ag,aX bS 3 (zi aj)]/\Kn aj aM k4=some R) ⟨_,0,_,rfl,aA,rfl,ay,hF⟩ ?_)
 rintro m2 _ _ ⟨g3,k4,aM,rfl,rfl,hd7,hE,hF⟩
 refine Kb hE ag (fun kT=>?_)
 rcases aM with _|⟨x6,aM⟩
 · have gF:=dn hd7
   rw[Kn]at hF
   refine bg ?_
   refine dJ ?_
   exact ze hF
 obtain⟨gF,bY,gD⟩:=dz hd7
 rw[Kn]at hF
 refine bg ?_
 refine dI ?_
 refine ky ?_
 refine Ai bY (fun k13 oz=>?_)
 refine Al dN ?_
 refine bnd hF fun fI hx16 hF=>lZ (.rd .q2 rfl .nil) (qD asS.h (.tmp rfl rfl) b_ (alk hx16)) (fun _=>?_)
 refine au ?_
 refine Ci hF (fun vG hF=>?_) (fun vG hF=>?_)
 · exact ze hF
 refine aY ?_
 rw[wk k4]
 exact⟨_,bX _,_,k4+1,aM,rfl,aA,gD,ay,hF⟩
def NF(ag:List Int)(aj:Int):Option (Bool):=
 (Uk ag aj).bind fun r1=>
 some (decide ((0:Int)<=r1))
theorem akS{ag:List Int}{ae:Sv}{bS:Nat}{aj:Int}{R:Bool}(hF:NF ag aj=some R):
   Fw.Spec Tryz.prog 38 [ae.v,(.func (.func 180) [].toArray [(pz bS)].toArray)] [ah ae ag,aX bS 3 (zi aj)] (fun _:Unit=>(.bool R)) (fun _=>[]):=by
 refine Se 9 Tryz.func38 [.tmp 4] ?_
 intro H0 F0
 unfold NF at hF
 refine bB ?_
 refine bnd hF fun r1 hx2 hF=>bD (akW hx2) (fun _=>?_)
 exact ze hF
def UD(ai:List Int)(Bi:Int):Option (Bool):=
 (NF ai Bi).bind fun r2=>
 some (!r2)
theorem alx{ai:List Int}{ae:Sv}{Bi:Int}{R:Bool}(hF:UD ai Bi=some R):
   Fw.Spec Tryz.prog 147 [ae.v,(zi Bi)] [ah ae ai] (fun _:Unit=>(.bool R)) (fun _=>[]):=by
 refine Se 9 Tryz.func147 [.tmp 4] ?_
 intro H0 F0
 unfold UD at hF
 refine au ?_
 refine bN (fun k1=>?_)
 refine bg ?_
 refine aP (wo (fn:=.func 180) (vs:=[]) (us:=[(pz k1)]) .nil b_) ?_
 refine bnd hF fun r2 hx3 hF=>bD (akS hx3) (fun _=>?_)
 exact ze hF
def Pz(ag:List Int)(di:df):Option (Bool):=
 ((Es ag di.From).bind fun r4=>
   bif r4 then ((Es ag di.To).bind fun r8=>
     bif r8 then ((ix ag di.To).bind fun nU=>
       bif (((di.Map.length:Int):Int)==nU)then ((ix ag di.From).bind fun Nu=>
         (UD di.Map Nu).bind fun gV=>
         some gV)
       else (some false))
     else (some false))
   else (some false)).bind fun o2=>
 match o2 with
 |c28=>some c28
theorem anU{ag:List Int}{ae:Sv}{di:df}{nG:Sv}{R:Bool}(hF:Pz ag di=some R):
   Fw.Spec Tryz.prog 110 [ae.v,(zg [(zi di.From),(zi di.To),nG.v])] [ah ae ag,ah nG di.Map] (fun _:Unit=>(.bool R)) (fun _=>[]):=by
 refine Se 36 Tryz.func110 [.tmp 4] ?_
 intro H0 F0
 unfold Pz at hF
 refine au ?_
 refine bN (fun k1=>?_)
 refine aT ?_
 obtain⟨o2,fU,hO3⟩:=bind_some hF
 refine dS [0,1,2,3,4,5,6,7,8,9,10,11,12,13,14,15,16,17,18,19,20,21,22,23,24,25,26,27,28,29,30,31] [0,0,2,7,15,31,31,95,255,511,1023,2047,4095,8191,2047,2047,34815,116735,247807,524287,1048575,2097151,4194303,8388607,4194303,4194303,37748735,121634815,255852543,536870911,1073741823,2147483647] [3,8,29] mixed (by decide+kernel) ?_
 refine kS (fun f' cs'=>∃(c28:Bool)(g:Fr),c28=o2/\f'=aQ g [(4,(.bool c28))]/\aN cs' []) ?_ ?_
 · replace hF:=fU
   refine dm ?_
   refine bnd hF fun r4 hx5 hF=>eZ (UY hx5) (fun _=>?_)
   refine du ?_
   rcases bE r4 with bn|bn
   · rw[bn]
     try rw[bn]at hF; dsimp only[aJ,aI]at hF
     refine dm ?_
     refine bnd hF fun r8 bY hF=>eZ (UY bY) (fun _=>?_)
     refine bR ?_
     rcases bE r8 with dQ|dQ
     · rw[dQ]
       try rw[dQ]at hF; dsimp only[aJ,aI]at hF
       refine wK ?_
       refine zI hF fun nU Re kz hF=>?_
       refine Di kz (fun k16 JE=>?_)
       refine Dl dN ?_
       refine dm ?_
       rcases bE (((di.Map.length:Int):Int)==nU)with jq|jq
       · rw[jq]
         try rw[jq]at hF; dsimp only[aJ,aI]at hF
         refine sV ?_
         refine zI hF fun Nu ax8 sZ hF=>?_
         refine Di sZ (fun k23 Yj=>?_)
         refine Dl dN ?_
         refine bnd hF fun gV nE hF=>eZ (alx nE) (fun _=>?_)
         exact eu hF
       rw[jq]
       try rw[jq]at hF; dsimp only[aJ,aI]at hF
       exact eu hF
     rw[dQ]
     try rw[dQ]at hF; dsimp only[aJ,aI]at hF
     exact eu hF
   rw[bn]
   try rw[bn]at hF; dsimp only[aJ,aI]at hF
   exact eu hF
 rintro _ _ ⟨c28,g29,rfl,rfl,hE⟩
 replace hF:=hO3
 try dsimp only at hF
 refine bq hE ?_
 exact ze hF
def Ov(di:df)(aj:List Int):Option (Bool):=
 (Pz aj di).bind fun r2=>
 some (!r2)
theorem al4{di:df}{cu:Sv}{bS:Nat}{aj:List Int}{fF:Sv}{R:Bool}(hF:Ov di aj=some R):
   Fw.Spec Tryz.prog 109 [(zg [(zi di.From),(zi di.To),cu.v]),(pz bS)] [ah cu di.Map,aX bS 24 fF.v,ah fF aj] (fun _:Unit=>(.bool R)) (fun _=>[]):=by
 refine Se 8 Tryz.func109 [.tmp 3] ?_
 intro H0 F0
 unfold Ov at hF
 refine au ?_
 refine bN (fun k1=>?_)
 refine aY ?_
 refine bnd hF fun r2 hx3 hF=>bD (anU hx3) (fun _=>?_)
 exact ze hF
def Ki(aj:List Int):List df->Nat->Option (Int)
 |[],k4=>some (-1)
 |x6::aM,k4=>(Ov x6 aj).bind fun r16=>
   if r16 then (
     some (k4:Int))
   else (
     Ki aj aM (k4+1))
def Ug(ag:List df)(aj:List Int):Option (Int):=
 Ki aj ag 0
theorem akM{ag:List df}{ae:Sv}{bS:Nat}{aj:List Int}{fF:Sv}{R:Int}(hF:Ug ag aj=some R):
   Fw.Spec Tryz.prog 146 [ae.v,(.func (.func 109) [].toArray [(pz bS)].toArray)] [eY ae ag,aX bS 24 fF.v,ah fF aj] (fun _:Unit=>(zi R)) (fun _=>[]):=by
 refine Se 19 Tryz.func146 [.tmp 4] ?_
 intro H0 F0
 unfold Ug at hF
 refine gB ?_
 refine bi (bT (m:=ag.length) (fun m2 f' cs'=>∃(g:Fr)(k4:Nat)(aM:List df),m2=aM.length/\f'=aQ g [(0,ae.v),(1,(.func (.func 109) [].toArray [(pz bS)].toArray)),(7,(zi (ag.length:Int))),(8,(zi (k4:Int)))]/\List.drop k4 ag=aM/\aN cs' [eY ae ag,aX bS 24 fF.v,ah fF aj]/\Ki aj aM k4=some R) ⟨_,0,_,rfl,aA,rfl,ay,hF⟩ ?_)
 rintro m2 _ _ ⟨g3,k4,aM,rfl,rfl,hd7,hE,hF⟩
 refine Kb hE ag (fun kT=>?_)
 rcases aM with _|⟨x6,aM⟩
 · have gF:=dn hd7
   rw[Ki]at hF
   refine bg ?_
   refine dJ ?_
   exact ze hF
 obtain⟨gF,bY,gD⟩:=dz hd7
 rw[Ki]at hF
 refine bg ?_
 refine dI ?_
 refine ky ?_
 refine Ai bY (fun k13 oz=>?_)
 refine mX (Lg x6) Pi (fun ni=>?_)
 refine bnd hF fun r16 jF hF=>lZ (.rd .h rfl (.rd .q3 rfl (.rd .q4 rfl .nil))) (qD asR.h (.tmp rfl rfl) b_ (al4 jF)) (fun _=>?_)
 refine au ?_
 refine Ci hF (fun nD hF=>?_) (fun nD hF=>?_)
 · exact ze hF
 refine aY ?_
 rw[wk k4]
 exact⟨_,bX _,_,k4+1,aM,rfl,aA,gD,ay,hF⟩
def ND(ag:List df)(aj:List Int):Option (Bool):=
 (Ug ag aj).bind fun r1=>
 some (decide ((0:Int)<=r1))
theorem akI{ag:List df}{ae:Sv}{bS:Nat}{aj:List Int}{fF:Sv}{R:Bool}(hF:ND ag aj=some R):
   Fw.Spec Tryz.prog 108 [ae.v,(.func (.func 109) [].toArray [(pz bS)].toArray)] [eY ae ag,aX bS 24 fF.v,ah fF aj] (fun _:Unit=>(.bool R)) (fun _=>[]):=by
 refine Se 9 Tryz.func108 [.tmp 4] ?_
 intro H0 F0
 unfold ND at hF
 refine bB ?_
 refine bnd hF fun r1 hx2 hF=>bD (akM hx2) (fun _=>?_)
 exact ze hF
def O6(ag:List Int)(ai:List df):Option (Bool):=
 ((Eh ag).bind fun r4=>
   bif r4 then (bif (decide (((ai.length:Int):Int)<=4))then ((ND ai ag).bind fun r9=>
       some (!r9))
     else (some false))
   else (some false)).bind fun o2=>
 match o2 with
 |c12=>some c12
theorem amZ{ag:List Int}{ae:Sv}{ai:List df}{ax:Sv}{R:Bool}(hF:O6 ag ai=some R):
   Fw.Spec Tryz.prog 54 [ae.v,ax.v] [ah ae ag,eY ax ai] (fun _:Unit=>(.bool R)) (fun _=>[]):=by
 refine Se 18 Tryz.func54 [.tmp 4] ?_
 intro H0 F0
 unfold O6 at hF
 refine au ?_
 refine bN (fun k1=>?_)
 refine aT ?_
 obtain⟨o2,fU,hO3⟩:=bind_some hF
 refine au ?_
 refine eX (fun f' cs'=>∃(c12:Bool)(g:Fr),c12=o2/\f'=aQ g [(4,(.bool c12))]/\aN cs' []) ?_ ?_
 · replace hF:=fU
   refine au ?_
   refine bnd hF fun r4 hx5 hF=>bD (UL hx5) (fun _=>?_)
   refine au ?_
   rcases bE r4 with bn|bn
   · rw[bn]
     try rw[bn]at hF; dsimp only[aJ,aI]at hF
     refine dL ?_
     rcases bE (decide (((ai.length:Int):Int)<=4))with ko|ko
     · rw[ko]
       try rw[ko]at hF; dsimp only[aJ,aI]at hF
       refine bu ?_
       refine aP (wo (fn:=.func 109) (vs:=[]) (us:=[(pz k1)]) .nil b_) ?_
       refine au ?_
       refine bnd hF fun r9 jm hF=>bD (akI jm) (fun _=>?_)
       exact bJ hF
     rw[ko]
     try rw[ko]at hF; dsimp only[aJ,aI]at hF
     exact bJ hF
   rw[bn]
   try rw[bn]at hF; dsimp only[aJ,aI]at hF
   exact bJ hF
 rintro _ _ ⟨c12,g13,rfl,rfl,hE⟩
 replace hF:=hO3
 try dsimp only at hF
 refine bq hE ?_
 exact ze hF
def ZH(gU:Int):Option (Bool):=
 (oQ gU 0 9).bind fun r1=>
 some r1
theorem anz{gU:Int}{R:Bool}(hF:ZH gU=some R):
   Fw.Spec Tryz.prog 150 [(zi gU)] [] (fun _:Unit=>(.bool R)) (fun _=>[]):=by
 refine Se 5 Tryz.func150 [.tmp 2] ?_
 intro H0 F0
 unfold ZH at hF
 refine aY ?_
 refine bnd hF fun r1 hx2 hF=>bD (su hx2) (fun _=>?_)
 exact ze hF
def UN(gU:Int):Option (Bool):=
 (ZH gU).bind fun r1=>
 some (!r1)
theorem alP{gU:Int}{R:Bool}(hF:UN gU=some R):
   Fw.Spec Tryz.prog 149 [(zi gU)] [] (fun _:Unit=>(.bool R)) (fun _=>[]):=by
 refine Se 6 Tryz.func149 [.tmp 2] ?_
 intro H0 F0
 unfold UN at hF
 refine aY ?_
 refine bnd hF fun r1 hx2 hF=>bD (anz hx2) (fun _=>?_)
 exact ze hF
def Kq:List Int->Nat->Option (Int)
 |[],k4=>some (-1)
 |x6::aM,k4=>(UN x6).bind fun fI=>
   if fI then (
     some (k4:Int))
   else (
     Kq aM (k4+1))
def Um(ag:List Int):Option (Int):=
 Kq ag 0
theorem ak6{ag:List Int}{ae:Sv}{R:Int}(hF:Um ag=some R):
   Fw.Spec Tryz.prog 81 [ae.v,(.func (.func 149) [].toArray [].toArray)] [ah ae ag] (fun _:Unit=>(zi R)) (fun _=>[]):=by
 refine Se 19 Tryz.func81 [.tmp 4] ?_
 intro H0 F0
 unfold Um at hF
 refine gB ?_
 refine bi (bT (m:=ag.length) (fun m2 f' cs'=>∃(g:Fr)(k4:Nat)(aM:List Int),m2=aM.length/\f'=aQ g [(0,ae.v),(1,(.func (.func 149) [].toArray [].toArray)),(7,(zi (ag.length:Int))),(8,(zi (k4:Int)))]/\List.drop k4 ag=aM/\aN cs' [ah ae ag]/\Kq aM k4=some R) ⟨_,0,_,rfl,aA,rfl,ay,hF⟩ ?_)
 rintro m2 _ _ ⟨g3,k4,aM,rfl,rfl,hd7,hE,hF⟩
 refine Kb hE ag (fun kT=>?_)
 rcases aM with _|⟨x6,aM⟩
 · have gF:=dn hd7
   rw[Kq]at hF
   refine bg ?_
   refine dJ ?_
   exact ze hF
 obtain⟨gF,bY,gD⟩:=dz hd7
 rw[Kq]at hF
 refine bg ?_
 refine dI ?_
 refine ky ?_
 refine Ai bY (fun k13 oz=>?_)
 refine Al dN ?_
 refine bnd hF fun fI hx16 hF=>lZ .nil (qD asT.h (.tmp rfl rfl) b_ (alP hx16)) (fun _=>?_)
 refine au ?_
 refine Ci hF (fun vG hF=>?_) (fun vG hF=>?_)
 · exact ze hF
 refine aY ?_
 rw[wk k4]
 exact⟨_,bX _,_,k4+1,aM,rfl,aA,gD,ay,hF⟩
def NH(ag:List Int):Option (Bool):=
 (Um ag).bind fun r1=>
 some (decide ((0:Int)<=r1))
theorem akX{ag:List Int}{ae:Sv}{R:Bool}(hF:NH ag=some R):
   Fw.Spec Tryz.prog 38 [ae.v,(.func (.func 149) [].toArray [].toArray)] [ah ae ag] (fun _:Unit=>(.bool R)) (fun _=>[]):=by
 refine Se 9 Tryz.func38 [.tmp 4] ?_
 intro H0 F0
 unfold NH at hF
 refine bB ?_
 refine bnd hF fun r1 hx2 hF=>bD (ak6 hx2) (fun _=>?_)
 exact ze hF
def KZ(ai:List Int):Option (Bool):=
 (NH ai).bind fun r1=>
 some (!r1)
theorem aeT{ai:List Int}{ae:Sv}{R:Bool}(hF:KZ ai=some R):
   Fw.Spec Tryz.prog 114 [ae.v] [ah ae ai] (fun _:Unit=>(.bool R)) (fun _=>[]):=by
 refine Se 6 Tryz.func114 [.tmp 2] ?_
 intro H0 F0
 unfold KZ at hF
 refine aY ?_
 refine bnd hF fun r1 hx2 hF=>bD (akX hx2) (fun _=>?_)
 exact ze hF
def PD(ag:List Int)(bF:Fact):Option (Bool):=
 ((Es ag bF.Rel).bind fun r4=>
   bif r4 then ((ix ag bF.Rel).bind fun x8=>
     bif (((bF.Values.length:Int):Int)==x8)then ((KZ bF.Values).bind fun fI=>
       some fI)
     else (some false))
   else (some false)).bind fun o2=>
 match o2 with
 |c18=>some c18
theorem anV{ag:List Int}{ae:Sv}{bF:Fact}{aV:Sv}{R:Bool}(hF:PD ag bF=some R):
   Fw.Spec Tryz.prog 148 [ae.v,(zg [(zi bF.Rel),aV.v])] [ah ae ag,ah aV bF.Values] (fun _:Unit=>(.bool R)) (fun _=>[]):=by
 refine Se 25 Tryz.func148 [.tmp 4] ?_
 intro H0 F0
 unfold PD at hF
 refine au ?_
 refine bN (fun k1=>?_)
 refine aT ?_
 obtain⟨o2,fU,hO3⟩:=bind_some hF
 refine dS [0,1,2,3,4,5,6,7,8,9,10,11,12,13,14,15,16,17,18,19,20] [0,0,2,7,15,31,63,127,31,31,543,1823,3871,8191,16383,32767,65535,131071,262143,524287,1048575] [3,18] mixed (by decide+kernel) ?_
 refine kS (fun f' cs'=>∃(c18:Bool)(g:Fr),c18=o2/\f'=aQ g [(4,(.bool c18))]/\aN cs' []) ?_ ?_
 · replace hF:=fU
   refine dm ?_
   refine bnd hF fun r4 hx5 hF=>eZ (UY hx5) (fun _=>?_)
   refine du ?_
   rcases bE r4 with bn|bn
   · rw[bn]
     try rw[bn]at hF; dsimp only[aJ,aI]at hF
     refine wK ?_
     refine zI hF fun x8 akf kW hF=>?_
     refine Di kW (fun k12 j13=>?_)
     refine Dl dN ?_
     refine dm ?_
     rcases bE (((bF.Values.length:Int):Int)==x8)with yz|yz
     · rw[yz]
       try rw[yz]at hF; dsimp only[aJ,aI]at hF
       refine bR ?_
       refine bnd hF fun fI hx16 hF=>eZ (aeT hx16) (fun _=>?_)
       exact eu hF
     rw[yz]
     try rw[yz]at hF; dsimp only[aJ,aI]at hF
     exact eu hF
   rw[bn]
   try rw[bn]at hF; dsimp only[aJ,aI]at hF
   exact eu hF
 rintro _ _ ⟨c18,g19,rfl,rfl,hE⟩
 replace hF:=hO3
 try dsimp only at hF
 refine bq hE ?_
 exact ze hF
def Dw(aS:Int):Option (Bool):=
 some ((aS:Int)!=aS)
theorem Ut{aS:Int}{R:Bool}(hF:Dw aS=some R):
   Fw.Spec Tryz.prog 152 [(zi aS)] [] (fun _:Unit=>(.bool R)) (fun _=>[]):=by
 refine Se 6 Tryz.func152 [.tmp 2] ?_
 intro H0 F0
 unfold Dw at hF
 exact ze hF
def FY(aS:Int)(pY:Int):Option (Int):=
 (Dw aS).bind fun r1=>
 (Dw pY).bind fun r4=>
 if r1 then (
   if r4 then (
     some 0)
   else (
     some (-1)))
 else (
   if r4 then (
     some 1)
   else (
     if (decide ((aS:Int)<pY))then (
       some (-1))
     else (
       if (decide ((pY:Int)<aS))then (
         some 1)
       else (
         some 0))))
theorem YI{aS pY R:Int}(hF:FY aS pY=some R):
   Fw.Spec Tryz.prog 118 [(zi aS),(zi pY)] [] (fun _:Unit=>(zi R)) (fun _=>[]):=by
 refine Se 20 Tryz.func118 [.tmp 4] ?_
 intro H0 F0
 unfold FY at hF
 refine aY ?_
 refine bnd hF fun r1 hx2 hF=>bD (Ut hx2) (fun _=>?_)
 refine bg ?_
 refine bnd hF fun r4 hx5 hF=>bD (Ut hx5) (fun _=>?_)
 refine bB ?_
 refine Ci hF (fun abV hF=>?_) (fun abV hF=>?_)
 · refine bg ?_
   refine Ci hF (fun hb7 hF=>?_) (fun hb7 hF=>?_)
   · exact ze hF
   exact ze hF
 refine aY ?_
 refine Ci hF (fun ayq hF=>?_) (fun ayq hF=>?_)
 · exact ze hF
 refine bH ?_
 refine Ci hF (fun hb9 hF=>?_) (fun hb9 hF=>?_)
 · exact ze hF
 refine bH ?_
 refine Ci hF (fun hb8 hF=>?_) (fun hb8 hF=>?_)
 · exact ze hF
 exact ze hF
def Dc(jZ:List Int)(kC:List Int):List Int->Nat->Option (Int)
 |[],k4=>if (decide (((jZ.length:Int):Int)<(kC.length:Int)))then (
     some (-1))
   else (
     some 0)
 |x6::aM,k4=>if (decide (((kC.length:Int):Int)<=(k4:Int)))then (
     some 1)
   else (
     (ix kC (k4:Int)).bind fun nT=>
     (FY x6 nT).bind fun kX=>
     if ((kX:Int)!=0)then (
       some kX)
     else (
       Dc jZ kC aM (k4+1)))
def Kw(jZ:List Int)(kC:List Int):Option (Int):=
 Dc jZ kC jZ 0
theorem adC{jZ:List Int}{ae:Sv}{kC:List Int}{ax:Sv}{R:Int}(hF:Kw jZ kC=some R):
   Fw.Spec Tryz.prog 119 [ae.v,ax.v] [ah ae jZ,ah ax kC] (fun _:Unit=>(zi R)) (fun _=>[]):=by
 refine Se 36 Tryz.func119 [.tmp 4] ?_
 intro H0 F0
 unfold Kw at hF
 refine gB ?_
 refine bi (bT (m:=jZ.length) (fun m2 f' cs'=>∃(g:Fr)(k4:Nat)(aM:List Int),m2=aM.length/\f'=aQ g [(0,ae.v),(1,ax.v),(9,ae.v),(10,(zi (jZ.length:Int))),(11,(zi (k4:Int)))]/\List.drop k4 jZ=aM/\aN cs' [ah ae jZ,ah ax kC]/\Dc jZ kC aM k4=some R) ⟨_,0,_,rfl,aA,rfl,ay,hF⟩ ?_)
 rintro m2 _ _ ⟨g3,k4,aM,rfl,rfl,hd7,hE,hF⟩
 refine Kb hE jZ (fun kT=>?_)
 rcases aM with _|⟨x6,aM⟩
 · have gF:=dn hd7
   rw[Dc]at hF
   refine bg ?_
   refine dJ ?_
   refine EE ?_
   refine Ci hF (fun ayr hF=>?_) (fun ayr hF=>?_)
   · exact ze hF
   exact ze hF
 obtain⟨gF,bY,gD⟩:=dz hd7
 rw[Dc]at hF
 refine bg ?_
 refine dI ?_
 refine bg ?_
 refine Ai bY (fun k14 Ty=>?_)
 refine Al dN ?_
 refine ky ?_
 refine Ci hF (fun Je hF=>?_) (fun Je hF=>?_)
 · exact ze hF
 refine bg ?_
 refine zI hF fun nT MM kM hF=>?_
 refine Ai kM (fun k20 CZ=>?_)
 refine Al dN ?_
 refine aY ?_
 refine bnd hF fun kX sW hF=>bD (YI sW) (fun _=>?_)
 refine bB ?_
 refine Ci hF (fun Cy hF=>?_) (fun Cy hF=>?_)
 · exact ze hF
 refine aY ?_
 rw[wk k4]
 exact⟨_,bX _,_,k4+1,aM,rfl,aA,gD,ay,hF⟩
def Kz:List Int->Nat->Option (Int)
 |[],k4=>some 0
 |x6::aM,k4=>if ((x6:Int)!=0)then (
     some x6)
   else (
     Kz aM (k4+1))
def KP(BK:List Int):Option (Int):=
 Kz BK 0
theorem aeB{BK:List Int}{ae:Sv}{R:Int}(hF:KP BK=some R):
   Fw.Spec Tryz.prog 117 [ae.v] [ah ae BK] (fun _:Unit=>(zi R)) (fun _=>[]):=by
 refine Se 18 Tryz.func117 [.tmp 2] ?_
 intro H0 F0
 unfold KP at hF
 refine EE ?_
 refine bi (bT (m:=BK.length) (fun m2 f' cs'=>∃(g:Fr)(k4:Nat)(aM:List Int),m2=aM.length/\f'=aQ g [(3,(zi 0)),(6,ae.v),(7,(zi (BK.length:Int))),(8,(zi (k4:Int)))]/\List.drop k4 BK=aM/\aN cs' [ah ae BK]/\Kz aM k4=some R) ⟨_,0,_,rfl,aA,rfl,ay,hF⟩ ?_)
 rintro m2 _ _ ⟨g3,k4,aM,rfl,rfl,hd7,hE,hF⟩
 refine Kb hE BK (fun kT=>?_)
 rcases aM with _|⟨x6,aM⟩
 · have gF:=dn hd7
   rw[Kz]at hF
   refine bg ?_
   refine dJ ?_
   exact ze hF
 obtain⟨gF,bY,gD⟩:=dz hd7
 rw[Kz]at hF
 refine bg ?_
 refine dI ?_
 refine bu ?_
 refine Ai bY (fun k13 oz=>?_)
 refine Al dN ?_
 refine bH ?_
 refine Ci hF (fun Cs hF=>?_) (fun Cs hF=>?_)
 · exact ze hF
 refine aY ?_
 rw[wk k4]
 exact⟨_,bX _,_,k4+1,aM,rfl,aA,gD,ay,hF⟩
def Dy(aB:Fact)(aR:Fact):Option (Int):=
 (FY aB.Rel aR.Rel).bind fun r3=>
 (Kw aB.Values aR.Values).bind fun r6=>
 (KP ([r3,r6]:List Int)).bind fun lS=>
 some lS
theorem Uv{aB:Fact}{aO:Sv}{aR:Fact}{aV:Sv}{R:Int}(hF:Dy aB aR=some R):
   Fw.Spec Tryz.prog 64 [(zg [(zi aB.Rel),aO.v]),(zg [(zi aR.Rel),aV.v])] [ah aO aB.Values,ah aV aR.Values] (fun _:Unit=>(zi R)) (fun _=>[]):=by
 refine Se 17 Tryz.func64 [.tmp 4] ?_
 intro H0 F0
 unfold Dy at hF
 refine au ?_
 refine bN (fun k1=>?_)
 refine bN (fun k2=>?_)
 refine aT ?_
 refine dS [0,1,2,3,5,6,7,8,4,9,10,11,12] [0,1,0,4,15,0,32,0,128,511,1023,2047,4095] [4,9,11] mixed (by decide+kernel) ?_
 refine abR ?_
 refine bnd hF fun r3 hx4 hF=>eZ (YI hx4) (fun _=>?_)
 refine bnd hF fun r6 hx7 hF=>eZ (adC hx7) (fun _=>?_)
 refine iq rfl .no rfl (fun ha=>bO (g:=true) (len:=2) (parts:=[(0,.tmp 9),(1,.tmp 14)]) dh.h dx.h (.cons (EN ha (.tmp rfl rfl) rfl) (.cons (EN ha (.tmp rfl rfl) rfl) .nil)) (vs:=[(zi r3),(zi r6)]) rfl rfl rfl (by intro v hv; simp at hv; rcases hv with rfl|rfl<;>rfl)) (fun k9=>?_)
 refine iR (.cons .h .nil) (bQ (Ro:=(aC az)) (E:=3) (F:=([]++([]++[]))) (xs:=([r3,r6]:List Int)) (d_ (jh (fun _=>rfl)) (d_ (jh (fun _=>rfl)) bP cK) cK) rfl rfl) ?_
 refine bnd hF fun lS kW hF=>cO rfl rfl .no (.cons .h .nil) (.dep rfl .nil) (fun ha=>jT aG (fun _=>.nil) (bU aig.h (.cons (EN ha (.tmp rfl rfl) rfl) .nil) (@aeB ([r3,r6]:List Int) (⟨(some ⟨k9,0,none⟩),2,1⟩) _ kW))) (fun _=>?_)
 refine bR ?_
 exact ze hF
def Ah(ag:List Int)(ai:List Fact):List Fact->Nat->Option (Bool)
 |[],k4=>((Eh ag).bind fun fI=>
     bif fI then (some (decide (((ai.length:Int):Int)<=24)))
     else (some false)).bind fun ma=>
   match ma with
   |c19=>some c19
 |x6::aM,k4=>((PD ag x6).bind fun wh=>
     bif (!wh)then (some true)
     else (bif (decide ((0:Int)<(k4:Int)))then ((ix ai (IntKind.i64.wrap ((k4:Int)-1))).bind fun x32=>
         (Dy x32 x6).bind fun vY=>
         some (decide ((0:Int)<=vY)))
       else (some false))).bind fun FK=>
   match FK with
   |vZ=>if vZ then (
       some false)
     else (
       Ah ag ai aM (k4+1))
def O7(ag:List Int)(ai:List Fact):Option (Bool):=
 Ah ag ai ai 0
theorem ae_{ag:List Int}{ae:Sv}{ai:List Fact}{ax:Sv}{R:Bool}(hF:O7 ag ai=some R):
   Fw.Spec Tryz.prog 111 [ae.v,ax.v] [ah ae ag,bG ax ai] (fun _:Unit=>(.bool R)) (fun _=>[]):=by
 refine Se 40 Tryz.func111 [.tmp 4] ?_
 intro H0 F0
 unfold O7 at hF
 refine gB ?_
 refine bi (bT (m:=ai.length) (fun m2 f' cs'=>∃(g:Fr)(k4:Nat)(aM:List Fact),m2=aM.length/\f'=aQ g [(0,ae.v),(1,ax.v),(7,ax.v),(8,(zi (ai.length:Int))),(9,(zi (k4:Int)))]/\List.drop k4 ai=aM/\aN cs' [ah ae ag,bG ax ai]/\Ah ag ai aM k4=some R) ⟨_,0,_,rfl,aA,rfl,ay,hF⟩ ?_)
 rintro m2 _ _ ⟨g3,k4,aM,rfl,rfl,hd7,hE,hF⟩
 refine Kb hE ai (fun kT=>?_)
 rcases aM with _|⟨x6,aM⟩
 · have gF:=dn hd7
   rw[Ah]at hF
   refine bg ?_
   refine dJ ?_
   refine bg ?_
   obtain⟨ma,uQ,vo⟩:=bind_some hF
   refine au ?_
   refine eX (fun f' cs'=>∃(c19:Bool)(g:Fr),c19=ma/\f'=aQ g [(4,(.bool c19))]/\aN cs' []) ?_ ?_
   · replace hF:=uQ
     refine au ?_
     refine bnd hF fun fI hx16 hF=>bD (UL hx16) (fun _=>?_)
     refine au ?_
     rcases bE fI with jq|jq
     · rw[jq]
       try rw[jq]at hF; dsimp only[aJ,aI]at hF
       exact bJ hF
     rw[jq]
     try rw[jq]at hF; dsimp only[aJ,aI]at hF
     exact bJ hF
   rintro _ _ ⟨c19,g20,rfl,rfl,hE⟩
   replace hF:=vo
   try dsimp only at hF
   refine bq hE ?_
   exact ze hF
 obtain⟨gF,bY,gD⟩:=dz hd7
 rw[Ah]at hF
 refine bg ?_
 refine dI ?_
 refine bg ?_
 refine Ai bY (fun k21 Nn=>?_)
 refine mX (lU x6) mf (fun oO=>?_)
 refine dX (fun k24=>?_)
 refine au ?_
 refine As (zg [(zi x6.Rel),oO.v]) ?_
 refine au ?_
 obtain⟨FK,aaL,Rn⟩:=bind_some hF
 refine dS [0,1,2,3,4,5,6,7,8,9,10,11,12,13,14,15,16,17] [0,0,3,7,15,31,63,127,255,255,767,2047,4095,255,16383,32767,65535,131071] [2,14] mixed (by decide+kernel) ?_
 refine kS (fun f' cs'=>∃(vZ:Bool)(g:Fr),vZ=FK/\f'=aQ g [(0,ae.v),(1,ax.v),(7,ax.v),(8,(zi (ai.length:Int))),(9,(zi (k4:Int))),(31,(.bool vZ))]/\aN cs' [ah ae ag,bG ax ai]) ?_ ?_
 · replace hF:=aaL
   refine du ?_
   refine dM rfl .no .h (fun ha hp=>h_ u7.h dZ.h.sz rfl (EN ha (.tmp rfl rfl) rfl) hp.2 rfl) ?_
   refine bnd hF fun wh hx28 hF=>eZ (anV hx28) (fun _=>?_)
   refine bR ?_
   rcases bE (!wh)with xZ|xZ
   · rw[xZ]
     try rw[xZ]at hF; dsimp only[aJ,aI]at hF
     exact eu hF
   rw[xZ]
   try rw[xZ]at hF; dsimp only[aJ,aI]at hF
   refine dm ?_
   rcases bE (decide ((0:Int)<(k4:Int)))with SS|SS
   · rw[SS]
     try rw[SS]at hF; dsimp only[aJ,aI]at hF
     refine dm ?_
     refine zI hF fun x32 ays x_ hF=>?_
     refine Di x_ (fun ny TM=>?_)
     refine jP (lU x32) mf (fun p38=>?_)
     refine dM rfl (.on 21 rfl rfl rfl) .q2 (fun ha hp=>h_ u7.h dZ.h.sz rfl (EN ha (.tmp rfl rfl) rfl) hp.2 rfl) ?_
     refine bnd hF fun vY tq hF=>eZ (Uv tq) (fun _=>?_)
     exact eu hF
   rw[SS]
   try rw[SS]at hF; dsimp only[aJ,aI]at hF
   exact eu hF
 rintro _ _ ⟨vZ,g45,rfl,rfl,hE⟩
 replace hF:=Rn
 try dsimp only at hF
 refine bq hE ?_
 refine Ci hF (fun I9 hF=>?_) (fun I9 hF=>?_)
 · exact ze hF
 refine aY ?_
 rw[wk k4]
 exact⟨_,bX _,_,k4+1,aM,rfl,aA,gD,ay,hF⟩
def O8(ag:List Int)(aS:Source):Option (Bool):=
 ((O7 ag aS.Facts).bind fun r4=>
   bif r4 then ((oQ aS.Version 0 1000).bind fun r8=>
     some r8)
   else (some false)).bind fun o2=>
 match o2 with
 |c11=>some c11
theorem am0{ag:List Int}{ae:Sv}{aS:Source}{ax:Sv}{R:Bool}(hF:O8 ag aS=some R):
   Fw.Spec Tryz.prog 55 [ae.v,(zg [ax.v,(zi aS.Version)])] [ah ae ag,bG ax aS.Facts] (fun _:Unit=>(.bool R)) (fun _=>[]):=by
 refine Se 14 Tryz.func55 [.tmp 4] ?_
 intro H0 F0
 unfold O8 at hF
 refine au ?_
 refine bN (fun k1=>?_)
 refine aT ?_
 obtain⟨o2,fU,hO3⟩:=bind_some hF
 refine au ?_
 refine eX (fun f' cs'=>∃(c11:Bool)(g:Fr),c11=o2/\f'=aQ g [(4,(.bool c11))]/\aN cs' []) ?_ ?_
 · replace hF:=fU
   refine bu ?_
   refine bnd hF fun r4 hx5 hF=>bD (ae_ hx5) (fun _=>?_)
   refine au ?_
   rcases bE r4 with bn|bn
   · rw[bn]
     try rw[bn]at hF; dsimp only[aJ,aI]at hF
     refine aY ?_
     refine bnd hF fun r8 bY hF=>bD (su bY) (fun _=>?_)
     exact bJ hF
   rw[bn]
   try rw[bn]at hF; dsimp only[aJ,aI]at hF
   exact bJ hF
 rintro _ _ ⟨c11,g12,rfl,rfl,hE⟩
 replace hF:=hO3
 try dsimp only at hF
 refine bq hE ?_
 exact ze hF
def K_(ag:List Int)(ai:List Method)(aB:Access):Option (Bool):=
 ((Hd ag ai).bind fun r4=>
   bif r4 then ((oQ aB.Method 0 (IntKind.i64.wrap ((ai.length:Int)-1))).bind fun r8=>
     bif r8 then ((ix ai aB.Method).bind fun nU=>
       bif (((aB.Values.length:Int):Int)==(nU.Inputs.length:Int))then ((KZ aB.Values).bind fun jM=>
         some jM)
       else (some false))
     else (some false))
   else (some false)).bind fun o2=>
 match o2 with
 |c23=>some c23
theorem ae'{ag:List Int}{ae:Sv}{ai:List Method}{ax:Sv}{aB:Access}{dH:Sv}{R:Bool}(hF:K_ ag ai aB=some R):
   Fw.Spec Tryz.prog 59 [ae.v,ax.v,(zg [(zi aB.Method),dH.v])] [ah ae ag,bV ax ai,ah dH aB.Values] (fun _:Unit=>(.bool R)) (fun _=>[]):=by
 refine Se 36 Tryz.func59 [.tmp 6] ?_
 intro H0 F0
 unfold K_ at hF
 refine au ?_
 refine bN (fun k1=>?_)
 refine aT ?_
 obtain⟨o2,fU,hO3⟩:=bind_some hF
 refine dS [0,1,2,3,4,5,6,7,8,9,10,11,12,13,14,15,16,17,18,19,20,21,22,23,24,25,26,27,28,29] [0,0,3,7,15,31,15,79,207,511,1023,2047,4095,8191,16383,4095,4095,69631,233471,495615,1019903,2068479,4194303,8388607,16777215,33554431,67108863,134217727,268435455,536870911] [2,9,27] mixed (by decide+kernel) ?_
 refine kS (fun f' cs'=>∃(c23:Bool)(g:Fr),c23=o2/\f'=aQ g [(6,(.bool c23))]/\aN cs' []) ?_ ?_
 · replace hF:=fU
   refine bR ?_
   refine bnd hF fun r4 hx5 hF=>eZ (YR hx5) (fun _=>?_)
   refine du ?_
   rcases bE r4 with bn|bn
   · rw[bn]
     try rw[bn]at hF; dsimp only[aJ,aI]at hF
     refine sV ?_
     refine bnd hF fun r8 bY hF=>eZ (su bY) (fun _=>?_)
     refine bR ?_
     rcases bE r8 with dQ|dQ
     · rw[dQ]
       try rw[dQ]at hF; dsimp only[aJ,aI]at hF
       refine wK ?_
       refine zI hF fun nU Re kz hF=>?_
       refine Di kz (fun k16 JE=>?_)
       refine du ?_
       refine n_ (R':=(aD 3 az)) iA.h rfl (.on 18 rfl rfl rfl) (.tmp rfl rfl) rfl .h PT (fun w18=>?_)
       refine nQ ?_
       rcases bE (((aB.Values.length:Int):Int)==(nU.Inputs.length:Int))with iK|iK
       · rw[iK]
         try rw[iK]at hF; dsimp only[aJ,aI]at hF
         refine bR ?_
         refine bnd hF fun jM lv hF=>eZ (aeT lv) (fun _=>?_)
         exact eu hF
       rw[iK]
       try rw[iK]at hF; dsimp only[aJ,aI]at hF
       exact eu hF
     rw[dQ]
     try rw[dQ]at hF; dsimp only[aJ,aI]at hF
     exact eu hF
   rw[bn]
   try rw[bn]at hF; dsimp only[aJ,aI]at hF
   exact eu hF
 rintro _ _ ⟨c23,g24,rfl,rfl,hE⟩
 replace hF:=hO3
 try dsimp only at hF
 refine bq hE ?_
 exact ze hF
def Ky(ag:List Int):Option ((List Int)):=
 (app ([]:List Int) ag).bind fun z5=>
 some z5
theorem adD{ag:List Int}{ae:Sv}{R:(List Int)}(hF:Ky ag=some R):
   Fw.Spec Tryz.prog 68 [ae.v] [ah ae ag] (fun p:Sv×List Nat=>p.1.v) (fun p=>[bI p.2 p.1 R]):=by
 refine Se 8 Tryz.func68 [.tmp 2] ?_
 intro H0 F0
 unfold Ky at hF
 refine bB ?_
 refine aph (xs:=ag) dh.h (.tmp rfl rfl) .h aoW (fun bn1 hn2=>?_)
 refine au ?_
 refine Cc (fun hb3=>?_) (fun hb3=>?_)
 · have hnil:=hn2 hb3
   replace hF:some []=some R:=by rw[hnil]at hF; simpa[app]using hF
   refine bg ?_
   cases hF
   exact gQ (⟨none,0,0⟩,[]) (.tmp rfl rfl .nil) rfl (.conv .nil (gT (Ro:=(aC az)) (E:=3)) (.cons .nil) (.sel (.cons .h .nil)))
 refine aT ?_
 refine dF rfl (bO (g:=true) dh.h dx.h .nil (vs:=[]) rfl rfl rfl (by simp)) (fun k4=>?_)
 refine dP (.cons .h .nil) (bQ (Ro:=(aC az)) (E:=3) (F:=[]) (xs:=([]:List Int)) bP rfl rfl) ?_
 refine au ?_
 refine bnd hF fun z5 hx6 hF=>ed (.cons .h (.rd .h rfl .nil)) (dV (Ro:=(aC az)) dh.h iQ dx.h rfl rfl rfl (.tmp rfl rfl) (.tmp rfl rfl) hx6 mg) (fun p7=>?_)
 refine bu ?_
 cases hF
 exact Er (p7.1,p7.2)
def Ic(bF:Fact):Option (Fact):=
 (Ky bF.Values).bind fun r3=>
 some (⟨bF.Rel,r3⟩:Fact)
theorem Y9{bF:Fact}{aO:Sv}{R:Fact}(hF:Ic bF=some R):
   Fw.Spec Tryz.prog 121 [(zg [(zi bF.Rel),aO.v])] [ah aO bF.Values] (fun p:Sv×List Nat=>(zg [(zi R.Rel),p.1.v])) (fun p=>[bI p.2 p.1 R.Values]):=by
 refine Se 9 Tryz.func121 [.cell 2 70] ?_
 intro H0 F0
 unfold Ic at hF
 refine au ?_
 refine bN (fun k1=>?_)
 refine dX (fun k2=>?_)
 refine au ?_
 refine dS [0,1,2,3,4,5,6] [0,1,0,4,12,31,63] [4,6] mixed (by decide+kernel) ?_
 refine nQ ?_
 refine bnd hF fun r3 hx4 hF=>qw (adD hx4) (fun p5=>?_)
 refine bW rfl .no (fun ha=>iB dZ.h rfl (vs:=[(zi bF.Rel),p5.1.v]) (.cons (EN ha (.tmp rfl rfl) rfl) (.cons (EN ha (.tmp rfl rfl) rfl) .nil)) (cells:=[(zi bF.Rel),p5.1.v]) rfl) ?_
 refine cO rfl rfl .no (.cons (.t .h) .nil) .nil (fun ha=>gz (e':=(zg [(zi bF.Rel),p5.1.v])) (v:=(zg [(zi bF.Rel),p5.1.v])) dZ.h.sz (EN ha (.tmp rfl rfl) rfl) (EN ha (.tmp rfl rfl) rfl) rfl rfl rfl rfl rfl) (fun _=>?_)
 refine du ?_
 refine au ?_
 cases hF
 exact Er (p5.1,p5.2)
def Gw:List Fact->Nat->(List Fact)->Option ((List Fact))
 |[],k8,c2=>some c2
 |eU::fq,k8,c2=>(Ic eU).bind fun oD=>
   (app c2 ([oD]:List Fact)).bind fun z25=>
   Gw fq (k8+1) z25
def UZ(ai:List Fact):Option ((List Fact)):=
 Gw ai 0 ([]:List Fact)
theorem amr{ai:List Fact}{ae:Sv}{R:(List Fact)}(hF:UZ ai=some R):
   Fw.Spec Tryz.prog 66 [ae.v] [bG ae ai] (fun p:Sv×List Nat=>p.1.v) (fun p=>[eG p.2 p.1 R]):=by
 refine Se 20 Tryz.func66 [.tmp 2] ?_
 intro H0 F0
 unfold UZ at hF
 refine bg ?_
 refine dF rfl (bO (g:=true) fH.h dZ.h .nil (vs:=[]) rfl rfl rfl (by simp)) (fun k1=>?_)
 refine dP (.cons .h .nil) (bQ (Ro:=gN) (E:=70) (F:=[]) (xs:=([]:List Fact)) bP rfl rfl) ?_
 refine dL ?_
 refine bi (bT (m:=ai.length) (fun m6 f' cs'=>∃(g:Fr)(k8:Nat)(fq c2:List Fact)(v3:Sv)(F4:List Nat),m6=fq.length/\f'=aQ g [(3,v3.v),(7,ae.v),(8,(zi (ai.length:Int))),(9,(zi (k8:Int)))]/\List.drop k8 ai=fq/\aN cs' [eG F4 v3 c2,bG ae ai]/\Gw fq k8 c2=some R) ⟨_,0,_,_,⟨(some ⟨k1,0,none⟩),0,1⟩,(k1::[]),rfl,aA,rfl,ay,hF⟩ ?_)
 rintro m6 _ _ ⟨g7,k8,fq,c2,v3,F4,rfl,rfl,jY,hE,hF⟩
 refine Kb hE ai (fun Mc=>?_)
 rcases fq with _|⟨eU,fq⟩
 · have vg:=dn jY
   rw[Gw]at hF
   refine bg ?_
   refine dJ ?_
   refine gB ?_
   cases hF
   exact Er (v3,F4)
 obtain⟨vg,iH,rT⟩:=dz jY
 rw[Gw]at hF
 refine bg ?_
 refine dI ?_
 refine bu ?_
 refine Ai iH (fun k17 JC=>?_)
 refine mX (lU eU) mf (fun p19=>?_)
 refine dX (fun k20=>?_)
 refine As (zg [(zi eU.Rel),p19.v]) ?_
 refine bg ?_
 refine bnd hF fun oD sZ hF=>gy (Y9 sZ) (fun oO=>?_)
 refine dF rfl (bO (g:=true) fH.h dZ.h b_ (vs:=[(zg [(zi oD.Rel),oO.1.v])]) rfl rfl rfl (by intro v hv; simp at hv; rcases hv with rfl<;>rfl)) (fun k24=>?_)
 refine dP (.cons .h (.cons .h .nil)) (bQ (Ro:=gN) (E:=70) (F:=(oO.2++[])) (xs:=([oD]:List Fact)) (d_ xR bP cK) rfl rfl) ?_
 refine bnd hF fun z25 nE hF=>ed (.cons .q4 (.cons .h .nil)) (dV (Ro:=gN) fH.h xS dZ.h rfl rfl rfl (.tmp rfl rfl) (.tmp rfl rfl) nE fw) (fun p27=>?_)
 refine bB ?_
 rw[wk k8]
 exact⟨_,bX _,_,k8+1,fq,_,p27.1,p27.2,rfl,aA,rT,ay,hF⟩
def Gx(bF:Fact)(iX:Access):List Int->Nat->Option (Bool)
 |[],k5=>some false
 |x7::eH,k5=>(ix bF.Values x7).bind fun nT=>
   (ix iX.Values (k5:Int)).bind fun jX=>
   if ((nT:Int)!=jX)then (
     some true)
   else (
     Gx bF iX eH (k5+1))
def xg(bF:Fact)(aj:Method)(iX:Access):Option (Bool):=
 if ((bF.Rel:Int)!=aj.Rel)then (
   some true)
 else (
   Gx bF iX aj.Inputs 0)
theorem aeU{bF:Fact}{aO:Sv}{bS:Nat}{aj:Method}{dU:Sv}{nX:Nat}{iX:Access}{oI:Sv}{R:Bool}(hF:xg bF aj iX=some R):
   Fw.Spec Tryz.prog 67 [(zg [(zi bF.Rel),aO.v]),(pz bS),(pz nX)] [ah aO bF.Values,aX bS 57 (zg [(zi aj.Rel),dU.v,(zi aj.Limit),(zi aj.Cost),(zi aj.Quota)]),ah dU aj.Inputs,aX nX 45 (zg [(zi iX.Method),oI.v]),ah oI iX.Values] (fun _:Unit=>(.bool R)) (fun _=>[]):=by
 refine Se 32 Tryz.func67 [.tmp 4] ?_
 intro H0 F0
 unfold xg at hF
 refine au ?_
 refine bN (fun k1=>?_)
 refine ky ?_
 refine Ci hF (fun Ja hF=>?_) (fun Ja hF=>?_)
 · exact ze hF
 refine dL ?_
 refine bi (bT (m:=aj.Inputs.length) (fun m3 f' cs'=>∃(g:Fr)(k5:Nat)(eH:List Int),m3=eH.length/\f'=aQ g [(2,(pz nX)),(3,(pz k1)),(13,dU.v),(14,(zi (aj.Inputs.length:Int))),(15,(zi (k5:Int)))]/\List.drop k5 aj.Inputs=eH/\aN cs' [aX nX 45 (zg [(zi iX.Method),oI.v]),ah oI iX.Values,aX k1 70 (zg [(zi bF.Rel),aO.v]),ah aO bF.Values,ah dU aj.Inputs]/\Gx bF iX eH k5=some R) ⟨_,0,_,rfl,aA,rfl,ay,hF⟩ ?_)
 rintro m3 _ _ ⟨g4,k5,eH,rfl,rfl,nJ,hE,hF⟩
 refine Kb hE aj.Inputs (fun IP=>?_)
 rcases eH with _|⟨x7,eH⟩
 · have tT:=dn nJ
   rw[Gx]at hF
   refine bg ?_
   refine dJ ?_
   exact ze hF
 obtain⟨tT,jm,jY⟩:=dz nJ
 rw[Gx]at hF
 refine bg ?_
 refine dI ?_
 refine bg ?_
 refine Ai jm (fun k14 Ty=>?_)
 refine Al dN ?_
 refine bu ?_
 refine dS [0,1,2,3,4,5,6,7,8,9,10] [0,1,0,7,15,0,32,0,224,480,1023] [] mixed (by decide+kernel) ?_
 refine dm ?_
 refine zI hF fun nT MM kM hF=>?_
 refine Di kM (fun k20 CZ=>?_)
 refine Dl dN ?_
 refine dm ?_
 refine zI hF fun jX acC hx25 hF=>?_
 refine Di hx25 (fun k26 TH=>?_)
 refine Dl dN ?_
 refine bR ?_
 refine Ci hF (fun Cz hF=>?_) (fun Cz hF=>?_)
 · exact ze hF
 refine aY ?_
 rw[wk k5]
 exact⟨_,bX _,_,k5+1,eH,rfl,aA,jY,ay,hF⟩
def Kk(aj:Method)(iX:Access):List Fact->Nat->Option (Int)
 |[],k4=>some (-1)
 |x6::aM,k4=>(xg x6 aj iX).bind fun r16=>
   if r16 then (
     some (k4:Int))
   else (
     Kk aj iX aM (k4+1))
def YG(ag:List Fact)(aj:Method)(iX:Access):Option (Int):=
 Kk aj iX ag 0
theorem akP{ag:List Fact}{ae:Sv}{bS:Nat}{aj:Method}{dU:Sv}{nX:Nat}{iX:Access}{oI:Sv}{R:Int}(hF:YG ag aj iX=some R):
   Fw.Spec Tryz.prog 120 [ae.v,(.func (.func 67) [].toArray [(pz bS),(pz nX)].toArray)] [bG ae ag,aX bS 57 (zg [(zi aj.Rel),dU.v,(zi aj.Limit),(zi aj.Cost),(zi aj.Quota)]),ah dU aj.Inputs,aX nX 45 (zg [(zi iX.Method),oI.v]),ah oI iX.Values] (fun _:Unit=>(zi R)) (fun _=>[]):=by
 refine Se 19 Tryz.func120 [.tmp 4] ?_
 intro H0 F0
 unfold YG at hF
 refine gB ?_
 refine bi (bT (m:=ag.length) (fun m2 f' cs'=>∃(g:Fr)(k4:Nat)(aM:List Fact),m2=aM.length/\f'=aQ g [(0,ae.v),(1,(.func (.func 67) [].toArray [(pz bS),(pz nX)].toArray)),(7,(zi (ag.length:Int))),(8,(zi (k4:Int)))]/\List.drop k4 ag=aM/\aN cs' [bG ae ag,aX bS 57 (zg [(zi aj.Rel),dU.v,(zi aj.Limit),(zi aj.Cost),(zi aj.Quota)]),ah dU aj.Inputs,aX nX 45 (zg [(zi iX.Method),oI.v]),ah oI iX.Values]/\Kk aj iX aM k4=some R) ⟨_,0,_,rfl,aA,rfl,ay,hF⟩ ?_)
 rintro m2 _ _ ⟨g3,k4,aM,rfl,rfl,hd7,hE,hF⟩
 refine Kb hE ag (fun kT=>?_)
 rcases aM with _|⟨x6,aM⟩
 · have gF:=dn hd7
   rw[Kk]at hF
   refine bg ?_
   refine dJ ?_
   exact ze hF
 obtain⟨gF,bY,gD⟩:=dz hd7
 rw[Kk]at hF
 refine bg ?_
 refine dI ?_
 refine ky ?_
 refine Ai bY (fun k13 oz=>?_)
 refine mX (lU x6) mf (fun ni=>?_)
 refine bnd hF fun r16 jF hF=>lZ (.rd .h rfl (.rd .q3 rfl (.rd .q4 rfl (.rd .q5 rfl (.rd .q6 rfl .nil))))) (qD ajl.h (.tmp rfl rfl) b_ (aeU jF)) (fun _=>?_)
 refine au ?_
 refine Ci hF (fun nD hF=>?_) (fun nD hF=>?_)
 · exact ze hF
 refine aY ?_
 rw[wk k4]
 exact⟨_,bX _,_,k4+1,aM,rfl,aA,gD,ay,hF⟩
def Uh(ag:List Fact)(aj:Method)(iX:Access):Option (List Fact):=
 MF (fun aK=>xg aK aj iX) ag
theorem akN(qs:List (Value×Fact))(v:Sv)(F:List Nat)(bS:Nat)(aj:Method)(dU:Sv)(nX:Nat)(iX:Access)(oI:Sv)(p:Value×Fact->Bool)(hcl:∀q∈qs,xg q.2 aj iX=some (p q))(hidx:YG (qs.map Prod.snd) aj iX=some (mZ p qs 0))(hbd:qs.length<4611686018427387904):
   Fw.Spec Tryz.prog 65 [v.v,(.func (.func 67) [].toArray [(.pointer (some ⟨bS,0,some 0⟩)),(.pointer (some ⟨nX,0,some 0⟩))].toArray)] [aU (aF 70 (aC (rq mI))) F v.v qs,aX bS 57 (.agg [(.int .i64 aj.Rel),dU.v,(.int .i64 aj.Limit),(.int .i64 aj.Cost),(.int .i64 aj.Quota)].toArray),bC (aD 3 az) dU.v aj.Inputs,aX nX 45 (.agg [(.int .i64 iX.Method),oI.v].toArray),bC (aD 3 az) oI.v iX.Values] (fun q:Sv×List Nat=>q.1.v) (fun q=>[aU (aF 70 (aC (rq mI))) q.2 q.1.v (qs.filter fun a=>!p a)]):=by
 refine HY (n:=42) Tryz.func65 rfl rfl (rs:=[.tmp 4]) rfl rfl rfl ?_
 intro H0 F0
 refine dY ?_
 refine aP (jU (v:=(.slice none 0 0)) EV.nilSlice) ?_
 refine eT ?_
 refine dY ?_
 refine aP (fu (v:=v.v) (.tmp rfl rfl)) ?_
 refine aP (fu (v:=(.func (.func 67) [].toArray [(.pointer (some ⟨bS,0,some 0⟩)),(.pointer (some ⟨nX,0,some 0⟩))].toArray)) (.tmp rfl rfl)) ?_
 refine ed (.cons .h (.rd .h rfl (.rd (.t .h) rfl (.rd (.t (.t .h)) rfl (.rd (.t (.t (.t .h))) rfl .nil))))) (apf apW (fun _=>.nil) (iV (.rd (.t (.t (.t (.t .h)))) rfl (.rd .h rfl (.rd (.t .h) rfl (.rd (.t (.t .h)) rfl (.rd (.t (.t (.t .h))) rfl .nil))))) (bU aih.h (.cons (.tmp rfl rfl) (.cons (.tmp rfl rfl) .nil)) (@akP (qs.map Prod.snd) v bS aj dU nX iX oI _ hidx)))) (fun _=>?_)
 generalize hR:mZ p qs 0=R0
 refine aP (jU (v:=(.int .i64 R0)) (.tmp rfl rfl)) ?_
 refine eT ?_
 refine lX ?_
 refine dY ?_
 refine aP (fu (v:=(.int .i64 R0)) (.tmp rfl rfl)) ?_
 refine aP (BO (i:=R0) (j:=(-1)) (.tmp rfl rfl) (.int _ _)) ?_
 refine eT ?_
 refine nY (b:=(R0==(-1:Int))) (.tmp rfl rfl) (fun hb=>?_) (fun hb=>?_)
 · refine dY ?_
   refine aP (fu (v:=v.v) (.tmp rfl rfl)) ?_
   refine aP (jU (v:=v.v) (.tmp rfl rfl)) ?_
   refine eT ?_
   refine sN ?_
   have e:qs.filter (fun q=>!p q)=qs:=agX (k:=0) (by rw[hR]; simpa using hb)
   rw[e]
   exact gQ (v,F) (.tmp rfl rfl .nil) rfl (.sel (.cons .h .nil))
 refine rG ?_
 obtain⟨i0,hi0,hi1⟩:∃i:Nat,R0=(i:Int)/\i<qs.length:=by
   rcases agy p qs 0 with h|⟨i,h,hi⟩
   · rw[hR]at h; subst h; simp at hb
   · exact⟨i,by rw[←hR,h],by omega⟩
 subst hi0
 refine lX ?_
 refine dY ?_
 refine aP (fu (v:=(.int .i64 (i0:Int))) (.tmp rfl rfl)) ?_
 refine aP (qF (i:=(i0:Int)) (j:=1) (.tmp rfl rfl) (.int _ _)) ?_
 rw[show IntKind.i64.wrap ((i0:Int)+1)=((i0+1:Nat):Int)from by rw[eP (by omega) (by omega)]; rfl]
 refine aP (jU (v:=(.int .i64 ((i0+1:Nat):Int))) (.tmp rfl rfl)) ?_
 refine eT ?_
 refine bi ?_
 refine bT (m:=qs.length-(i0+1)) (fun m f' cs'=>∃(g:Fr)(cur:List (Value×Fact))(i j:Nat)(F':List Nat),m=qs.length-j/\f'=aQ g [(0,v.v),(1,(.func (.func 67) [].toArray [(.pointer (some ⟨bS,0,some 0⟩)),(.pointer (some ⟨nX,0,some 0⟩))].toArray)),(5,(.int .i64 (i:Int))),(6,(.int .i64 (j:Int)))]/\ut p qs cur i j/\aN cs' [aU (aF 70 (aC (rq mI))) F' v.v cur,aX bS 57 (.agg [(.int .i64 aj.Rel),dU.v,(.int .i64 aj.Limit),(.int .i64 aj.Cost),(.int .i64 aj.Quota)].toArray),bC (aD 3 az) dU.v aj.Inputs,aX nX 45 (.agg [(.int .i64 iX.Method),oI.v].toArray),bC (aD 3 az) oI.v iX.Values]) ⟨_,qs,i0,i0+1,F,rfl,(bZ.cons rfl (bZ.cons rfl (bZ.cons rfl (bZ.cons rfl (bZ.nil))))).eq,ut.init (by rw[hR]),.sel (.cons .h (.rd .h rfl (.rd (.t .h) rfl (.rd (.t (.t .h)) rfl (.rd (.t (.t (.t .h))) rfl .nil)))))⟩ ?_
 rintro m _ _ ⟨g,cur,i,j,F',rfl,rfl,hI,hE⟩
 refine bq hE ?_
 clear hE
 refine lX ?_
 refine dY ?_
 refine aP (fu (v:=(.int .i64 (j:Int))) (.tmp rfl rfl)) ?_
 refine aP (fu (v:=v.v) (.tmp rfl rfl)) ?_
 refine fo .h (fun hp=>sO (l:=cur.length) fH.h (.tmp rfl rfl) (Pw hp)) ?_
 refine aP (EB (i:=(j:Int)) (j:=(cur.length:Int)) (.tmp rfl rfl) (.tmp rfl rfl)) ?_
 refine eT ?_
 have hlen:=hI.len
 have hij:=hI.lt
 have hjl:=hI.le
 refine nY (b:=(decide ((j:Int)<(cur.length:Int)))) (.tmp rfl rfl) (fun hb2=>?_) (fun hb2=>?_)
 · refine rG ?_
   have hj:j<qs.length:=by simp at hb2; omega
   obtain⟨x,hx1,hx2⟩:=hI.at hj
   refine Vr ?_
   refine dY ?_
   refine aP (fu (v:=v.v) (.tmp rfl rfl)) ?_
   refine aP (fu (v:=(.int .i64 (j:Int))) (.tmp rfl rfl)) ?_
   refine PN fH.h dZ.h.sz (.tmp rfl rfl) (.tmp rfl rfl) .h (by simp; omega) (fun k hk=>?_)
   refine apV (a:=x) (ul:=fun i:Sv=>[(.int .i64 x.2.Rel),i.v]) (cc:=fun i=>[bC (aD 3 az) i.v x.2.Values]) u7.h dZ.h.sz rfl (.tmp rfl rfl) .h hk (by simpa using hx1) (fun H e h=>by obtain⟨-,v0,h1,h0⟩:=h; exact⟨v0,h1,rfl,by simp[bC,h0]⟩) (fun w=>?_)
   refine dF rfl (sF (g:=true) dZ.h rfl rfl) (fun k1=>?_)
   refine ed (.cons .h .nil) (gz (e:=(.agg [(.int .i64 0),(.slice none 0 0)].toArray)) (e':=(.agg [(.int .i64 x.2.Rel),w.v].toArray)) (v:=(.agg [(.int .i64 x.2.Rel),w.v].toArray)) dZ.h.sz (.tmp rfl rfl) (.tmp rfl rfl) rfl rfl rfl rfl rfl) (fun _=>?_)
   refine eT ?_
   refine dY ?_
   refine aP (fu (v:=(.func (.func 67) [].toArray [(.pointer (some ⟨bS,0,some 0⟩)),(.pointer (some ⟨nX,0,some 0⟩))].toArray)) (.tmp rfl rfl)) ?_
   refine fo .h (fun hp=>h_ u7.h dZ.h.sz rfl (.tmp rfl rfl) hp.2 rfl) ?_
   refine lZ (.rd (.t (.t .h)) rfl (.rd (.t (.t (.t (.t .h)))) rfl (.rd (.t (.t (.t (.t (.t .h))))) rfl (.rd (.t (.t (.t (.t (.t (.t .h)))))) rfl (.rd (.t (.t (.t (.t (.t (.t (.t .h))))))) rfl .nil))))) (qD ajl.h (.tmp rfl rfl) (.cons (.tmp rfl rfl) .nil) (@aeU x.2 w bS aj dU nX iX oI _ (hcl x (List.mem_of_getElem? hx2)))) (fun _=>?_)
   refine aP (IG (b:=p x) (.tmp rfl rfl)) ?_
   refine eT ?_
   refine nY (b:=(!p x)) (.tmp rfl rfl) (fun hb3=>?_) (fun hb3=>?_)
   · refine dY ?_
     refine aP (fu (v:=v.v) (.tmp rfl rfl)) ?_
     refine aP (fu (v:=(.int .i64 (i:Int))) (.tmp rfl rfl)) ?_
     refine fo .h (fun hp=>h_ u7.h dZ.h.sz rfl (.tmp rfl rfl) hp.2 rfl) ?_
     have hii:(decide ((0:Int)<=(i:Int))&&decide ((i:Int)<(cur.length:Int)))=true:=by simp; omega
     refine PN fH.h dZ.h.sz (.tmp rfl rfl) (.tmp rfl rfl) (.t (.t (.t .h))) hii (fun k2 hk2=>?_)
     refine ed (.cons (.t (.t (.t .h))) (.rd (.t .h) rfl .nil)) (aoT (Ro:=aC (rq mI)) (a:=x) (i:=(i:Int)) dZ.h.sz rfl (.tmp rfl rfl) (.tmp rfl rfl) hk2 hii arB (fun _ _ _ _ h=>by obtain⟨-,-,v0,rfl,_⟩:=h; rfl)) (fun F2=>?_)
     refine eT ?_
     refine xh ?_
     refine aP (fu (v:=(.int .i64 (i:Int))) (.tmp rfl rfl)) ?_
     refine aP (qF (i:=(i:Int)) (j:=1) (.tmp rfl rfl) (.int _ _)) ?_
     rw[show IntKind.i64.wrap ((i:Int)+1)=((i+1:Nat):Int)from by rw[eP (by omega) (by omega)]; rfl]
     refine aP (jU (v:=(.int .i64 ((i+1:Nat):Int))) (.tmp rfl rfl)) ?_
     refine eT ?_
     refine xh ?_
     refine aP (fu (v:=(.int .i64 (j:Int))) (.tmp rfl rfl)) ?_
     refine aP (qF (i:=(j:Int)) (j:=1) (.tmp rfl rfl) (.int _ _)) ?_
     rw[show IntKind.i64.wrap ((j:Int)+1)=((j+1:Nat):Int)from by rw[eP (by omega) (by omega)]; rfl]
     refine aP (jU (v:=(.int .i64 ((j+1:Nat):Int))) (.tmp rfl rfl)) ?_
     refine eT ?_
     exact⟨_,by omega,_,cur.set i x,i+1,j+1,F2,rfl,(bZ.cons rfl (bZ.cons rfl (bZ.cons rfl (bZ.cons rfl (bZ.nil))))).eq,hI.no hx2 (by simpa using hb3),.sel (.cons .h (.rd (.t (.t (.t .h))) rfl (.rd (.t (.t (.t (.t .h)))) rfl (.rd (.t (.t (.t (.t (.t .h))))) rfl (.rd (.t (.t (.t (.t (.t (.t .h)))))) rfl .nil)))))⟩
   · refine rG ?_
     refine xh ?_
     refine aP (fu (v:=(.int .i64 (j:Int))) (.tmp rfl rfl)) ?_
     refine aP (qF (i:=(j:Int)) (j:=1) (.tmp rfl rfl) (.int _ _)) ?_
     rw[show IntKind.i64.wrap ((j:Int)+1)=((j+1:Nat):Int)from by rw[eP (by omega) (by omega)]; rfl]
     refine aP (jU (v:=(.int .i64 ((j+1:Nat):Int))) (.tmp rfl rfl)) ?_
     refine eT ?_
     exact⟨_,by omega,_,cur,i,j+1,F',rfl,(bZ.cons rfl (bZ.cons rfl (bZ.cons rfl (bZ.cons rfl (bZ.nil))))).eq,hI.yes hx2 (by simpa using hb3),.sel (.cons (.t (.t (.t .h))) (.rd (.t (.t (.t .h))) rfl (.rd (.t (.t (.t (.t .h)))) rfl (.rd (.t (.t (.t (.t (.t .h))))) rfl (.rd (.t (.t (.t (.t (.t (.t .h)))))) rfl .nil)))))⟩
 · refine PH ?_
   refine K5 ?_
   refine K5 ?_
   refine Pv ?_
   have hj:qs.length<=j:=by simp at hb2; omega
   refine PK .h (ZU (by intro e; rw[e]at hlen; simp at hlen; omega)) (fun hv=>?_)
   obtain⟨k0,m0,rfl,hm0⟩:=hv
   refine dY ?_
   refine aP (fu (v:=(.slice (some ⟨k0,0,none⟩) cur.length m0)) (.tmp rfl rfl)) ?_
   refine aP (fu (v:=(.int .i64 (i:Int))) (.tmp rfl rfl)) ?_
   refine aoE fH.h dZ.h.sz (.tmp rfl rfl) (.tmp rfl rfl) .h (by omega) (by omega) ?_
   refine ed (.cons .h .nil) (api (l:=cur.length) (m:=m0) (k:=k0) (i:=i) (j:=cur.length-i) fH.h dZ.h rfl rfl rfl rfl rfl (by omega) (.tmp rfl rfl)) (fun _=>?_)
   refine eT ?_
   refine dY ?_
   refine aP (fu (v:=(.slice (some ⟨k0,0,none⟩) cur.length m0)) (.tmp rfl rfl)) ?_
   refine aP (fu (v:=(.int .i64 (i:Int))) (.tmp rfl rfl)) ?_
   refine aoF fH.h dZ.h.sz (.tmp rfl rfl) hm0 (.tmp rfl rfl) .h rfl (by omega) (by omega) (by omega) ?_
   refine aP (jU (v:=(.slice (some ⟨k0,0,none⟩) i 2)) (.tmp rfl rfl)) ?_
   refine eT ?_
   refine sN ?_
   rw[←hI.fin hj]
   exact gQ (⟨some ⟨k0,0,none⟩,i,2⟩,F') (.tmp rfl rfl .nil) rfl (.sel (.cons .h .nil))
theorem akO{ag:List Fact}{ae:Sv}{wN:List Nat}{bS:Nat}{aj:Method}{dU:Sv}{nX:Nat}{iX:Access}{oI:Sv}{R:List Fact}(hF:Uh ag aj iX=some R):
   Fw.Spec Tryz.prog 65 [ae.v,(.func (.func 67) [].toArray [(.pointer (some ⟨bS,0,some 0⟩)),(.pointer (some ⟨nX,0,some 0⟩))].toArray)] [aU (aF 70 gN) wN ae.v ag,aX bS 57 (.agg [(.int .i64 aj.Rel),dU.v,(.int .i64 aj.Limit),(.int .i64 aj.Cost),(.int .i64 aj.Quota)].toArray),bC (aD 3 az) dU.v aj.Inputs,aX nX 45 (.agg [(.int .i64 iX.Method),oI.v].toArray),bC (aD 3 az) oI.v iX.Values] (fun p:Sv×List Nat=>p.1.v) (fun p=>[aU (aF 70 gN) p.2 p.1.v R]):=by
 unfold Uh at hF
 obtain⟨h1,h2⟩:=agx hF
 refine aoG an9 (fun hb=>?_)
 refine aoD (R:=mI) rfl (fun es F1 hel=>⟨(es.zip ag).filter (fun a=>!(xg a.2 aj iX).getD false),List.filter_sublist,by rw[h2]; exact aoa (fun a=>(xg a aj iX).getD false) es ag hel,?_⟩)
 refine akN (es.zip ag) ae F1 bS aj dU nX iX oI (fun a=>(xg a.2 aj iX).getD false) (fun q hq=>h1 q.2 (List.of_mem_zip hq).2) ?_ (by simp; omega)
 rw[List.map_snd_zip (Nat.le_of_eq hel.symm),←ahl Prod.snd (fun a=>(xg a aj iX).getD false),List.map_snd_zip (Nat.le_of_eq hel.symm)]
 exact rE (L:=Kk aj iX) (fun _=>rfl) (fun _ _ _=>rfl) ag 0 h1
def Lp(ai:List Method)(bM:List Fact)(aB:Access):Option ((List Fact)):=
 (ix ai aB.Method).bind fun x2=>
 (UZ bM).bind fun oN=>
 (Uh oN x2 aB).bind fun r16=>
 some r16
theorem afv{ai:List Method}{ae:Sv}{bM:List Fact}{ax:Sv}{aB:Access}{dH:Sv}{R:(List Fact)}(hF:Lp ai bM aB=some R):
   Fw.Spec Tryz.prog 28 [ae.v,ax.v,(zg [(zi aB.Method),dH.v])] [bV ae ai,bG ax bM,ah dH aB.Values] (fun p:Sv×List Nat=>p.1.v) (fun p=>[eG p.2 p.1 R]):=by
 refine Se 17 Tryz.func28 [.tmp 6] ?_
 intro H0 F0
 unfold Lp at hF
 refine au ?_
 refine bN (fun k1=>?_)
 refine bB ?_
 refine zI hF fun x2 hp4 hx5 hF=>?_
 refine Ai hx5 (fun k6 j7=>?_)
 refine mX (uf x2) uH (fun p8=>?_)
 refine dX (fun k9=>?_)
 refine As (zg [(zi x2.Rel),p8.v,(zi x2.Limit),(zi x2.Cost),(zi x2.Quota)]) ?_
 refine au ?_
 refine iD .h apb ?_
 refine aT ?_
 refine bnd hF fun oN j5 hF=>gy (amr j5) (fun ni=>?_)
 refine aP (wo (fn:=.func 67) (vs:=[]) (us:=[(pz k9),(pz k1)]) .nil b_) ?_
 refine bnd hF fun r16 jF hF=>gy (akO jF) (fun C9=>?_)
 refine bu ?_
 cases hF
 exact Er (C9.1,C9.2)
def LM(iN:Int):Option (Bool):=
 (oQ iN 0 10000).bind fun r1=>
 some r1
theorem Zm{iN:Int}{R:Bool}(hF:LM iN=some R):
   Fw.Spec Tryz.prog 57 [(zi iN)] [] (fun _:Unit=>(.bool R)) (fun _=>[]):=by
 refine Se 5 Tryz.func57 [.tmp 2] ?_
 intro H0 F0
 unfold LM at hF
 refine aY ?_
 refine bnd hF fun r1 hx2 hF=>bD (su hx2) (fun _=>?_)
 exact ze hF
def O9(ag:List Int)(ai:List Method)(aS:cB):Option (Bool):=
 ((K_ ag ai aS.Access).bind fun r4=>
   bif r4 then ((O7 ag aS.Facts).bind fun r8=>
     bif r8 then ((Lp ai aS.Facts aS.Access).bind fun dC=>
       bif (((dC.length:Int):Int)==(aS.Facts.length:Int))then ((LM aS.At).bind fun r16=>
         some r16)
       else (some false))
     else (some false))
   else (some false)).bind fun o2=>
 match o2 with
 |c19=>some c19
theorem am1{ag:List Int}{ae:Sv}{ai:List Method}{ax:Sv}{aS:cB}{dH tC:Sv}{R:Bool}(hF:O9 ag ai aS=some R):
   Fw.Spec Tryz.prog 112 [ae.v,ax.v,(zg [(zi aS.Access.Method),dH.v,tC.v,(zi aS.At)])] [ah ae ag,bV ax ai,ah dH aS.Access.Values,bG tC aS.Facts] (fun _:Unit=>(.bool R)) (fun _=>[]):=by
 refine Se 36 Tryz.func112 [.tmp 6] ?_
 intro H0 F0
 unfold O9 at hF
 refine au ?_
 refine bN (fun k1=>?_)
 refine aT ?_
 obtain⟨o2,fU,hO3⟩:=bind_some hF
 refine dS [0,1,2,3,4,5,6,7,8,9,10,11,12,13,14,15,16,19,20,21,17,18,22,23,24,25,26,27,28,29] [0,0,0,4,15,31,63,63,191,511,1023,2047,4095,4095,12287,4095,36863,131071,262143,4095,528383,1576959,4194303,8388607,16777215,33554431,67108863,134217727,268435455,536870911] [4,9,17,27] mixed (by decide+kernel) ?_
 refine kS (fun f' cs'=>∃(c19:Bool)(g:Fr),c19=o2/\f'=aQ g [(6,(.bool c19))]/\aN cs' []) ?_ ?_
 · replace hF:=fU
   refine dm ?_
   refine wJ rfl .no .h rfl (fun ha hp=>j3 (s:=2) (l:=[(zi aS.Access.Method),dH.v]) u_.h kr.h.sz (EN ha (.tmp rfl rfl) rfl) hp.2 rfl (by decide) (Nat.le_of_ble_eq_true rfl) rfl) ?_
   refine bnd hF fun r4 hx5 hF=>eZ (ae' hx5) (fun _=>?_)
   refine du ?_
   rcases bE r4 with bn|bn
   · rw[bn]
     try rw[bn]at hF; dsimp only[aJ,aI]at hF
     refine dm ?_
     refine bnd hF fun r8 bY hF=>eZ (ae_ bY) (fun _=>?_)
     refine bR ?_
     rcases bE r8 with dQ|dQ
     · rw[dQ]
       try rw[dQ]at hF; dsimp only[aJ,aI]at hF
       refine nQ ?_
       refine wJ rfl (.on 18 rfl rfl rfl) .h rfl (fun ha hp=>j3 (s:=2) (l:=[(zi aS.Access.Method),dH.v]) u_.h kr.h.sz (EN ha (.tmp rfl rfl) rfl) hp.2 rfl (by decide) (Nat.le_of_ble_eq_true rfl) rfl) ?_
       refine dm ?_
       refine bnd hF fun dC iH hF=>qw (afv iH) (fun l9=>?_)
       refine dM rfl (.on 18 rfl rfl rfl) .h (fun ha hp=>sO (l:=dC.length) fH.h (EN ha (.tmp rfl rfl) rfl) (Pw hp)) ?_
       refine dm ?_
       rcases bE (((dC.length:Int):Int)==(aS.Facts.length:Int))with jo|jo
       · rw[jo]
         try rw[jo]at hF; dsimp only[aJ,aI]at hF
         refine bR ?_
         refine bnd hF fun r16 jF hF=>eZ (Zm jF) (fun _=>?_)
         exact eu hF
       rw[jo]
       try rw[jo]at hF; dsimp only[aJ,aI]at hF
       exact eu hF
     rw[dQ]
     try rw[dQ]at hF; dsimp only[aJ,aI]at hF
     exact eu hF
   rw[bn]
   try rw[bn]at hF; dsimp only[aJ,aI]at hF
   exact eu hF
 rintro _ _ ⟨c19,g20,rfl,rfl,hE⟩
 replace hF:=hO3
 try dsimp only at hF
 refine bq hE ?_
 exact ze hF
def NQ(aB:Access)(aR:Access):Option (Int):=
 (FY aB.Method aR.Method).bind fun r3=>
 (Kw aB.Values aR.Values).bind fun r6=>
 (KP ([r3,r6]:List Int)).bind fun lS=>
 some lS
theorem alh{aB:Access}{aO:Sv}{aR:Access}{aV:Sv}{R:Int}(hF:NQ aB aR=some R):
   Fw.Spec Tryz.prog 113 [(zg [(zi aB.Method),aO.v]),(zg [(zi aR.Method),aV.v])] [ah aO aB.Values,ah aV aR.Values] (fun _:Unit=>(zi R)) (fun _=>[]):=by
 refine Se 17 Tryz.func113 [.tmp 4] ?_
 intro H0 F0
 unfold NQ at hF
 refine au ?_
 refine bN (fun k1=>?_)
 refine bN (fun k2=>?_)
 refine aT ?_
 refine dS [0,1,2,3,5,6,7,8,4,9,10,11,12] [0,1,0,4,15,0,32,0,128,511,1023,2047,4095] [4,9,11] mixed (by decide+kernel) ?_
 refine abR ?_
 refine bnd hF fun r3 hx4 hF=>eZ (YI hx4) (fun _=>?_)
 refine bnd hF fun r6 hx7 hF=>eZ (adC hx7) (fun _=>?_)
 refine iq rfl .no rfl (fun ha=>bO (g:=true) (len:=2) (parts:=[(0,.tmp 9),(1,.tmp 14)]) dh.h dx.h (.cons (EN ha (.tmp rfl rfl) rfl) (.cons (EN ha (.tmp rfl rfl) rfl) .nil)) (vs:=[(zi r3),(zi r6)]) rfl rfl rfl (by intro v hv; simp at hv; rcases hv with rfl|rfl<;>rfl)) (fun k9=>?_)
 refine iR (.cons .h .nil) (bQ (Ro:=(aC az)) (E:=3) (F:=([]++([]++[]))) (xs:=([r3,r6]:List Int)) (d_ (jh (fun _=>rfl)) (d_ (jh (fun _=>rfl)) bP cK) cK) rfl rfl) ?_
 refine bnd hF fun lS kW hF=>cO rfl rfl .no (.cons .h .nil) (.dep rfl .nil) (fun ha=>jT aG (fun _=>.nil) (bU aig.h (.cons (EN ha (.tmp rfl rfl) rfl) .nil) (@aeB ([r3,r6]:List Int) (⟨(some ⟨k9,0,none⟩),2,1⟩) _ kW))) (fun _=>?_)
 refine bR ?_
 exact ze hF
def Ao(ag:List Int)(ai:List Method)(ak:Cache):List cB->Nat->Option (Bool)
 |[],k5=>((Hd ag ai).bind fun r16=>
     bif r16 then ((oQ ak.Age 0 100).bind fun jM=>
       bif jM then (some (decide (((ak.Entries.length:Int):Int)<=100)))
       else (some false))
     else (some false)).bind fun y5=>
   match y5 with
   |c24=>some c24
 |x7::eH,k5=>((O9 ag ai x7).bind fun r32=>
     bif (!r32)then (some true)
     else (bif (decide ((0:Int)<(k5:Int)))then ((ix ak.Entries (IntKind.i64.wrap ((k5:Int)-1))).bind fun wU=>
         (NQ wU.Access x7.Access).bind fun jQ=>
         some (decide ((0:Int)<=jQ)))
       else (some false))).bind fun JM=>
   match JM with
   |kJ=>if kJ then (
       some false)
     else (
       Ao ag ai ak eH (k5+1))
def Vd(ag:List Int)(ai:List Method)(ak:Cache):Option (Bool):=
 Ao ag ai ak ak.Entries 0
theorem anA{ag:List Int}{ae:Sv}{ai:List Method}{ax:Sv}{ak:Cache}{bL:Sv}{R:Bool}(hF:Vd ag ai ak=some R):
   Fw.Spec Tryz.prog 56 [ae.v,ax.v,(zg [bL.v,(zi ak.Age)])] [ah ae ag,bV ax ai,dK bL ak.Entries] (fun _:Unit=>(.bool R)) (fun _=>[]):=by
 refine Se 54 Tryz.func56 [.tmp 6] ?_
 intro H0 F0
 unfold Vd at hF
 refine au ?_
 refine bN (fun k1=>?_)
 refine gB ?_
 refine bi (bT (m:=ak.Entries.length) (fun m3 f' cs'=>∃(g:Fr)(k5:Nat)(eH:List cB),m3=eH.length/\f'=aQ g [(0,ae.v),(1,ax.v),(5,(pz k1)),(10,bL.v),(11,(zi (ak.Entries.length:Int))),(12,(zi (k5:Int)))]/\List.drop k5 ak.Entries=eH/\aN cs' [ah ae ag,bV ax ai,aX k1 32 (zg [bL.v,(zi ak.Age)]),dK bL ak.Entries]/\Ao ag ai ak eH k5=some R) ⟨_,0,_,rfl,aA,rfl,ay,hF⟩ ?_)
 rintro m3 _ _ ⟨g4,k5,eH,rfl,rfl,nJ,hE,hF⟩
 refine Kb hE ak.Entries (fun IP=>?_)
 rcases eH with _|⟨x7,eH⟩
 · have tT:=dn nJ
   rw[Ao]at hF
   refine bg ?_
   refine dJ ?_
   refine bg ?_
   obtain⟨y5,Qo,R9⟩:=bind_some hF
   refine au ?_
   refine eX (fun f' cs'=>∃(c24:Bool)(g:Fr),c24=y5/\f'=aQ g [(6,(.bool c24))]/\aN cs' []) ?_ ?_
   · replace hF:=Qo
     refine aT ?_
     refine bnd hF fun r16 jF hF=>bD (YR jF) (fun _=>?_)
     refine au ?_
     rcases bE r16 with iK|iK
     · rw[iK]
       try rw[iK]at hF; dsimp only[aJ,aI]at hF
       refine aY ?_
       refine bnd hF fun jM lv hF=>bD (su lv) (fun _=>?_)
       refine aT ?_
       rcases bE jM with j6|j6
       · rw[j6]
         try rw[j6]at hF; dsimp only[aJ,aI]at hF
         exact bJ hF
       rw[j6]
       try rw[j6]at hF; dsimp only[aJ,aI]at hF
       exact bJ hF
     rw[iK]
     try rw[iK]at hF; dsimp only[aJ,aI]at hF
     exact bJ hF
   rintro _ _ ⟨c24,Tp,rfl,rfl,hE⟩
   replace hF:=R9
   try dsimp only at hF
   refine bq hE ?_
   exact ze hF
 obtain⟨tT,jm,jY⟩:=dz nJ
 rw[Ao]at hF
 refine bg ?_
 refine dI ?_
 refine bg ?_
 refine Ai jm (fun k26 TH=>?_)
 refine xO (wu x7) xk (fun p28=>?_)
 refine dX (fun si=>?_)
 refine au ?_
 refine As (zg [(zi x7.Access.Method),p28.1.v,p28.2.v,(zi x7.At)]) ?_
 refine au ?_
 obtain⟨JM,aaM,ack⟩:=bind_some hF
 refine dS [0,1,2,3,4,5,6,7,8,9,10,11,12,13,14,15,16,17,18,19,20,21] [0,0,0,7,15,31,63,127,255,511,1023,511,2559,8191,16383,32767,511,66047,262143,524287,1048575,2097151] [3,18] mixed (by decide+kernel) ?_
 refine kS (fun f' cs'=>∃(kJ:Bool)(g:Fr),kJ=JM/\f'=aQ g [(0,ae.v),(1,ax.v),(5,(pz k1)),(10,bL.v),(11,(zi (ak.Entries.length:Int))),(12,(zi (k5:Int))),(38,(.bool kJ))]/\aN cs' [ah ae ag,bV ax ai,aX k1 32 (zg [bL.v,(zi ak.Age)]),dK bL ak.Entries]) ?_ ?_
 · replace hF:=aaM
   refine bR ?_
   refine dM rfl .no .h (fun ha hp=>h_ awe.h qj.h.sz rfl (EN ha (.tmp rfl rfl) rfl) hp.2 rfl) ?_
   refine bnd hF fun r32 vv hF=>eZ (am1 vv) (fun _=>?_)
   refine bR ?_
   rcases bE (!r32)with SV|SV
   · rw[SV]
     try rw[SV]at hF; dsimp only[aJ,aI]at hF
     exact eu hF
   rw[SV]
   try rw[SV]at hF; dsimp only[aJ,aI]at hF
   refine dm ?_
   rcases bE (decide ((0:Int)<(k5:Int)))with qQ|qQ
   · rw[qQ]
     try rw[qQ]at hF; dsimp only[aJ,aI]at hF
     refine nQ ?_
     refine zI hF fun wU aw2 tq hF=>?_
     refine Di tq (fun wV j42=>?_)
     refine du ?_
     refine jP (Pj wU) Va (fun p43=>?_)
     refine du ?_
     refine dM rfl (.on 25 rfl rfl rfl) .q2 (fun ha hp=>j3 (s:=2) (l:=[(zi x7.Access.Method),p28.1.v]) u_.h kr.h.sz (EN ha (.tmp rfl rfl) rfl) hp.2 rfl (by decide) (Nat.le_of_ble_eq_true rfl) rfl) ?_
     refine bnd hF fun jQ vz hF=>eZ (alh vz) (fun _=>?_)
     exact eu hF
   rw[qQ]
   try rw[qQ]at hF; dsimp only[aJ,aI]at hF
   exact eu hF
 rintro _ _ ⟨kJ,g50,rfl,rfl,hE⟩
 replace hF:=ack
 try dsimp only at hF
 refine bq hE ?_
 refine Ci hF (fun ayt hF=>?_) (fun ayt hF=>?_)
 · exact ze hF
 refine aY ?_
 rw[wk k5]
 exact⟨_,bX _,_,k5+1,eH,rfl,aA,jY,ay,hF⟩
def NZ(aB:Access)(aj:aZ):Option (Bool):=
 (K_ aj.Schema aj.Methods aB).bind fun r2=>
 some (!r2)
theorem aly{aB:Access}{aO:Sv}{bS:Nat}{aj:aZ}{fF dU jb jc iW jd je iZ:Sv}{R:Bool}(hF:NZ aB aj=some R):
   Fw.Spec Tryz.prog 58 [(zg [(zi aB.Method),aO.v]),(pz bS)] [ah aO aB.Values,aX bS 36 (zg [fF.v,dU.v,jb.v,jc.v,(zi aj.Source.Version),iW.v,(zi aj.Cache.Age),(zi aj.Now),jd.v,je.v,(zi aj.Spent),iZ.v]),ah fF aj.Schema,bV dU aj.Methods,eY jb aj.Rules,bG jc aj.Source.Facts,dK iW aj.Cache.Entries,eD jd aj.Log,ah je aj.Times,bC (aD 152 (aD 24 (aD 3 az))) iZ.v aj.Results] (fun _:Unit=>(.bool R)) (fun _=>[]):=by
 refine Se 11 Tryz.func58 [.tmp 3] ?_
 intro H0 F0
 unfold NZ at hF
 refine au ?_
 refine bN (fun k1=>?_)
 refine dL ?_
 refine bnd hF fun r2 hx3 hF=>bD (ae' hx3) (fun _=>?_)
 exact ze hF
def Kc(aj:aZ):List Access->Nat->Option (Int)
 |[],k4=>some (-1)
 |x6::aM,k4=>(NZ x6 aj).bind fun r16=>
   if r16 then (
     some (k4:Int))
   else (
     Kc aj aM (k4+1))
def Uc(ag:List Access)(aj:aZ):Option (Int):=
 Kc aj ag 0
theorem akE{ag:List Access}{ae:Sv}{bS:Nat}{aj:aZ}{fF dU jb jc iW jd je iZ:Sv}{R:Int}(hF:Uc ag aj=some R):
   Fw.Spec Tryz.prog 80 [ae.v,(.func (.func 58) [].toArray [(pz bS)].toArray)] [eD ae ag,aX bS 36 (zg [fF.v,dU.v,jb.v,jc.v,(zi aj.Source.Version),iW.v,(zi aj.Cache.Age),(zi aj.Now),jd.v,je.v,(zi aj.Spent),iZ.v]),ah fF aj.Schema,bV dU aj.Methods,eY jb aj.Rules,bG jc aj.Source.Facts,dK iW aj.Cache.Entries,eD jd aj.Log,ah je aj.Times,bC (aD 152 (aD 24 (aD 3 az))) iZ.v aj.Results] (fun _:Unit=>(zi R)) (fun _=>[]):=by
 refine Se 19 Tryz.func80 [.tmp 4] ?_
 intro H0 F0
 unfold Uc at hF
 refine gB ?_
 refine bi (bT (m:=ag.length) (fun m2 f' cs'=>∃(g:Fr)(k4:Nat)(aM:List Access),m2=aM.length/\f'=aQ g [(0,ae.v),(1,(.func (.func 58) [].toArray [(pz bS)].toArray)),(7,(zi (ag.length:Int))),(8,(zi (k4:Int)))]/\List.drop k4 ag=aM/\aN cs' [eD ae ag,aX bS 36 (zg [fF.v,dU.v,jb.v,jc.v,(zi aj.Source.Version),iW.v,(zi aj.Cache.Age),(zi aj.Now),jd.v,je.v,(zi aj.Spent),iZ.v]),ah fF aj.Schema,bV dU aj.Methods,eY jb aj.Rules,bG jc aj.Source.Facts,dK iW aj.Cache.Entries,eD jd aj.Log,ah je aj.Times,bC (aD 152 (aD 24 (aD 3 az))) iZ.v aj.Results]/\Kc aj aM k4=some R) ⟨_,0,_,rfl,aA,rfl,ay,hF⟩ ?_)
 rintro m2 _ _ ⟨g3,k4,aM,rfl,rfl,hd7,hE,hF⟩
 refine Kb hE ag (fun kT=>?_)
 rcases aM with _|⟨x6,aM⟩
 · have gF:=dn hd7
   rw[Kc]at hF
   refine bg ?_
   refine dJ ?_
   exact ze hF
 obtain⟨gF,bY,gD⟩:=dz hd7
 rw[Kc]at hF
 refine bg ?_
 refine dI ?_
 refine ky ?_
 refine Ai bY (fun k13 oz=>?_)
 refine mX (xm x6) zb (fun ni=>?_)
 refine bnd hF fun r16 jF hF=>lZ (.rd .h rfl (.rd .q3 rfl (.rd .q4 rfl (.rd .q5 rfl (.rd .q6 rfl (.rd .q7 rfl (.rd .q8 rfl (.rd .q9 rfl (.rd .q10 rfl (.rd .q11 rfl .nil)))))))))) (qD awC.h (.tmp rfl rfl) b_ (aly jF)) (fun _=>?_)
 refine au ?_
 refine Ci hF (fun nD hF=>?_) (fun nD hF=>?_)
 · exact ze hF
 refine aY ?_
 rw[wk k4]
 exact⟨_,bX _,_,k4+1,aM,rfl,aA,gD,ay,hF⟩
def Nz(ag:List Access)(aj:aZ):Option (Bool):=
 (Uc ag aj).bind fun r1=>
 some (decide ((0:Int)<=r1))
theorem aku{ag:List Access}{ae:Sv}{bS:Nat}{aj:aZ}{fF dU jb jc iW jd je iZ:Sv}{R:Bool}(hF:Nz ag aj=some R):
   Fw.Spec Tryz.prog 36 [ae.v,(.func (.func 58) [].toArray [(pz bS)].toArray)] [eD ae ag,aX bS 36 (zg [fF.v,dU.v,jb.v,jc.v,(zi aj.Source.Version),iW.v,(zi aj.Cache.Age),(zi aj.Now),jd.v,je.v,(zi aj.Spent),iZ.v]),ah fF aj.Schema,bV dU aj.Methods,eY jb aj.Rules,bG jc aj.Source.Facts,dK iW aj.Cache.Entries,eD jd aj.Log,ah je aj.Times,bC (aD 152 (aD 24 (aD 3 az))) iZ.v aj.Results] (fun _:Unit=>(.bool R)) (fun _=>[]):=by
 refine Se 9 Tryz.func36 [.tmp 4] ?_
 intro H0 F0
 unfold Nz at hF
 refine bB ?_
 refine bnd hF fun r1 hx2 hF=>bD (akE hx2) (fun _=>?_)
 exact ze hF
def N7(aS:Int)(pY:Int):Option (Bool):=
 ((Dw aS).bind fun r3=>
   bif r3 then ((Dw pY).bind fun r7=>
     bif (!r7)then (some true)
     else (some (decide ((aS:Int)<pY))))
   else (some (decide ((aS:Int)<pY)))).bind fun o1=>
 match o1 with
 |c11=>some c11
theorem alz{aS pY:Int}{R:Bool}(hF:N7 aS pY=some R):
   Fw.Spec Tryz.prog 151 [(zi aS),(zi pY)] [] (fun _:Unit=>(.bool R)) (fun _=>[]):=by
 refine Se 17 Tryz.func151 [.tmp 4] ?_
 intro H0 F0
 unfold N7 at hF
 refine bu ?_
 obtain⟨o1,yx,hO2⟩:=bind_some hF
 refine au ?_
 refine eX (fun f' cs'=>∃(c11:Bool)(g:Fr),c11=o1/\f'=aQ g [(4,(.bool c11))]/\aN cs' []) ?_ ?_
 · replace hF:=yx
   refine au ?_
   refine bnd hF fun r3 hx4 hF=>bD (Ut hx4) (fun _=>?_)
   refine au ?_
   rcases bE r3 with kg|kg
   · rw[kg]
     try rw[kg]at hF; dsimp only[aJ,aI]at hF
     refine bu ?_
     refine bnd hF fun r7 tN hF=>bD (Ut tN) (fun _=>?_)
     refine bg ?_
     rcases bE (!r7)with qP|qP
     · rw[qP]
       try rw[qP]at hF; dsimp only[aJ,aI]at hF
       exact bJ hF
     rw[qP]
     try rw[qP]at hF; dsimp only[aJ,aI]at hF
     exact bJ hF
   rw[kg]
   try rw[kg]at hF; dsimp only[aJ,aI]at hF
   exact bJ hF
 rintro _ _ ⟨c11,g12,rfl,rfl,hE⟩
 replace hF:=hO2
 try dsimp only at hF
 refine bq hE ?_
 exact ze hF
def Db(aS:List Int):Nat->Int->Option (Bool)
 |0,_=>none
 |m2+1,c1=>if (decide ((0:Int)<c1))then (
     (ix aS c1).bind fun eU=>
     (ix aS (IntKind.i64.wrap (c1-1))).bind fun nT=>
     (N7 eU nT).bind fun kX=>
     if kX then (
       some false)
     else (
       Db aS m2 (IntKind.i64.wrap (c1-1))))
   else (
     some true)
def NL(aS:List Int):Option (Bool):=
 Db aS (((IntKind.i64.wrap ((aS.length:Int)-1))-0).toNat+2) (IntKind.i64.wrap ((aS.length:Int)-1))
theorem ak'{aS:List Int}{ae:Sv}{R:Bool}(hF:NL aS=some R):
   Fw.Spec Tryz.prog 115 [ae.v] [ah ae aS] (fun _:Unit=>(.bool R)) (fun _=>[]):=by
 refine Se 21 Tryz.func115 [.tmp 2] ?_
 intro H0 F0
 unfold NL at hF
 refine ky ?_
 refine bi (bT (m:=(((IntKind.i64.wrap ((aS.length:Int)-1))-0).toNat+2)) (fun m2 f' cs'=>∃(g:Fr)(c1:Int),f'=aQ g [(0,ae.v),(3,(zi c1))]/\aN cs' [ah ae aS]/\Db aS m2 c1=some R) ⟨_,_,aA,ay,hF⟩ ?_)
 rintro m2 _ _ ⟨g3,c1,rfl,hE,hF⟩
 refine bq hE ?_
 rcases m2 with _|m2
 · rw[Db]at hF
   exact absurd hF (by simp)
 rw[Db]at hF
 refine aY ?_
 refine Ci hF (fun Cy hF=>?_) (fun Cy hF=>?_)
 · refine aT ?_
   refine dS [0,1,2,3,4,5,6,7,8,9] [0,0,3,7,0,0,32,112,240,511] [9] mixed (by decide+kernel) ?_
   refine bR ?_
   refine zI hF fun eU aEo iH hF=>?_
   refine Di iH (fun k14 Ty=>?_)
   refine Dl dN ?_
   refine dm ?_
   refine zI hF fun nT MM kM hF=>?_
   refine Di kM (fun k20 CZ=>?_)
   refine Dl dN ?_
   refine bnd hF fun kX sW hF=>eZ (alz sW) (fun _=>?_)
   refine du ?_
   refine Ci hF (fun acQ hF=>?_) (fun acQ hF=>?_)
   · exact ze hF
   refine bB ?_
   exact⟨m2,bX _,_,_,aA,ay,hF⟩
 exact ze hF
def UV(iN:Int):Option (Bool):=
 (LM iN).bind fun r1=>
 some (!r1)
theorem al5{iN:Int}{R:Bool}(hF:UV iN=some R):
   Fw.Spec Tryz.prog 116 [(zi iN)] [] (fun _:Unit=>(.bool R)) (fun _=>[]):=by
 refine Se 6 Tryz.func116 [.tmp 2] ?_
 intro H0 F0
 unfold UV at hF
 refine aY ?_
 refine bnd hF fun r1 hx2 hF=>bD (Zm hx2) (fun _=>?_)
 exact ze hF
def Kt:List Int->Nat->Option (Int)
 |[],k4=>some (-1)
 |x6::aM,k4=>(UV x6).bind fun fI=>
   if fI then (
     some (k4:Int))
   else (
     Kt aM (k4+1))
def Uo(ag:List Int):Option (Int):=
 Kt ag 0
theorem ak8{ag:List Int}{ae:Sv}{R:Int}(hF:Uo ag=some R):
   Fw.Spec Tryz.prog 81 [ae.v,(.func (.func 116) [].toArray [].toArray)] [ah ae ag] (fun _:Unit=>(zi R)) (fun _=>[]):=by
 refine Se 19 Tryz.func81 [.tmp 4] ?_
 intro H0 F0
 unfold Uo at hF
 refine gB ?_
 refine bi (bT (m:=ag.length) (fun m2 f' cs'=>∃(g:Fr)(k4:Nat)(aM:List Int),m2=aM.length/\f'=aQ g [(0,ae.v),(1,(.func (.func 116) [].toArray [].toArray)),(7,(zi (ag.length:Int))),(8,(zi (k4:Int)))]/\List.drop k4 ag=aM/\aN cs' [ah ae ag]/\Kt aM k4=some R) ⟨_,0,_,rfl,aA,rfl,ay,hF⟩ ?_)
 rintro m2 _ _ ⟨g3,k4,aM,rfl,rfl,hd7,hE,hF⟩
 refine Kb hE ag (fun kT=>?_)
 rcases aM with _|⟨x6,aM⟩
 · have gF:=dn hd7
   rw[Kt]at hF
   refine bg ?_
   refine dJ ?_
   exact ze hF
 obtain⟨gF,bY,gD⟩:=dz hd7
 rw[Kt]at hF
 refine bg ?_
 refine dI ?_
 refine ky ?_
 refine Ai bY (fun k13 oz=>?_)
 refine Al dN ?_
 refine bnd hF fun fI hx16 hF=>lZ .nil (qD asU.h (.tmp rfl rfl) b_ (al5 hx16)) (fun _=>?_)
 refine au ?_
 refine Ci hF (fun vG hF=>?_) (fun vG hF=>?_)
 · exact ze hF
 refine aY ?_
 rw[wk k4]
 exact⟨_,bX _,_,k4+1,aM,rfl,aA,gD,ay,hF⟩
def NJ(ag:List Int):Option (Bool):=
 (Uo ag).bind fun r1=>
 some (decide ((0:Int)<=r1))
theorem ak0{ag:List Int}{ae:Sv}{R:Bool}(hF:NJ ag=some R):
   Fw.Spec Tryz.prog 38 [ae.v,(.func (.func 116) [].toArray [].toArray)] [ah ae ag] (fun _:Unit=>(.bool R)) (fun _=>[]):=by
 refine Se 9 Tryz.func38 [.tmp 4] ?_
 intro H0 F0
 unfold NJ at hF
 refine bB ?_
 refine bnd hF fun r1 hx2 hF=>bD (ak8 hx2) (fun _=>?_)
 exact ze hF
def O_(ai:List Int):Option (Bool):=
 ((NL ai).bind fun r3=>
   bif r3 then ((NJ ai).bind fun r7=>
     some (!r7))
   else (some false)).bind fun o1=>
 match o1 with
 |c10=>some c10
theorem am2{ai:List Int}{ae:Sv}{R:Bool}(hF:O_ ai=some R):
   Fw.Spec Tryz.prog 60 [ae.v] [ah ae ai] (fun _:Unit=>(.bool R)) (fun _=>[]):=by
 refine Se 10 Tryz.func60 [.tmp 2] ?_
 intro H0 F0
 unfold O_ at hF
 refine bu ?_
 obtain⟨o1,yx,hO2⟩:=bind_some hF
 refine au ?_
 refine eX (fun f' cs'=>∃(c10:Bool)(g:Fr),c10=o1/\f'=aQ g [(2,(.bool c10))]/\aN cs' []) ?_ ?_
 · replace hF:=yx
   refine au ?_
   refine bnd hF fun r3 hx4 hF=>bD (ak' hx4) (fun _=>?_)
   refine au ?_
   rcases bE r3 with kg|kg
   · rw[kg]
     try rw[kg]at hF; dsimp only[aJ,aI]at hF
     refine bu ?_
     refine bnd hF fun r7 tN hF=>bD (ak0 tN) (fun _=>?_)
     exact bJ hF
   rw[kg]
   try rw[kg]at hF; dsimp only[aJ,aI]at hF
   exact bJ hF
 rintro _ _ ⟨c10,g11,rfl,rfl,hE⟩
 replace hF:=hO2
 try dsimp only at hF
 refine bq hE ?_
 exact ze hF
def y_(aa:aZ):Option (Bool):=
 ((Hd aa.Schema aa.Methods).bind fun r4=>
   bif r4 then ((O6 aa.Schema aa.Rules).bind fun r8=>
     bif r8 then ((O8 aa.Schema aa.Source).bind fun dC=>
       bif dC then ((Vd aa.Schema aa.Methods aa.Cache).bind fun r16=>
         bif r16 then ((LM aa.Now).bind fun jM=>
           bif jM then (bif (decide (((aa.Log.length:Int):Int)<=1000))then ((Nz aa.Log aa).bind fun gV=>
               bif (!gV)then (bif (((aa.Times.length:Int):Int)==(aa.Log.length:Int))then ((O_ aa.Times).bind fun mQ=>
                   bif mQ then ((oQ aa.Spent 0 1000000).bind fun qy=>
                     bif qy then (some (decide (((aa.Results.length:Int):Int)<=100)))
                     else (some false))
                   else (some false))
                 else (some false))
               else (some false))
             else (some false))
           else (some false))
         else (some false))
       else (some false))
     else (some false))
   else (some false)).bind fun o2=>
 match o2 with
 |TS=>some TS
theorem KA{aa:aZ}{ae aO cu dA dw dB dE dG:Sv}{R:Bool}(hF:y_ aa=some R):
   Fw.Spec Tryz.prog 26 [(.agg [ae.v,aO.v,cu.v,dA.v,(.int .i64 aa.Source.Version),dw.v,(.int .i64 aa.Cache.Age),(.int .i64 aa.Now),dB.v,dE.v,(.int .i64 aa.Spent),dG.v].toArray)] [bC (aD 3 az) ae.v aa.Schema,bC (aD 57 qK) aO.v aa.Methods,bC (aD 98 Ck) cu.v aa.Rules,bC (aD 70 mI) dA.v aa.Source.Facts,bC (aD 47 oK) dw.v aa.Cache.Entries,bC (aD 45 qN) dB.v aa.Log,bC (aD 3 az) dE.v aa.Times,bC (aD 152 (aD 24 (aD 3 az))) dG.v aa.Results] (fun _:Unit=>(.bool R)) (fun _=>[]):=by
 refine HY (n:=74) Tryz.func26 rfl rfl (rs:=[.tmp 2]) rfl rfl rfl ?_
 intro H0 F0
 unfold y_ at hF
 refine dY (ahA rfl (aau (g:=false) (v:=(.agg [ae.v,aO.v,cu.v,dA.v,(.int .i64 aa.Source.Version),dw.v,(.int .i64 aa.Cache.Age),(.int .i64 aa.Now),dB.v,dE.v,(.int .i64 aa.Spent),dG.v].toArray)) fG.h.sz (.tmp rfl rfl) rfl) (fun k1=>?_))
 refine aP (jU (v:=(.bool false)) (.bool _)) ?_
 refine eT ?_
 obtain⟨o2,fU,hO3⟩:=bind_some hF
 refine dY (eX (fun f' cs'=>∃(TS:Bool)(g:Fr),TS=o2/\f'=aQ g [(2,(.bool TS))]/\aN cs' []) ?_ ?_)
 · replace hF:=fU
   refine aP (iY (off:=0) PR.h (.tmp rfl rfl)) ?_
   refine fo .h (fun hp=>fe (v:=ae.v) iA.h (.tmp rfl rfl) hp.2 rfl rfl) ?_
   refine aP (iY (off:=1) aam.h (.tmp rfl rfl)) ?_
   refine fo .h (fun hp=>fe (v:=aO.v) WU.h (.tmp rfl rfl) hp.2 rfl rfl) ?_
   obtain⟨r4,hx5,hF⟩:=bind_some hF
   refine lZ (.rd (.t .h) rfl (.rd (.t (.t .h)) rfl .nil)) (bU aws.h (.cons (.tmp rfl rfl) (.cons (.tmp rfl rfl) .nil)) (@YR aa.Schema ae aa.Methods aO _ hx5)) (fun _=>?_)
   refine Cm (.bool r4) rfl rfl ?_
   rcases Bool.eq_false_or_eq_true r4 with bn|bn
   · rw[bn]
     try rw[bn]at hF; dsimp only[cond_true,cond_false]at hF
     refine iJ (t:=8) rfl rfl rfl ?_
     refine aP (iY (off:=0) PR.h (.tmp rfl rfl)) ?_
     refine iJ (t:=8) rfl rfl rfl ?_
     refine fo .h (fun hp=>fe (v:=ae.v) iA.h (.tmp rfl rfl) hp.2 rfl rfl) ?_
     refine iJ (t:=8) rfl rfl rfl ?_
     refine aP (iY (off:=2) ap_.h (.tmp rfl rfl)) ?_
     refine iJ (t:=8) rfl rfl rfl ?_
     refine fo .h (fun hp=>fe (v:=cu.v) abM.h (.tmp rfl rfl) hp.2 rfl rfl) ?_
     refine iJ (t:=8) rfl rfl rfl ?_
     obtain⟨r8,bY,hF⟩:=bind_some hF
     refine lZ (.rd (.t .h) rfl (.rd (.t (.t (.t .h))) rfl .nil)) (bU awu.h (.cons (.tmp rfl rfl) (.cons (.tmp rfl rfl) .nil)) (@amZ aa.Schema ae aa.Rules cu _ bY)) (fun _=>?_)
     refine aP (dR (b:=true) (u:=(.bool r8)) (v:=(.bool false)) (.tmp rfl rfl) (.tmp rfl rfl) (.bool _)) ?_
     refine Cm (.bool r8) rfl rfl ?_
     rcases Bool.eq_false_or_eq_true r8 with dQ|dQ
     · rw[dQ]
       try rw[dQ]at hF; dsimp only[cond_true,cond_false]at hF
       refine iJ (t:=15) rfl rfl rfl ?_
       refine aP (iY (off:=0) PR.h (.tmp rfl rfl)) ?_
       refine iJ (t:=15) rfl rfl rfl ?_
       refine fo .h (fun hp=>fe (v:=ae.v) iA.h (.tmp rfl rfl) hp.2 rfl rfl) ?_
       refine iJ (t:=15) rfl rfl rfl ?_
       refine aP (iY (off:=3) ahG.h (.tmp rfl rfl)) ?_
       refine iJ (t:=15) rfl rfl rfl ?_
       refine fo .h (fun hp=>j3 (s:=2) (l:=[dA.v,(.int .i64 aa.Source.Version)]) xP.h u6.h.sz (.tmp rfl rfl) hp.2 rfl (by decide) (Nat.le_of_ble_eq_true rfl) rfl) ?_
       refine iJ (t:=15) rfl rfl rfl ?_
       obtain⟨dC,iH,hF⟩:=bind_some hF
       refine lZ (.rd (.t .h) rfl (.rd (.t (.t (.t (.t .h)))) rfl .nil)) (bU awv.h (.cons (.tmp rfl rfl) (.cons (.tmp rfl rfl) .nil)) (@am0 aa.Schema ae aa.Source dA _ iH)) (fun _=>?_)
       refine aP (dR (b:=true) (u:=(.bool dC)) (v:=(.bool false)) (.tmp rfl rfl) (.tmp rfl rfl) (.bool _)) ?_
       refine Cm (.bool dC) rfl rfl ?_
       rcases Bool.eq_false_or_eq_true dC with jo|jo
       · rw[jo]
         try rw[jo]at hF; dsimp only[cond_true,cond_false]at hF
         refine iJ (t:=22) rfl rfl rfl ?_
         refine aP (iY (off:=0) PR.h (.tmp rfl rfl)) ?_
         refine iJ (t:=22) rfl rfl rfl ?_
         refine fo .h (fun hp=>fe (v:=ae.v) iA.h (.tmp rfl rfl) hp.2 rfl rfl) ?_
         refine iJ (t:=22) rfl rfl rfl ?_
         refine aP (iY (off:=1) aam.h (.tmp rfl rfl)) ?_
         refine iJ (t:=22) rfl rfl rfl ?_
         refine fo .h (fun hp=>fe (v:=aO.v) WU.h (.tmp rfl rfl) hp.2 rfl rfl) ?_
         refine iJ (t:=22) rfl rfl rfl ?_
         refine aP (iY (off:=5) VK.h (.tmp rfl rfl)) ?_
         refine iJ (t:=22) rfl rfl rfl ?_
         refine fo .h (fun hp=>j3 (s:=2) (l:=[dw.v,(.int .i64 aa.Cache.Age)]) uu.h oL.h.sz (.tmp rfl rfl) hp.2 rfl (by decide) (Nat.le_of_ble_eq_true rfl) rfl) ?_
         refine iJ (t:=22) rfl rfl rfl ?_
         obtain⟨r16,jF,hF⟩:=bind_some hF
         refine lZ (.rd (.t .h) rfl (.rd (.t (.t .h)) rfl (.rd (.t (.t (.t (.t (.t .h))))) rfl .nil))) (bU aww.h (.cons (.tmp rfl rfl) (.cons (.tmp rfl rfl) (.cons (.tmp rfl rfl) .nil))) (@anA aa.Schema ae aa.Methods aO aa.Cache dw _ jF)) (fun _=>?_)
         refine aP (dR (b:=true) (u:=(.bool r16)) (v:=(.bool false)) (.tmp rfl rfl) (.tmp rfl rfl) (.bool _)) ?_
         refine Cm (.bool r16) rfl rfl ?_
         rcases Bool.eq_false_or_eq_true r16 with iK|iK
         · rw[iK]
           try rw[iK]at hF; dsimp only[cond_true,cond_false]at hF
           refine iJ (t:=31) rfl rfl rfl ?_
           refine aP (iY (off:=7) ap6.h (.tmp rfl rfl)) ?_
           refine iJ (t:=31) rfl rfl rfl ?_
           refine fo .h (fun hp=>fe (v:=(.int .i64 aa.Now)) pU.h (.tmp rfl rfl) hp.2 rfl rfl) ?_
           refine iJ (t:=31) rfl rfl rfl ?_
           obtain⟨jM,lv,hF⟩:=bind_some hF
           refine lZ .nil (bU awy.h (.cons (.tmp rfl rfl) .nil) (@Zm aa.Now _ lv)) (fun _=>?_)
           refine aP (dR (b:=true) (u:=(.bool jM)) (v:=(.bool false)) (.tmp rfl rfl) (.tmp rfl rfl) (.bool _)) ?_
           refine Cm (.bool jM) rfl rfl ?_
           rcases Bool.eq_false_or_eq_true jM with j6|j6
           · rw[j6]
             try rw[j6]at hF; dsimp only[cond_true,cond_false]at hF
             refine iJ (t:=36) rfl rfl rfl ?_
             refine aP (iY (off:=8) aak.h (.tmp rfl rfl)) ?_
             refine iJ (t:=36) rfl rfl rfl ?_
             refine fo .h (fun hp=>fe (v:=dB.v) MJ.h (.tmp rfl rfl) hp.2 rfl rfl) ?_
             refine iJ (t:=36) rfl rfl rfl ?_
             refine fo (.t (.t (.t (.t (.t (.t .h)))))) (fun hp=>sO (l:=aa.Log.length) pF.h (.tmp rfl rfl) (zm hp)) ?_
             refine iJ (t:=36) rfl rfl rfl ?_
             refine aP (VN (i:=(aa.Log.length:Int)) (j:=1000) (.tmp rfl rfl) (.int _ _)) ?_
             refine aP (dR (b:=true) (u:=(.bool (decide (((aa.Log.length:Int):Int)<=1000)))) (v:=(.bool false)) (.tmp rfl rfl) (.tmp rfl rfl) (.bool _)) ?_
             refine Cm (.bool (decide (((aa.Log.length:Int):Int)<=1000))) rfl rfl ?_
             rcases Bool.eq_false_or_eq_true (decide (((aa.Log.length:Int):Int)<=1000))with SX|SX
             · rw[SX]
               try rw[SX]at hF; dsimp only[cond_true,cond_false]at hF
               refine iJ (t:=42) rfl rfl rfl ?_
               refine aP (iY (off:=8) aak.h (.tmp rfl rfl)) ?_
               refine iJ (t:=42) rfl rfl rfl ?_
               refine fo .h (fun hp=>fe (v:=dB.v) MJ.h (.tmp rfl rfl) hp.2 rfl rfl) ?_
               refine iJ (t:=42) rfl rfl rfl ?_
               refine aP (wo (fn:=.func 58) (vs:=[]) (us:=[(.pointer (some ⟨k1,0,some 0⟩))]) .nil (.cons (.tmp rfl rfl) .nil)) ?_
               refine iJ (t:=42) rfl rfl rfl ?_
               obtain⟨gV,nE,hF⟩:=bind_some hF
               refine lZ (.rd (.t (.t (.t (.t (.t (.t .h)))))) rfl (.rd .h rfl (.rd (.t .h) rfl (.rd (.t (.t .h)) rfl (.rd (.t (.t (.t .h))) rfl (.rd (.t (.t (.t (.t .h)))) rfl (.rd (.t (.t (.t (.t (.t .h))))) rfl (.rd (.t (.t (.t (.t (.t (.t .h)))))) rfl (.rd (.t (.t (.t (.t (.t (.t (.t .h))))))) rfl (.rd (.t (.t (.t (.t (.t (.t (.t (.t .h)))))))) rfl .nil)))))))))) (bU awz.h (.cons (.tmp rfl rfl) (.cons (.tmp rfl rfl) .nil)) (@aku aa.Log dB k1 aa ae aO cu dA dw dB dE dG _ nE)) (fun _=>?_)
               refine iJ (t:=42) rfl rfl rfl ?_
               refine aP (IG (b:=gV) (.tmp rfl rfl)) ?_
               refine aP (dR (b:=true) (u:=(.bool (!gV))) (v:=(.bool false)) (.tmp rfl rfl) (.tmp rfl rfl) (.bool _)) ?_
               refine Cm (.bool (!gV)) rfl rfl ?_
               rcases Bool.eq_false_or_eq_true (!gV)with yL|yL
               · rw[yL]
                 try rw[yL]at hF; dsimp only[cond_true,cond_false]at hF
                 refine iJ (t:=49) rfl rfl rfl ?_
                 refine aP (iY (off:=9) ahH.h (.tmp rfl rfl)) ?_
                 refine iJ (t:=49) rfl rfl rfl ?_
                 refine fo .h (fun hp=>fe (v:=dE.v) iA.h (.tmp rfl rfl) hp.2 rfl rfl) ?_
                 refine iJ (t:=49) rfl rfl rfl ?_
                 refine fo (.t (.t (.t (.t (.t (.t (.t .h))))))) (fun hp=>sO (l:=aa.Times.length) dh.h (.tmp rfl rfl) (zm hp)) ?_
                 refine iJ (t:=49) rfl rfl rfl ?_
                 refine aP (iY (off:=8) aak.h (.tmp rfl rfl)) ?_
                 refine iJ (t:=49) rfl rfl rfl ?_
                 refine fo .h (fun hp=>fe (v:=dB.v) MJ.h (.tmp rfl rfl) hp.2 rfl rfl) ?_
                 refine iJ (t:=49) rfl rfl rfl ?_
                 refine fo (.t (.t (.t (.t (.t (.t .h)))))) (fun hp=>sO (l:=aa.Log.length) pF.h (.tmp rfl rfl) (zm hp)) ?_
                 refine iJ (t:=49) rfl rfl rfl ?_
                 refine aP (BO (i:=(aa.Times.length:Int)) (j:=(aa.Log.length:Int)) (.tmp rfl rfl) (.tmp rfl rfl)) ?_
                 refine aP (dR (b:=true) (u:=(.bool (((aa.Times.length:Int):Int)==(aa.Log.length:Int)))) (v:=(.bool false)) (.tmp rfl rfl) (.tmp rfl rfl) (.bool _)) ?_
                 refine Cm (.bool (((aa.Times.length:Int):Int)==(aa.Log.length:Int))) rfl rfl ?_
                 rcases Bool.eq_false_or_eq_true (((aa.Times.length:Int):Int)==(aa.Log.length:Int))with qO|qO
                 · rw[qO]
                   try rw[qO]at hF; dsimp only[cond_true,cond_false]at hF
                   refine iJ (t:=58) rfl rfl rfl ?_
                   refine aP (iY (off:=9) ahH.h (.tmp rfl rfl)) ?_
                   refine iJ (t:=58) rfl rfl rfl ?_
                   refine fo .h (fun hp=>fe (v:=dE.v) iA.h (.tmp rfl rfl) hp.2 rfl rfl) ?_
                   refine iJ (t:=58) rfl rfl rfl ?_
                   obtain⟨mQ,hx31,hF⟩:=bind_some hF
                   refine lZ (.rd (.t (.t (.t (.t (.t (.t (.t .h))))))) rfl .nil) (bU awD.h (.cons (.tmp rfl rfl) .nil) (@am2 aa.Times dE _ hx31)) (fun _=>?_)
                   refine aP (dR (b:=true) (u:=(.bool mQ)) (v:=(.bool false)) (.tmp rfl rfl) (.tmp rfl rfl) (.bool _)) ?_
                   refine Cm (.bool mQ) rfl rfl ?_
                   rcases Bool.eq_false_or_eq_true mQ with ru|ru
                   · rw[ru]
                     try rw[ru]at hF; dsimp only[cond_true,cond_false]at hF
                     refine iJ (t:=63) rfl rfl rfl ?_
                     refine aP (iY (off:=10) aal.h (.tmp rfl rfl)) ?_
                     refine iJ (t:=63) rfl rfl rfl ?_
                     refine fo .h (fun hp=>fe (v:=(.int .i64 aa.Spent)) pU.h (.tmp rfl rfl) hp.2 rfl rfl) ?_
                     refine iJ (t:=63) rfl rfl rfl ?_
                     obtain⟨qy,x_,hF⟩:=bind_some hF
                     refine lZ .nil (bU awt.h (.cons (.tmp rfl rfl) (.cons (.int _ _) (.cons (.int _ _) .nil))) (@su aa.Spent 0 1000000 _ x_)) (fun _=>?_)
                     refine aP (dR (b:=true) (u:=(.bool qy)) (v:=(.bool false)) (.tmp rfl rfl) (.tmp rfl rfl) (.bool _)) ?_
                     refine Cm (.bool qy) rfl rfl ?_
                     rcases Bool.eq_false_or_eq_true qy with SY|SY
                     · rw[SY]
                       try rw[SY]at hF; dsimp only[cond_true,cond_false]at hF
                       refine iJ (t:=68) rfl rfl rfl ?_
                       refine aP (iY (off:=11) ap'.h (.tmp rfl rfl)) ?_
                       refine iJ (t:=68) rfl rfl rfl ?_
                       refine fo .h (fun hp=>fe (v:=dG.v) ajf.h (.tmp rfl rfl) hp.2 rfl rfl) ?_
                       refine iJ (t:=68) rfl rfl rfl ?_
                       refine fo (.t (.t (.t (.t (.t (.t (.t (.t .h)))))))) (fun hp=>sO (l:=aa.Results.length) Q4.h (.tmp rfl rfl) (zm hp)) ?_
                       refine iJ (t:=68) rfl rfl rfl ?_
                       refine aP (VN (i:=(aa.Results.length:Int)) (j:=100) (.tmp rfl rfl) (.int _ _)) ?_
                       refine aP (dR (b:=true) (u:=(.bool (decide (((aa.Results.length:Int):Int)<=100)))) (v:=(.bool false)) (.tmp rfl rfl) (.tmp rfl rfl) (.bool _)) ?_
                       refine Ca (.bool (decide (((aa.Results.length:Int):Int)<=100))) rfl rfl ?_
                       refine eT ?_
                       obtain rfl:=Option.some.inj hF
                       exact⟨_,_,rfl,(bZ.cons rfl (bZ.nil)).eq,(.sel .nil)⟩
                     rw[SY]
                     try rw[SY]at hF; dsimp only[cond_true,cond_false]at hF
                     iterate 4 refine gP (t:=68) rfl rfl rfl ?_
                     refine aP (dR (b:=false) (u:=undef) (v:=(.bool false)) (.tmp rfl rfl) (.tmp rfl rfl) (.bool _)) ?_
                     refine Ca (.bool false) rfl rfl ?_
                     refine eT ?_
                     obtain rfl:=Option.some.inj hF
                     exact⟨_,_,rfl,(bZ.cons rfl (bZ.nil)).eq,(.sel .nil)⟩
                   rw[ru]
                   try rw[ru]at hF; dsimp only[cond_true,cond_false]at hF
                   iterate 3 refine gP (t:=63) rfl rfl rfl ?_
                   refine aP (dR (b:=false) (u:=undef) (v:=(.bool false)) (.tmp rfl rfl) (.tmp rfl rfl) (.bool _)) ?_
                   refine Cm (.bool false) rfl rfl ?_
                   iterate 4 refine gP (t:=68) rfl rfl rfl ?_
                   refine aP (dR (b:=false) (u:=undef) (v:=(.bool false)) (.tmp rfl rfl) (.tmp rfl rfl) (.bool _)) ?_
                   refine Ca (.bool false) rfl rfl ?_
                   refine eT ?_
                   obtain rfl:=Option.some.inj hF
                   exact⟨_,_,rfl,(bZ.cons rfl (bZ.nil)).eq,(.sel .nil)⟩
                 rw[qO]
                 try rw[qO]at hF; dsimp only[cond_true,cond_false]at hF
                 iterate 3 refine gP (t:=58) rfl rfl rfl ?_
                 refine aP (dR (b:=false) (u:=undef) (v:=(.bool false)) (.tmp rfl rfl) (.tmp rfl rfl) (.bool _)) ?_
                 refine Cm (.bool false) rfl rfl ?_
                 iterate 3 refine gP (t:=63) rfl rfl rfl ?_
                 refine aP (dR (b:=false) (u:=undef) (v:=(.bool false)) (.tmp rfl rfl) (.tmp rfl rfl) (.bool _)) ?_
                 refine Cm (.bool false) rfl rfl ?_
                 iterate 4 refine gP (t:=68) rfl rfl rfl ?_
                 refine aP (dR (b:=false) (u:=undef) (v:=(.bool false)) (.tmp rfl rfl) (.tmp rfl rfl) (.bool _)) ?_
                 refine Ca (.bool false) rfl rfl ?_
                 refine eT ?_
                 obtain rfl:=Option.some.inj hF
                 exact⟨_,_,rfl,(bZ.cons rfl (bZ.nil)).eq,(.sel .nil)⟩
               rw[yL]
               try rw[yL]at hF; dsimp only[cond_true,cond_false]at hF
               iterate 7 refine gP (t:=49) rfl rfl rfl ?_
               refine aP (dR (b:=false) (u:=undef) (v:=(.bool false)) (.tmp rfl rfl) (.tmp rfl rfl) (.bool _)) ?_
               refine Cm (.bool false) rfl rfl ?_
               iterate 3 refine gP (t:=58) rfl rfl rfl ?_
               refine aP (dR (b:=false) (u:=undef) (v:=(.bool false)) (.tmp rfl rfl) (.tmp rfl rfl) (.bool _)) ?_
               refine Cm (.bool false) rfl rfl ?_
               iterate 3 refine gP (t:=63) rfl rfl rfl ?_
               refine aP (dR (b:=false) (u:=undef) (v:=(.bool false)) (.tmp rfl rfl) (.tmp rfl rfl) (.bool _)) ?_
               refine Cm (.bool false) rfl rfl ?_
               iterate 4 refine gP (t:=68) rfl rfl rfl ?_
               refine aP (dR (b:=false) (u:=undef) (v:=(.bool false)) (.tmp rfl rfl) (.tmp rfl rfl) (.bool _)) ?_
               refine Ca (.bool false) rfl rfl ?_
               refine eT ?_
               obtain rfl:=Option.some.inj hF
               exact⟨_,_,rfl,(bZ.cons rfl (bZ.nil)).eq,(.sel .nil)⟩
             rw[SX]
             try rw[SX]at hF; dsimp only[cond_true,cond_false]at hF
             iterate 5 refine gP (t:=42) rfl rfl rfl ?_
             refine aP (dR (b:=false) (u:=undef) (v:=(.bool false)) (.tmp rfl rfl) (.tmp rfl rfl) (.bool _)) ?_
             refine Cm (.bool false) rfl rfl ?_
             iterate 7 refine gP (t:=49) rfl rfl rfl ?_
             refine aP (dR (b:=false) (u:=undef) (v:=(.bool false)) (.tmp rfl rfl) (.tmp rfl rfl) (.bool _)) ?_
             refine Cm (.bool false) rfl rfl ?_
             iterate 3 refine gP (t:=58) rfl rfl rfl ?_
             refine aP (dR (b:=false) (u:=undef) (v:=(.bool false)) (.tmp rfl rfl) (.tmp rfl rfl) (.bool _)) ?_
             refine Cm (.bool false) rfl rfl ?_
             iterate 3 refine gP (t:=63) rfl rfl rfl ?_
             refine aP (dR (b:=false) (u:=undef) (v:=(.bool false)) (.tmp rfl rfl) (.tmp rfl rfl) (.bool _)) ?_
             refine Cm (.bool false) rfl rfl ?_
             iterate 4 refine gP (t:=68) rfl rfl rfl ?_
             refine aP (dR (b:=false) (u:=undef) (v:=(.bool false)) (.tmp rfl rfl) (.tmp rfl rfl) (.bool _)) ?_
             refine Ca (.bool false) rfl rfl ?_
             refine eT ?_
             obtain rfl:=Option.some.inj hF
             exact⟨_,_,rfl,(bZ.cons rfl (bZ.nil)).eq,(.sel .nil)⟩
           rw[j6]
           try rw[j6]at hF; dsimp only[cond_true,cond_false]at hF
           iterate 4 refine gP (t:=36) rfl rfl rfl ?_
           refine aP (dR (b:=false) (u:=undef) (v:=(.bool false)) (.tmp rfl rfl) (.tmp rfl rfl) (.bool _)) ?_
           refine Cm (.bool false) rfl rfl ?_
           iterate 5 refine gP (t:=42) rfl rfl rfl ?_
           refine aP (dR (b:=false) (u:=undef) (v:=(.bool false)) (.tmp rfl rfl) (.tmp rfl rfl) (.bool _)) ?_
           refine Cm (.bool false) rfl rfl ?_
           iterate 7 refine gP (t:=49) rfl rfl rfl ?_
           refine aP (dR (b:=false) (u:=undef) (v:=(.bool false)) (.tmp rfl rfl) (.tmp rfl rfl) (.bool _)) ?_
           refine Cm (.bool false) rfl rfl ?_
           iterate 3 refine gP (t:=58) rfl rfl rfl ?_
           refine aP (dR (b:=false) (u:=undef) (v:=(.bool false)) (.tmp rfl rfl) (.tmp rfl rfl) (.bool _)) ?_
           refine Cm (.bool false) rfl rfl ?_
           iterate 3 refine gP (t:=63) rfl rfl rfl ?_
           refine aP (dR (b:=false) (u:=undef) (v:=(.bool false)) (.tmp rfl rfl) (.tmp rfl rfl) (.bool _)) ?_
           refine Cm (.bool false) rfl rfl ?_
           iterate 4 refine gP (t:=68) rfl rfl rfl ?_
           refine aP (dR (b:=false) (u:=undef) (v:=(.bool false)) (.tmp rfl rfl) (.tmp rfl rfl) (.bool _)) ?_
           refine Ca (.bool false) rfl rfl ?_
           refine eT ?_
           obtain rfl:=Option.some.inj hF
           exact⟨_,_,rfl,(bZ.cons rfl (bZ.nil)).eq,(.sel .nil)⟩
         rw[iK]
         try rw[iK]at hF; dsimp only[cond_true,cond_false]at hF
         iterate 3 refine gP (t:=31) rfl rfl rfl ?_
         refine aP (dR (b:=false) (u:=undef) (v:=(.bool false)) (.tmp rfl rfl) (.tmp rfl rfl) (.bool _)) ?_
         refine Cm (.bool false) rfl rfl ?_
         iterate 4 refine gP (t:=36) rfl rfl rfl ?_
         refine aP (dR (b:=false) (u:=undef) (v:=(.bool false)) (.tmp rfl rfl) (.tmp rfl rfl) (.bool _)) ?_
         refine Cm (.bool false) rfl rfl ?_
         iterate 5 refine gP (t:=42) rfl rfl rfl ?_
         refine aP (dR (b:=false) (u:=undef) (v:=(.bool false)) (.tmp rfl rfl) (.tmp rfl rfl) (.bool _)) ?_
         refine Cm (.bool false) rfl rfl ?_
         iterate 7 refine gP (t:=49) rfl rfl rfl ?_
         refine aP (dR (b:=false) (u:=undef) (v:=(.bool false)) (.tmp rfl rfl) (.tmp rfl rfl) (.bool _)) ?_
         refine Cm (.bool false) rfl rfl ?_
         iterate 3 refine gP (t:=58) rfl rfl rfl ?_
         refine aP (dR (b:=false) (u:=undef) (v:=(.bool false)) (.tmp rfl rfl) (.tmp rfl rfl) (.bool _)) ?_
         refine Cm (.bool false) rfl rfl ?_
         iterate 3 refine gP (t:=63) rfl rfl rfl ?_
         refine aP (dR (b:=false) (u:=undef) (v:=(.bool false)) (.tmp rfl rfl) (.tmp rfl rfl) (.bool _)) ?_
         refine Cm (.bool false) rfl rfl ?_
         iterate 4 refine gP (t:=68) rfl rfl rfl ?_
         refine aP (dR (b:=false) (u:=undef) (v:=(.bool false)) (.tmp rfl rfl) (.tmp rfl rfl) (.bool _)) ?_
         refine Ca (.bool false) rfl rfl ?_
         refine eT ?_
         obtain rfl:=Option.some.inj hF
         exact⟨_,_,rfl,(bZ.cons rfl (bZ.nil)).eq,(.sel .nil)⟩
       rw[jo]
       try rw[jo]at hF; dsimp only[cond_true,cond_false]at hF
       iterate 7 refine gP (t:=22) rfl rfl rfl ?_
       refine aP (dR (b:=false) (u:=undef) (v:=(.bool false)) (.tmp rfl rfl) (.tmp rfl rfl) (.bool _)) ?_
       refine Cm (.bool false) rfl rfl ?_
       iterate 3 refine gP (t:=31) rfl rfl rfl ?_
       refine aP (dR (b:=false) (u:=undef) (v:=(.bool false)) (.tmp rfl rfl) (.tmp rfl rfl) (.bool _)) ?_
       refine Cm (.bool false) rfl rfl ?_
       iterate 4 refine gP (t:=36) rfl rfl rfl ?_
       refine aP (dR (b:=false) (u:=undef) (v:=(.bool false)) (.tmp rfl rfl) (.tmp rfl rfl) (.bool _)) ?_
       refine Cm (.bool false) rfl rfl ?_
       iterate 5 refine gP (t:=42) rfl rfl rfl ?_
       refine aP (dR (b:=false) (u:=undef) (v:=(.bool false)) (.tmp rfl rfl) (.tmp rfl rfl) (.bool _)) ?_
       refine Cm (.bool false) rfl rfl ?_
       iterate 7 refine gP (t:=49) rfl rfl rfl ?_
       refine aP (dR (b:=false) (u:=undef) (v:=(.bool false)) (.tmp rfl rfl) (.tmp rfl rfl) (.bool _)) ?_
       refine Cm (.bool false) rfl rfl ?_
       iterate 3 refine gP (t:=58) rfl rfl rfl ?_
       refine aP (dR (b:=false) (u:=undef) (v:=(.bool false)) (.tmp rfl rfl) (.tmp rfl rfl) (.bool _)) ?_
       refine Cm (.bool false) rfl rfl ?_
       iterate 3 refine gP (t:=63) rfl rfl rfl ?_
       refine aP (dR (b:=false) (u:=undef) (v:=(.bool false)) (.tmp rfl rfl) (.tmp rfl rfl) (.bool _)) ?_
       refine Cm (.bool false) rfl rfl ?_
       iterate 4 refine gP (t:=68) rfl rfl rfl ?_
       refine aP (dR (b:=false) (u:=undef) (v:=(.bool false)) (.tmp rfl rfl) (.tmp rfl rfl) (.bool _)) ?_
       refine Ca (.bool false) rfl rfl ?_
       refine eT ?_
       obtain rfl:=Option.some.inj hF
       exact⟨_,_,rfl,(bZ.cons rfl (bZ.nil)).eq,(.sel .nil)⟩
     rw[dQ]
     try rw[dQ]at hF; dsimp only[cond_true,cond_false]at hF
     iterate 5 refine gP (t:=15) rfl rfl rfl ?_
     refine aP (dR (b:=false) (u:=undef) (v:=(.bool false)) (.tmp rfl rfl) (.tmp rfl rfl) (.bool _)) ?_
     refine Cm (.bool false) rfl rfl ?_
     iterate 7 refine gP (t:=22) rfl rfl rfl ?_
     refine aP (dR (b:=false) (u:=undef) (v:=(.bool false)) (.tmp rfl rfl) (.tmp rfl rfl) (.bool _)) ?_
     refine Cm (.bool false) rfl rfl ?_
     iterate 3 refine gP (t:=31) rfl rfl rfl ?_
     refine aP (dR (b:=false) (u:=undef) (v:=(.bool false)) (.tmp rfl rfl) (.tmp rfl rfl) (.bool _)) ?_
     refine Cm (.bool false) rfl rfl ?_
     iterate 4 refine gP (t:=36) rfl rfl rfl ?_
     refine aP (dR (b:=false) (u:=undef) (v:=(.bool false)) (.tmp rfl rfl) (.tmp rfl rfl) (.bool _)) ?_
     refine Cm (.bool false) rfl rfl ?_
     iterate 5 refine gP (t:=42) rfl rfl rfl ?_
     refine aP (dR (b:=false) (u:=undef) (v:=(.bool false)) (.tmp rfl rfl) (.tmp rfl rfl) (.bool _)) ?_
     refine Cm (.bool false) rfl rfl ?_
     iterate 7 refine gP (t:=49) rfl rfl rfl ?_
     refine aP (dR (b:=false) (u:=undef) (v:=(.bool false)) (.tmp rfl rfl) (.tmp rfl rfl) (.bool _)) ?_
     refine Cm (.bool false) rfl rfl ?_
     iterate 3 refine gP (t:=58) rfl rfl rfl ?_
     refine aP (dR (b:=false) (u:=undef) (v:=(.bool false)) (.tmp rfl rfl) (.tmp rfl rfl) (.bool _)) ?_
     refine Cm (.bool false) rfl rfl ?_
     iterate 3 refine gP (t:=63) rfl rfl rfl ?_
     refine aP (dR (b:=false) (u:=undef) (v:=(.bool false)) (.tmp rfl rfl) (.tmp rfl rfl) (.bool _)) ?_
     refine Cm (.bool false) rfl rfl ?_
     iterate 4 refine gP (t:=68) rfl rfl rfl ?_
     refine aP (dR (b:=false) (u:=undef) (v:=(.bool false)) (.tmp rfl rfl) (.tmp rfl rfl) (.bool _)) ?_
     refine Ca (.bool false) rfl rfl ?_
     refine eT ?_
     obtain rfl:=Option.some.inj hF
     exact⟨_,_,rfl,(bZ.cons rfl (bZ.nil)).eq,(.sel .nil)⟩
   rw[bn]
   try rw[bn]at hF; dsimp only[cond_true,cond_false]at hF
   iterate 5 refine gP (t:=8) rfl rfl rfl ?_
   refine aP (dR (b:=false) (u:=undef) (v:=(.bool false)) (.tmp rfl rfl) (.tmp rfl rfl) (.bool _)) ?_
   refine Cm (.bool false) rfl rfl ?_
   iterate 5 refine gP (t:=15) rfl rfl rfl ?_
   refine aP (dR (b:=false) (u:=undef) (v:=(.bool false)) (.tmp rfl rfl) (.tmp rfl rfl) (.bool _)) ?_
   refine Cm (.bool false) rfl rfl ?_
   iterate 7 refine gP (t:=22) rfl rfl rfl ?_
   refine aP (dR (b:=false) (u:=undef) (v:=(.bool false)) (.tmp rfl rfl) (.tmp rfl rfl) (.bool _)) ?_
   refine Cm (.bool false) rfl rfl ?_
   iterate 3 refine gP (t:=31) rfl rfl rfl ?_
   refine aP (dR (b:=false) (u:=undef) (v:=(.bool false)) (.tmp rfl rfl) (.tmp rfl rfl) (.bool _)) ?_
   refine Cm (.bool false) rfl rfl ?_
   iterate 4 refine gP (t:=36) rfl rfl rfl ?_
   refine aP (dR (b:=false) (u:=undef) (v:=(.bool false)) (.tmp rfl rfl) (.tmp rfl rfl) (.bool _)) ?_
   refine Cm (.bool false) rfl rfl ?_
   iterate 5 refine gP (t:=42) rfl rfl rfl ?_
   refine aP (dR (b:=false) (u:=undef) (v:=(.bool false)) (.tmp rfl rfl) (.tmp rfl rfl) (.bool _)) ?_
   refine Cm (.bool false) rfl rfl ?_
   iterate 7 refine gP (t:=49) rfl rfl rfl ?_
   refine aP (dR (b:=false) (u:=undef) (v:=(.bool false)) (.tmp rfl rfl) (.tmp rfl rfl) (.bool _)) ?_
   refine Cm (.bool false) rfl rfl ?_
   iterate 3 refine gP (t:=58) rfl rfl rfl ?_
   refine aP (dR (b:=false) (u:=undef) (v:=(.bool false)) (.tmp rfl rfl) (.tmp rfl rfl) (.bool _)) ?_
   refine Cm (.bool false) rfl rfl ?_
   iterate 3 refine gP (t:=63) rfl rfl rfl ?_
   refine aP (dR (b:=false) (u:=undef) (v:=(.bool false)) (.tmp rfl rfl) (.tmp rfl rfl) (.bool _)) ?_
   refine Cm (.bool false) rfl rfl ?_
   iterate 4 refine gP (t:=68) rfl rfl rfl ?_
   refine aP (dR (b:=false) (u:=undef) (v:=(.bool false)) (.tmp rfl rfl) (.tmp rfl rfl) (.bool _)) ?_
   refine Ca (.bool false) rfl rfl ?_
   refine eT ?_
   obtain rfl:=Option.some.inj hF
   exact⟨_,_,rfl,(bZ.cons rfl (bZ.nil)).eq,(.sel .nil)⟩
 rintro _ _ ⟨TS,g39,rfl,rfl,hE⟩
 replace hF:=hO3
 clear hO3
 try dsimp only at hF
 refine bq hE ?_
 refine sN ?_
 obtain rfl:=Option.some.inj hF
 exact gQ () (.tmp rfl rfl .nil) rfl (.sel .nil)
def Og(aS:Fact)(pY:Fact):Option (Bool):=
 (Dy aS pY).bind fun r3=>
 some ((r3:Int)==0)
theorem alQ{aS:Fact}{aO:Sv}{pY:Fact}{aV:Sv}{R:Bool}(hF:Og aS pY=some R):
   Fw.Spec Tryz.prog 63 [(zg [(zi aS.Rel),aO.v]),(zg [(zi pY.Rel),aV.v])] [ah aO aS.Values,ah aV pY.Values] (fun _:Unit=>(.bool R)) (fun _=>[]):=by
 refine Se 9 Tryz.func63 [.tmp 4] ?_
 intro H0 F0
 unfold Og at hF
 refine au ?_
 refine bN (fun k1=>?_)
 refine bN (fun k2=>?_)
 refine aY ?_
 refine bnd hF fun r3 hx4 hF=>bD (Uv hx4) (fun _=>?_)
 exact ze hF
def FT(kC:List Fact):List Fact->Nat->Option (Bool)
 |[],k4=>some true
 |x6::aM,k4=>(ix kC (k4:Int)).bind fun zX=>
   (Og x6 zX).bind fun gV=>
   if (!gV)then (
     some false)
   else (
     FT kC aM (k4+1))
def Ua(jZ:List Fact)(kC:List Fact):Option (Bool):=
 if (((jZ.length:Int):Int)!=(kC.length:Int))then (
   some false)
 else (
   FT kC jZ 0)
theorem aks{jZ:List Fact}{ae:Sv}{kC:List Fact}{ax:Sv}{R:Bool}(hF:Ua jZ kC=some R):
   Fw.Spec Tryz.prog 62 [ae.v,ax.v,(.func (.func 63) [].toArray [].toArray)] [bG ae jZ,bG ax kC] (fun _:Unit=>(.bool R)) (fun _=>[]):=by
 refine Se 32 Tryz.func62 [.tmp 6] ?_
 intro H0 F0
 unfold Ua at hF
 refine BV ?_
 refine Ci hF (fun Ja hF=>?_) (fun Ja hF=>?_)
 · exact ze hF
 refine bH ?_
 refine bi (bT (m:=jZ.length) (fun m2 f' cs'=>∃(g:Fr)(k4:Nat)(aM:List Fact),m2=aM.length/\f'=aQ g [(1,ax.v),(2,(.func (.func 63) [].toArray [].toArray)),(15,ae.v),(16,(zi (jZ.length:Int))),(17,(zi (k4:Int)))]/\List.drop k4 jZ=aM/\aN cs' [bG ax kC,bG ae jZ]/\FT kC aM k4=some R) ⟨_,0,_,rfl,aA,rfl,ay,hF⟩ ?_)
 rintro m2 _ _ ⟨g3,k4,aM,rfl,rfl,hd7,hE,hF⟩
 refine Kb hE jZ (fun kT=>?_)
 rcases aM with _|⟨x6,aM⟩
 · have gF:=dn hd7
   rw[FT]at hF
   refine bg ?_
   refine dJ ?_
   exact ze hF
 obtain⟨gF,bY,gD⟩:=dz hd7
 rw[FT]at hF
 refine bg ?_
 refine dI ?_
 refine bg ?_
 refine Ai bY (fun k13 oz=>?_)
 refine mX (lU x6) mf (fun ni=>?_)
 refine dX (fun k16=>?_)
 refine au ?_
 refine As (zg [(zi x6.Rel),ni.v]) ?_
 refine bg ?_
 refine zI hF fun zX ajD vw hF=>?_
 refine Ai vw (fun k21 Nn=>?_)
 refine mX (lU zX) mf (fun oO=>?_)
 refine dX (fun k24=>?_)
 refine As (zg [(zi zX.Rel),oO.v]) ?_
 refine aY ?_
 refine bnd hF fun gV nE hF=>lZ (.rd .q4 rfl (.rd (.t .h) rfl .nil)) (qD awF.h (.tmp rfl rfl) b_ (alQ nE)) (fun _=>?_)
 refine aT ?_
 refine Ci hF (fun Cz hF=>?_) (fun Cz hF=>?_)
 · exact ze hF
 refine aY ?_
 rw[wk k4]
 exact⟨_,bX _,_,k4+1,aM,rfl,aA,gD,ay,hF⟩
def OL(aB:List Fact)(aR:List Fact):Option (Bool):=
 (Ua aB aR).bind fun r1=>
 some r1
theorem ams{aB:List Fact}{ae:Sv}{aR:List Fact}{ax:Sv}{R:Bool}(hF:OL aB aR=some R):
   Fw.Spec Tryz.prog 27 [ae.v,ax.v] [bG ae aB,bG ax aR] (fun _:Unit=>(.bool R)) (fun _=>[]):=by
 refine Se 8 Tryz.func27 [.tmp 4] ?_
 intro H0 F0
 unfold OL at hF
 refine bB ?_
 refine bnd hF fun r1 hx2 hF=>bD (aks hx2) (fun _=>?_)
 exact ze hF
def Ow(aB:Access):Option (Access):=
 (Ky aB.Values).bind fun r3=>
 some (⟨aB.Method,r3⟩:Access)
theorem al6{aB:Access}{aO:Sv}{R:Access}(hF:Ow aB=some R):
   Fw.Spec Tryz.prog 29 [(zg [(zi aB.Method),aO.v])] [ah aO aB.Values] (fun p:Sv×List Nat=>(zg [(zi R.Method),p.1.v])) (fun p=>[bI p.2 p.1 R.Values]):=by
 refine Se 9 Tryz.func29 [.cell 2 45] ?_
 intro H0 F0
 unfold Ow at hF
 refine au ?_
 refine bN (fun k1=>?_)
 refine dX (fun k2=>?_)
 refine au ?_
 refine dS [0,1,2,3,4,5,6] [0,1,0,4,12,31,63] [4,6] mixed (by decide+kernel) ?_
 refine nQ ?_
 refine bnd hF fun r3 hx4 hF=>qw (adD hx4) (fun p5=>?_)
 refine bW rfl .no (fun ha=>iB kr.h rfl (vs:=[(zi aB.Method),p5.1.v]) (.cons (EN ha (.tmp rfl rfl) rfl) (.cons (EN ha (.tmp rfl rfl) rfl) .nil)) (cells:=[(zi aB.Method),p5.1.v]) rfl) ?_
 refine cO rfl rfl .no (.cons (.t .h) .nil) .nil (fun ha=>gz (e':=(zg [(zi aB.Method),p5.1.v])) (v:=(zg [(zi aB.Method),p5.1.v])) kr.h.sz (EN ha (.tmp rfl rfl) rfl) (EN ha (.tmp rfl rfl) rfl) rfl rfl rfl rfl rfl) (fun _=>?_)
 refine du ?_
 refine au ?_
 cases hF
 exact Er (p5.1,p5.2)
def FZ(aa:aZ):List cB->Nat->(List Access)->Option ((List Access))
 |[],k12,c6=>some c6
 |uF::o6,k12,c6=>((Lp aa.Methods aa.Source.Facts uF.Access).bind fun wh=>
     (OL uF.Facts wh).bind fun mQ=>
     if (!mQ)then (
       (Ow uF.Access).bind fun qx=>
       (app c6 ([qx]:List Access)).bind fun z37=>
       some z37)
     else (
       some c6)).bind fun yS=>
   match yS with
   |lQ=>FZ aa o6 (k12+1) lQ
def KF(aa:aZ):Option ((List Access)):=
 (y_ aa).bind fun r3=>
 if (!r3)then (
   some ([]:List Access))
 else (
   FZ aa aa.Cache.Entries 0 ([]:List Access))
theorem aeb{aa:aZ}{ae aO cu dA dw dB dE dG:Sv}{R:(List Access)}(hF:KF aa=some R):
   Fw.Spec Tryz.prog 6 [(zg [ae.v,aO.v,cu.v,dA.v,(zi aa.Source.Version),dw.v,(zi aa.Cache.Age),(zi aa.Now),dB.v,dE.v,(zi aa.Spent),dG.v])] [ah ae aa.Schema,bV aO aa.Methods,eY cu aa.Rules,bG dA aa.Source.Facts,dK dw aa.Cache.Entries,eD dB aa.Log,ah dE aa.Times,bC (aD 152 (aD 24 (aD 3 az))) dG.v aa.Results] (fun p:Sv×List Nat=>p.1.v) (fun p=>[kF p.2 p.1 R]):=by
 refine Se 39 Tryz.func6 [.tmp 2] ?_
 intro H0 F0
 unfold KF at hF
 refine au ?_
 refine bN (fun k1=>?_)
 refine bu ?_
 refine dF rfl (bO (g:=true) pF.h kr.h .nil (vs:=[]) rfl rfl rfl (by simp)) (fun k2=>?_)
 refine dP (.cons .h .nil) (bQ (Ro:=mY) (E:=45) (F:=[]) (xs:=([]:List Access)) bP rfl rfl) ?_
 refine aY ?_
 refine bnd hF fun r3 hx4 hF=>bD (KA hx4) (fun _=>?_)
 refine aT ?_
 refine Ci hF (fun ace hF=>?_) (fun ace hF=>?_)
 · refine aY ?_
   cases hF
   exact Er (⟨(some ⟨k2,0,none⟩),0,1⟩,(k2::[]))
 refine gB ?_
 refine bi (bT (m:=aa.Cache.Entries.length) (fun m10 f' cs'=>∃(g:Fr)(k12:Nat)(o6:List cB)(c6:List Access)(v7:Sv)(F8:List Nat),m10=o6.length/\f'=aQ g [(1,(pz k1)),(3,v7.v),(13,dw.v),(14,(zi (aa.Cache.Entries.length:Int))),(15,(zi (k12:Int)))]/\List.drop k12 aa.Cache.Entries=o6/\aN cs' [aX k1 36 (zg [ae.v,aO.v,cu.v,dA.v,(zi aa.Source.Version),dw.v,(zi aa.Cache.Age),(zi aa.Now),dB.v,dE.v,(zi aa.Spent),dG.v]),ah ae aa.Schema,bV aO aa.Methods,eY cu aa.Rules,bG dA aa.Source.Facts,dK dw aa.Cache.Entries,eD dB aa.Log,ah dE aa.Times,bC (aD 152 (aD 24 (aD 3 az))) dG.v aa.Results,kF F8 v7 c6]/\FZ aa o6 k12 c6=some R) ⟨_,0,_,_,⟨(some ⟨k2,0,none⟩),0,1⟩,(k2::[]),rfl,aA,rfl,ay,hF⟩ ?_)
 rintro m10 _ _ ⟨g11,k12,o6,c6,v7,F8,rfl,rfl,qY,hE,hF⟩
 refine Kb hE aa.Cache.Entries (fun aux=>?_)
 rcases o6 with _|⟨uF,o6⟩
 · have acZ:=dn qY
   rw[FZ]at hF
   refine bg ?_
   refine dJ ?_
   refine gB ?_
   cases hF
   exact Er (v7,F8)
 obtain⟨acZ,jF,ac0⟩:=dz qY
 rw[FZ]at hF
 refine bg ?_
 refine dI ?_
 refine au ?_
 obtain⟨yS,Qg,Rk⟩:=bind_some hF
 refine iC (fun f' cs'=>∃(lQ:List Access)(v42:Sv)(wR:List Nat)(g:Fr),lQ=yS/\f'=aQ g [(1,(pz k1)),(3,v42.v),(13,dw.v),(14,(zi (aa.Cache.Entries.length:Int))),(15,(zi (k12:Int)))]/\aN cs' [aX k1 36 (zg [ae.v,aO.v,cu.v,dA.v,(zi aa.Source.Version),dw.v,(zi aa.Cache.Age),(zi aa.Now),dB.v,dE.v,(zi aa.Spent),dG.v]),ah ae aa.Schema,bV aO aa.Methods,eY cu aa.Rules,bG dA aa.Source.Facts,dK dw aa.Cache.Entries,eD dB aa.Log,ah dE aa.Times,bC (aD 152 (aD 24 (aD 3 az))) dG.v aa.Results,kF wR v42 lQ]) ?_ ?_
 · replace hF:=Qg
   refine bi (dY (L8 (a:=uF) uw.h qj.h.sz (.tmp rfl rfl) (.tmp rfl rfl) .q5 (Int.natCast_nonneg k12) jF (fun k23 Yj=>?_)))
   refine xO (wu uF) xk (fun p25=>?_)
   refine dX (fun k26=>?_)
   refine As (zg [(zi uF.Access.Method),p25.1.v,p25.2.v,(zi uF.At)]) ?_
   refine au ?_
   refine dS [0,1,2,3,4,5,6,7,8,9,10,11] [0,1,0,4,0,16,48,0,128,508,1023,2047] [9,10] mixed (by decide+kernel) ?_
   refine du ?_
   refine dM rfl .no .h (fun ha hp=>fe (v:=p25.2.v) xQ.h (EN ha (.tmp rfl rfl) rfl) hp.2 rfl rfl) ?_
   refine wK ?_
   refine dM rfl .no .h (fun ha hp=>j3 (s:=2) (l:=[(zi uF.Access.Method),p25.1.v]) u_.h kr.h.sz (EN ha (.tmp rfl rfl) rfl) hp.2 rfl (by decide) (Nat.le_of_ble_eq_true rfl) rfl) ?_
   refine bnd hF fun wh hx28 hF=>cO rfl rfl .no (.rd .q6 rfl (.rd .q8 rfl (.rd (.t .h) rfl .nil))) (.dep rfl (.own .h (fun _ h=>h) .nil)) (fun ha=>bU awx.h (.cons (EN ha (.tmp rfl rfl) rfl) (.cons (EN ha (.tmp rfl rfl) rfl) (.cons (EN ha (.tmp rfl rfl) rfl) .nil))) (afv hx28)) (fun p29=>?_)
   refine bnd hF fun mQ hx31 hF=>cO rfl rfl .no (.cons .h (.rd .q2 rfl .nil)) (.dep rfl (.dep rfl .nil)) (fun ha=>jT aG (fun _=>.nil) (iV (.rd (.t .h) rfl (.rd .h rfl .nil)) (bU awE.h (.cons (EN ha (.tmp rfl rfl) rfl) (.cons (EN ha (.tmp rfl rfl) rfl) .nil)) (ams hx31)))) (fun _=>?_)
   refine bR ?_
   refine Ci hF (fun Rj hF=>?_) (fun Rj hF=>?_)
   · refine bu ?_
     refine fo (.t .h) (fun hp=>j3 (s:=2) (l:=[(zi uF.Access.Method),p25.1.v]) u_.h kr.h.sz (.tmp rfl rfl) hp.2 rfl (by decide) (Nat.le_of_ble_eq_true rfl) rfl) ?_
     refine bnd hF fun qx hx34 hF=>gy (al6 hx34) (fun p35=>?_)
     refine dF rfl (bO (g:=true) pF.h kr.h b_ (vs:=[(zg [(zi qx.Method),p35.1.v])]) rfl rfl rfl (by intro v hv; simp at hv; rcases hv with rfl<;>rfl)) (fun ny=>?_)
     refine dP (.cons .h (.cons .h .nil)) (bQ (Ro:=mY) (E:=45) (F:=(p35.2++[])) (xs:=([qx]:List Access)) (d_ WT bP cK) rfl rfl) ?_
     refine bnd hF fun z37 hx38 hF=>ed (.cons (.t (.t (.t (.t (.t (.t (.t (.t (.t (.t (.t (.t (.t (.t (.t .h))))))))))))))) (.cons .h .nil)) (dV (Ro:=mY) pF.h Q3 kr.h rfl rfl rfl (.tmp rfl rfl) (.tmp rfl rfl) hx38 fw) (fun p39=>?_)
     refine aT ?_
     cases hF
     exact⟨_,p39.1,p39.2,_,rfl,aA,ay⟩
   refine au ?_
   cases hF
   exact⟨_,v7,F8,_,rfl,aA,ay⟩
 rintro _ _ ⟨lQ,v42,wR,g45,rfl,rfl,hE⟩
 replace hF:=Rk
 try dsimp only at hF
 refine bq hE ?_
 refine bg ?_
 rw[wk k12]
 exact⟨_,bX _,_,k12+1,o6,_,v42,wR,rfl,aA,ac0,ay,hF⟩
def Gy(aR:List Fact):List Fact->Nat->Option (Bool)
 |[],k4=>some true
 |x6::aM,k4=>(ix aR (k4:Int)).bind fun nT=>
   (w9 x6 nT).bind fun tV=>
   if ((tV:Int)!=0)then (
     some false)
   else (
     Gy aR aM (k4+1))
def HV(aB:List Fact)(aR:List Fact):Option (Bool):=
 if (((aB.length:Int):Int)!=(aR.length:Int))then (
   some false)
 else (
   Gy aR aB 0)
theorem YZ{aB:List Fact}{ae:Sv}{aR:List Fact}{ax:Sv}{R:Bool}(hF:HV aB aR=some R):
   Fw.Spec Tryz.prog 19 [ae.v,ax.v] [bG ae aB,bG ax aR] (fun _:Unit=>(.bool R)) (fun _=>[]):=by
 refine Se 27 Tryz.func19 [.tmp 4] ?_
 intro H0 F0
 unfold HV at hF
 refine BV ?_
 refine Ci hF (fun xY hF=>?_) (fun xY hF=>?_)
 · exact ze hF
 refine aY ?_
 refine bi (bT (m:=aB.length) (fun m2 f' cs'=>∃(g:Fr)(k4:Nat)(aM:List Fact),m2=aM.length/\f'=aQ g [(0,ae.v),(1,ax.v),(5,(zi (k4:Int)))]/\List.drop k4 aB=aM/\aN cs' [bG ae aB,bG ax aR]/\Gy aR aM k4=some R) ⟨_,0,_,rfl,aA,rfl,ay,hF⟩ ?_)
 rintro m2 _ _ ⟨g3,k4,aM,rfl,rfl,hd7,hE,hF⟩
 refine Kb hE aB (fun kT=>?_)
 rcases aM with _|⟨x6,aM⟩
 · have gF:=dn hd7
   rw[Gy]at hF
   refine bH ?_
   refine dJ ?_
   exact ze hF
 obtain⟨gF,bY,gD⟩:=dz hd7
 rw[Gy]at hF
 refine bH ?_
 refine dI ?_
 refine aT ?_
 refine dS [0,1,2,3,4,5,6,7,8,9] [0,0,3,7,0,0,48,112,255,511] [8] mixed (by decide+kernel) ?_
 refine bR ?_
 refine Di bY (fun k13 oz=>?_)
 refine jP (lU x6) mf (fun ni=>?_)
 refine bR ?_
 refine zI hF fun nT MM kM hF=>?_
 refine Di kM (fun k20 CZ=>?_)
 refine jP (lU nT) mf (fun zZ=>?_)
 refine bnd hF fun tV hx24 hF=>eZ (NM hx24) (fun _=>?_)
 refine bR ?_
 refine Ci hF (fun Je hF=>?_) (fun Je hF=>?_)
 · exact ze hF
 refine bB ?_
 rw[wk k4]
 exact⟨_,bX _,_,k4+1,aM,rfl,aA,gD,ay,hF⟩
def Ac(aa:aZ):Nat->(List Access)->Int->Option ((List Access))
 |0,_,_=>none
 |m7+1,c3,c6=>(bif (decide ((c6:Int)<(aa.Cache.Entries.length:Int)))then ((qC aa).bind fun ng=>
       some ng)
     else (some false)).bind fun o15=>
   match o15 with
   |c21=>if c21 then (
       ((ix aa.Cache.Entries c6).bind fun x24=>
         (ix aa.Methods x24.Access.Method).bind fun x32=>
         (Ee x32 x24.Access.Values aa.Source.Facts).bind fun vY=>
         (HV x24.Facts vY).bind fun Aa=>
         if (!Aa)then (
           (Au x24.Access.Method x24.Access.Values).bind fun rZ=>
           (app c3 ([rZ]:List Access)).bind fun z49=>
           some z49)
         else (
           some c3)).bind fun o22=>
       match o22 with
       |c53=>Ac aa m7 c53 (IntKind.i64.wrap (c6+1)))
     else (
       some c3)
def KG(aa:aZ):Option ((List Access)):=
 Ac aa (((aa.Cache.Entries.length:Int)-0).toNat+2) ([]:List Access) 0
theorem aec{aa:aZ}{ae aO cu dA dw dB dE dG:Sv}{R:(List Access)}(hF:KG aa=some R):
   Fw.Spec Tryz.prog 8 [(zg [ae.v,aO.v,cu.v,dA.v,(zi aa.Source.Version),dw.v,(zi aa.Cache.Age),(zi aa.Now),dB.v,dE.v,(zi aa.Spent),dG.v])] [ah ae aa.Schema,bV aO aa.Methods,eY cu aa.Rules,bG dA aa.Source.Facts,dK dw aa.Cache.Entries,eD dB aa.Log,ah dE aa.Times,bC (aD 152 (aD 24 (aD 3 az))) dG.v aa.Results] (fun p:Sv×List Nat=>p.1.v) (fun p=>[kF p.2 p.1 R]):=by
 refine Se 54 Tryz.func8 [.tmp 2] ?_
 intro H0 F0
 unfold KG at hF
 refine au ?_
 refine bN (fun k1=>?_)
 refine bu ?_
 refine dF rfl (bO (g:=true) pF.h kr.h .nil (vs:=[]) rfl rfl rfl (by simp)) (fun k2=>?_)
 refine dP (.cons .h .nil) (bQ (Ro:=mY) (E:=45) (F:=[]) (xs:=([]:List Access)) bP rfl rfl) ?_
 refine bB ?_
 refine bi (bT (m:=(((aa.Cache.Entries.length:Int)-0).toNat+2)) (fun m7 f' cs'=>∃(g:Fr)(c3:List Access)(c6:Int)(v4:Sv)(F5:List Nat),f'=aQ g [(1,(pz k1)),(3,v4.v),(4,(zi c6))]/\aN cs' [aX k1 36 (zg [ae.v,aO.v,cu.v,dA.v,(zi aa.Source.Version),dw.v,(zi aa.Cache.Age),(zi aa.Now),dB.v,dE.v,(zi aa.Spent),dG.v]),ah ae aa.Schema,bV aO aa.Methods,eY cu aa.Rules,bG dA aa.Source.Facts,dK dw aa.Cache.Entries,eD dB aa.Log,ah dE aa.Times,bC (aD 152 (aD 24 (aD 3 az))) dG.v aa.Results,kF F5 v4 c3]/\Ac aa m7 c3 c6=some R) ⟨_,_,_,⟨(some ⟨k2,0,none⟩),0,1⟩,(k2::[]),aA,ay,hF⟩ ?_)
 rintro m7 _ _ ⟨g8,c3,c6,v4,F5,rfl,hE,hF⟩
 refine bq hE ?_
 rcases m7 with _|m7
 · rw[Ac]at hF
   exact absurd hF (by simp)
 rw[Ac]at hF
 refine au ?_
 obtain⟨o15,avq,ayu⟩:=bind_some hF
 refine au ?_
 refine eX (fun f' cs'=>∃(c21:Bool)(g:Fr),c21=o15/\f'=aQ g [(1,(pz k1)),(3,v4.v),(4,(zi c6)),(16,(.bool c21))]/\aN cs' [aX k1 36 (zg [ae.v,aO.v,cu.v,dA.v,(zi aa.Source.Version),dw.v,(zi aa.Cache.Age),(zi aa.Now),dB.v,dE.v,(zi aa.Spent),dG.v]),ah ae aa.Schema,bV aO aa.Methods,eY cu aa.Rules,bG dA aa.Source.Facts,dK dw aa.Cache.Entries,eD dB aa.Log,ah dE aa.Times,bC (aD 152 (aD 24 (aD 3 az))) dG.v aa.Results,kF F5 v4 c3]) ?_ ?_
 · replace hF:=avq
   refine bH ?_
   rcases bE (decide ((c6:Int)<(aa.Cache.Entries.length:Int)))with lw|lw
   · rw[lw]
     try rw[lw]at hF; dsimp only[aJ,aI]at hF
     refine bu ?_
     refine bnd hF fun ng kM hF=>bD (uG kM) (fun _=>?_)
     exact bJ hF
   rw[lw]
   try rw[lw]at hF; dsimp only[aJ,aI]at hF
   exact bJ hF
 rintro _ _ ⟨c21,g58,rfl,rfl,hE⟩
 replace hF:=ayu
 try dsimp only at hF
 refine bq hE ?_
 refine Ci hF (fun CB hF=>?_) (fun CB hF=>?_)
 · refine au ?_
   obtain⟨o22,avr,ayv⟩:=bind_some hF
   refine iC (fun f' cs'=>∃(c53:List Access)(v54:Sv)(F55:List Nat)(g:Fr),c53=o22/\f'=aQ g [(1,(pz k1)),(3,v54.v),(4,(zi c6))]/\aN cs' [aX k1 36 (zg [ae.v,aO.v,cu.v,dA.v,(zi aa.Source.Version),dw.v,(zi aa.Cache.Age),(zi aa.Now),dB.v,dE.v,(zi aa.Spent),dG.v]),ah ae aa.Schema,bV aO aa.Methods,eY cu aa.Rules,bG dA aa.Source.Facts,dK dw aa.Cache.Entries,eD dB aa.Log,ah dE aa.Times,bC (aD 152 (aD 24 (aD 3 az))) dG.v aa.Results,kF F55 v54 c53]) ?_ ?_
   · replace hF:=avr
     refine bi (dY (aP (iY (off:=5) VK.h (.tmp rfl rfl)) ?_))
     refine bu ?_
     refine zI hF fun x24 ajC hx27 hF=>?_
     refine Ai hx27 (fun k28 Yl=>?_)
     refine xO (wu x24) xk (fun p30=>?_)
     refine dX (fun FJ=>?_)
     refine As (zg [(zi x24.Access.Method),p30.1.v,p30.2.v,(zi x24.At)]) ?_
     refine au ?_
     refine dS [0,1,2,3,4,5,6,7,8,9,10,11,12,13,14,15,16,17] [0,1,0,4,0,16,48,124,252,0,512,1536,0,4096,12288,32764,65535,131071] [15,16] mixed (by decide+kernel) ?_
     refine du ?_
     refine dM rfl .no .h (fun ha hp=>fe (v:=p30.2.v) xQ.h (EN ha (.tmp rfl rfl) rfl) hp.2 rfl rfl) ?_
     refine nQ ?_
     refine dM rfl .no .h (fun ha hp=>fe (v:=(zi x24.Access.Method)) pU.h (EN ha (.tmp rfl rfl) rfl) hp.2 rfl rfl) ?_
     refine zI hF fun x32 ays x_ hF=>?_
     refine Di x_ (fun ny TM=>?_)
     refine jP (uf x32) uH (fun p38=>?_)
     refine bR ?_
     refine dM rfl .no .q2 (fun ha hp=>fe (v:=p30.1.v) iA.h (EN ha (.tmp rfl rfl) rfl) hp.2 rfl rfl) ?_
     refine dm ?_
     refine bnd hF fun vY tq hF=>cO rfl rfl .no (.rd .h rfl (.rd .q3 rfl (.rd .q10 rfl .nil))) (.dep rfl (.dep rfl (.own .q2 (fun _ h=>h) .nil))) (fun ha=>bU awn.h (.cons (EN ha (.tmp rfl rfl) rfl) (.cons (EN ha (.tmp rfl rfl) rfl) (.cons (EN ha (.tmp rfl rfl) rfl) .nil))) (YY tq)) (fun p41=>?_)
     refine bnd hF fun Aa ql hF=>cO rfl rfl .no (.cons .h (.rd .q4 rfl .nil)) (.dep rfl (.dep rfl (.dep rfl .nil))) (fun ha=>jT aG (fun _=>.nil) (iV (.rd (.t .h) rfl (.rd .h rfl .nil)) (bU abP.h (.cons (EN ha (.tmp rfl rfl) rfl) (.cons (EN ha (.tmp rfl rfl) rfl) .nil)) (YZ ql)))) (fun _=>?_)
     refine bR ?_
     refine Ci hF (fun ayw hF=>?_) (fun ayw hF=>?_)
     · refine dL ?_
       refine bnd hF fun rZ ES hF=>gy (N_ ES) (fun p47=>?_)
       refine dF rfl (bO (g:=true) pF.h kr.h b_ (vs:=[(zg [(zi rZ.Method),p47.1.v])]) rfl rfl rfl (by intro v hv; simp at hv; rcases hv with rfl<;>rfl)) (fun vQ=>?_)
       refine dP (.cons .h (.cons .h .nil)) (bQ (Ro:=mY) (E:=45) (F:=(p47.2++[])) (xs:=([rZ]:List Access)) (d_ WT bP cK) rfl rfl) ?_
       refine bnd hF fun z49 MQ hF=>ed (.cons (.t (.t (.t (.t (.t (.t (.t (.t (.t (.t (.t (.t (.t (.t (.t (.t (.t .h))))))))))))))))) (.cons .h .nil)) (dV (Ro:=mY) pF.h Q3 kr.h rfl rfl rfl (.tmp rfl rfl) (.tmp rfl rfl) MQ fw) (fun p51=>?_)
       refine aT ?_
       cases hF
       exact⟨_,p51.1,p51.2,_,rfl,aA,ay⟩
     refine au ?_
     cases hF
     exact⟨_,v4,F5,_,rfl,aA,ay⟩
   rintro _ _ ⟨c53,v54,F55,g56,rfl,rfl,hE⟩
   replace hF:=ayv
   try dsimp only at hF
   refine bq hE ?_
   refine aY ?_
   exact⟨m7,bX _,_,_,_,v54,F55,aA,ay,hF⟩
 refine gB ?_
 cases hF
 exact Er (v4,F5)
def F3(aR:List Access):List Access->Nat->Option (Bool)
 |[],k4=>some true
 |x6::aM,k4=>(ix aR (k4:Int)).bind fun nT=>
   (zh x6 nT).bind fun tV=>
   if (!tV)then (
     some false)
   else (
     F3 aR aM (k4+1))
def UE(aB:List Access)(aR:List Access):Option (Bool):=
 if (((aB.length:Int):Int)!=(aR.length:Int))then (
   some false)
 else (
   F3 aR aB 0)
theorem alA{aB:List Access}{ae:Sv}{aR:List Access}{ax:Sv}{R:Bool}(hF:UE aB aR=some R):
   Fw.Spec Tryz.prog 7 [ae.v,ax.v] [eD ae aB,eD ax aR] (fun _:Unit=>(.bool R)) (fun _=>[]):=by
 refine Se 27 Tryz.func7 [.tmp 4] ?_
 intro H0 F0
 unfold UE at hF
 refine BV ?_
 refine Ci hF (fun xY hF=>?_) (fun xY hF=>?_)
 · exact ze hF
 refine aY ?_
 refine bi (bT (m:=aB.length) (fun m2 f' cs'=>∃(g:Fr)(k4:Nat)(aM:List Access),m2=aM.length/\f'=aQ g [(0,ae.v),(1,ax.v),(5,(zi (k4:Int)))]/\List.drop k4 aB=aM/\aN cs' [eD ae aB,eD ax aR]/\F3 aR aM k4=some R) ⟨_,0,_,rfl,aA,rfl,ay,hF⟩ ?_)
 rintro m2 _ _ ⟨g3,k4,aM,rfl,rfl,hd7,hE,hF⟩
 refine Kb hE aB (fun kT=>?_)
 rcases aM with _|⟨x6,aM⟩
 · have gF:=dn hd7
   rw[F3]at hF
   refine bH ?_
   refine dJ ?_
   exact ze hF
 obtain⟨gF,bY,gD⟩:=dz hd7
 rw[F3]at hF
 refine bH ?_
 refine dI ?_
 refine aT ?_
 refine dS [0,1,2,3,4,5,6,7,8,9] [0,0,3,7,0,0,48,112,255,511] [8] mixed (by decide+kernel) ?_
 refine bR ?_
 refine Di bY (fun k13 oz=>?_)
 refine jP (xm x6) zb (fun ni=>?_)
 refine bR ?_
 refine zI hF fun nT MM kM hF=>?_
 refine Di kM (fun k20 CZ=>?_)
 refine jP (xm nT) zb (fun zZ=>?_)
 refine bnd hF fun tV hx24 hF=>eZ (UX hx24) (fun _=>?_)
 refine bR ?_
 refine Ci hF (fun Je hF=>?_) (fun Je hF=>?_)
 · exact ze hF
 refine bB ?_
 rw[wk k4]
 exact⟨_,bX _,_,k4+1,aM,rfl,aA,gD,ay,hF⟩
def OM(aa:aZ):Option (Bool):=
 ((y_ aa).bind fun r4=>
   bif r4 then ((KF aa).bind fun r8=>
     some (((r8.length:Int):Int)==0))
   else (some false)).bind fun o2=>
 match o2 with
 |c11=>some c11
theorem amt{aa:aZ}{ae aO cu dA dw dB dE dG:Sv}{R:Bool}(hF:OM aa=some R):
   Fw.Spec Tryz.prog 9 [(zg [ae.v,aO.v,cu.v,dA.v,(zi aa.Source.Version),dw.v,(zi aa.Cache.Age),(zi aa.Now),dB.v,dE.v,(zi aa.Spent),dG.v])] [ah ae aa.Schema,bV aO aa.Methods,eY cu aa.Rules,bG dA aa.Source.Facts,dK dw aa.Cache.Entries,eD dB aa.Log,ah dE aa.Times,bC (aD 152 (aD 24 (aD 3 az))) dG.v aa.Results] (fun _:Unit=>(.bool R)) (fun _=>[]):=by
 refine Se 11 Tryz.func9 [.tmp 2] ?_
 intro H0 F0
 unfold OM at hF
 refine au ?_
 refine bN (fun k1=>?_)
 refine aT ?_
 obtain⟨o2,fU,hO3⟩:=bind_some hF
 refine au ?_
 refine eX (fun f' cs'=>∃(c11:Bool)(g:Fr),c11=o2/\f'=aQ g [(2,(.bool c11))]/\aN cs' []) ?_ ?_
 · replace hF:=fU
   refine au ?_
   refine bnd hF fun r4 hx5 hF=>bD (KA hx5) (fun _=>?_)
   refine au ?_
   rcases bE r4 with bn|bn
   · rw[bn]
     try rw[bn]at hF; dsimp only[aJ,aI]at hF
     refine bu ?_
     refine bnd hF fun r8 bY hF=>gy (aeb bY) (fun gH=>?_)
     exact bJ hF
   rw[bn]
   try rw[bn]at hF; dsimp only[aJ,aI]at hF
   exact bJ hF
 rintro _ _ ⟨c11,g12,rfl,rfl,hE⟩
 replace hF:=hO3
 try dsimp only at hF
 refine bq hE ?_
 exact ze hF
def OO(aa:aZ):Option (Bool):=
 ((qC aa).bind fun r4=>
   bif r4 then ((KG aa).bind fun r8=>
     some (((r8.length:Int):Int)==0))
   else (some false)).bind fun o2=>
 match o2 with
 |c11=>some c11
theorem amu{aa:aZ}{ae aO cu dA dw dB dE dG:Sv}{R:Bool}(hF:OO aa=some R):
   Fw.Spec Tryz.prog 10 [(zg [ae.v,aO.v,cu.v,dA.v,(zi aa.Source.Version),dw.v,(zi aa.Cache.Age),(zi aa.Now),dB.v,dE.v,(zi aa.Spent),dG.v])] [ah ae aa.Schema,bV aO aa.Methods,eY cu aa.Rules,bG dA aa.Source.Facts,dK dw aa.Cache.Entries,eD dB aa.Log,ah dE aa.Times,bC (aD 152 (aD 24 (aD 3 az))) dG.v aa.Results] (fun _:Unit=>(.bool R)) (fun _=>[]):=by
 refine Se 11 Tryz.func10 [.tmp 2] ?_
 intro H0 F0
 unfold OO at hF
 refine au ?_
 refine bN (fun k1=>?_)
 refine aT ?_
 obtain⟨o2,fU,hO3⟩:=bind_some hF
 refine au ?_
 refine eX (fun f' cs'=>∃(c11:Bool)(g:Fr),c11=o2/\f'=aQ g [(2,(.bool c11))]/\aN cs' []) ?_ ?_
 · replace hF:=fU
   refine au ?_
   refine bnd hF fun r4 hx5 hF=>bD (uG hx5) (fun _=>?_)
   refine au ?_
   rcases bE r4 with bn|bn
   · rw[bn]
     try rw[bn]at hF; dsimp only[aJ,aI]at hF
     refine bu ?_
     refine bnd hF fun r8 bY hF=>gy (aec bY) (fun gH=>?_)
     exact bJ hF
   rw[bn]
   try rw[bn]at hF; dsimp only[aJ,aI]at hF
   exact bJ hF
 rintro _ _ ⟨c11,g12,rfl,rfl,hE⟩
 replace hF:=hO3
 try dsimp only at hF
 refine bq hE ?_
 exact ze hF
def PE(ai:List Method)(Iw:Int):Option (Int):=
 ((oQ Iw 0 (IntKind.i64.wrap ((ai.length:Int)-1))).bind fun r3=>
   bif (!r3)then (some true)
   else ((ix ai Iw).bind fun x7=>
     (Py x7.Cost).bind fun oN=>
     some (!oN))).bind fun o1=>
 match o1 with
 |c16=>if c16 then (
     some 0)
   else (
     (ix ai Iw).bind fun zX=>
     some zX.Cost)
theorem anW{ai:List Method}{ae:Sv}{Iw R:Int}(hF:PE ai Iw=some R):
   Fw.Spec Tryz.prog 79 [ae.v,(zi Iw)] [bV ae ai] (fun _:Unit=>(zi R)) (fun _=>[]):=by
 refine Se 25 Tryz.func79 [.tmp 4] ?_
 intro H0 F0
 unfold PE at hF
 refine bg ?_
 obtain⟨o1,yx,hO2⟩:=bind_some hF
 refine au ?_
 refine eX (fun f' cs'=>∃(c16:Bool)(g:Fr),c16=o1/\f'=aQ g [(0,ae.v),(1,(zi Iw)),(19,(.bool c16))]/\aN cs' [bV ae ai]) ?_ ?_
 · replace hF:=yx
   refine bg ?_
   refine bnd hF fun r3 hx4 hF=>bD (su hx4) (fun _=>?_)
   refine aT ?_
   rcases bE (!r3)with kg|kg
   · rw[kg]
     try rw[kg]at hF; dsimp only[aJ,aI]at hF
     exact bJ hF
   rw[kg]
   try rw[kg]at hF; dsimp only[aJ,aI]at hF
   refine aY ?_
   refine zI hF fun x7 hp9 jm hF=>?_
   refine Ai jm (fun k11 j12=>?_)
   refine bu ?_
   refine Al L6 ?_
   refine au ?_
   refine bnd hF fun oN j5 hF=>bD (af0 j5) (fun _=>?_)
   exact bJ hF
 rintro _ _ ⟨c16,g24,rfl,rfl,hE⟩
 replace hF:=hO2
 try dsimp only at hF
 refine bq hE ?_
 refine Ci hF (fun yB hF=>?_) (fun yB hF=>?_)
 · exact ze hF
 refine bg ?_
 refine zI hF fun zX ajD vw hF=>?_
 refine Ai vw (fun k21 Nn=>?_)
 refine au ?_
 refine Al L6 ?_
 exact ze hF
def He(ai:List Method):List Access->Nat->Int->Option (Int)
 |[],k5,c1=>some c1
 |x7::eH,k5,c1=>(PE ai x7.Method).bind fun ng=>
   He ai eH (k5+1) (IntKind.i64.wrap (c1+ng))
def Ve(ai:List Method)(lq:List Access):Option (Int):=
 He ai lq 0 0
theorem anB{ai:List Method}{ae:Sv}{lq:List Access}{ax:Sv}{R:Int}(hF:Ve ai lq=some R):
   Fw.Spec Tryz.prog 34 [ae.v,ax.v] [bV ae ai,eD ax lq] (fun _:Unit=>(zi R)) (fun _=>[]):=by
 refine Se 22 Tryz.func34 [.tmp 4] ?_
 intro H0 F0
 unfold Ve at hF
 refine EE ?_
 refine bi (bT (m:=lq.length) (fun m3 f' cs'=>∃(g:Fr)(k5:Nat)(eH:List Access)(c1:Int),m3=eH.length/\f'=aQ g [(0,ae.v),(5,(zi c1)),(8,ax.v),(9,(zi (lq.length:Int))),(10,(zi (k5:Int)))]/\List.drop k5 lq=eH/\aN cs' [bV ae ai,eD ax lq]/\He ai eH k5 c1=some R) ⟨_,0,_,_,rfl,aA,rfl,ay,hF⟩ ?_)
 rintro m3 _ _ ⟨g4,k5,eH,c1,rfl,rfl,nJ,hE,hF⟩
 refine Kb hE lq (fun IP=>?_)
 rcases eH with _|⟨x7,eH⟩
 · have tT:=dn nJ
   rw[He]at hF
   refine bg ?_
   refine dJ ?_
   exact ze hF
 obtain⟨tT,jm,jY⟩:=dz nJ
 rw[He]at hF
 refine bg ?_
 refine dI ?_
 refine bu ?_
 refine Ai jm (fun k14 Ty=>?_)
 refine mX (xm x7) zb (fun p16=>?_)
 refine dX (fun k17=>?_)
 refine As (zg [(zi x7.Method),p16.v]) ?_
 refine bB ?_
 refine bnd hF fun ng kM hF=>bD (anW kM) (fun _=>?_)
 refine bH ?_
 rw[wk k5]
 exact⟨_,bX _,_,k5+1,eH,_,rfl,aA,jY,ay,hF⟩
def KQ(aa:aZ):Option (Bool):=
 ((y_ aa).bind fun r4=>
   bif r4 then ((Ve aa.Methods aa.Log).bind fun r8=>
     some ((aa.Spent:Int)==r8))
   else (some false)).bind fun o2=>
 match o2 with
 |c11=>some c11
theorem aeC{aa:aZ}{ae aO cu dA dw dB dE dG:Sv}{R:Bool}(hF:KQ aa=some R):
   Fw.Spec Tryz.prog 11 [(zg [ae.v,aO.v,cu.v,dA.v,(zi aa.Source.Version),dw.v,(zi aa.Cache.Age),(zi aa.Now),dB.v,dE.v,(zi aa.Spent),dG.v])] [ah ae aa.Schema,bV aO aa.Methods,eY cu aa.Rules,bG dA aa.Source.Facts,dK dw aa.Cache.Entries,eD dB aa.Log,ah dE aa.Times,bC (aD 152 (aD 24 (aD 3 az))) dG.v aa.Results] (fun _:Unit=>(.bool R)) (fun _=>[]):=by
 refine Se 15 Tryz.func11 [.tmp 2] ?_
 intro H0 F0
 unfold KQ at hF
 refine au ?_
 refine bN (fun k1=>?_)
 refine aT ?_
 obtain⟨o2,fU,hO3⟩:=bind_some hF
 refine dS [0,1,2,3,4,5,6,7,8,9,10,11,12] [0,1,3,7,15,7,39,7,135,487,1023,2047,4095] [1,9] mixed (by decide+kernel) ?_
 refine kS (fun f' cs'=>∃(c11:Bool)(g:Fr),c11=o2/\f'=aQ g [(2,(.bool c11))]/\aN cs' []) ?_ ?_
 · replace hF:=fU
   refine du ?_
   refine bnd hF fun r4 hx5 hF=>eZ (KA hx5) (fun _=>?_)
   refine du ?_
   rcases bE r4 with bn|bn
   · rw[bn]
     try rw[bn]at hF; dsimp only[aJ,aI]at hF
     refine wK ?_
     refine bnd hF fun r8 bY hF=>eZ (anB bY) (fun _=>?_)
     exact eu hF
   rw[bn]
   try rw[bn]at hF; dsimp only[aJ,aI]at hF
   exact eu hF
 rintro _ _ ⟨c11,g12,rfl,rfl,hE⟩
 replace hF:=hO3
 try dsimp only at hF
 refine bq hE ?_
 exact ze hF
def KR(aa:aZ):Option (Bool):=
 ((qC aa).bind fun r4=>
   bif r4 then ((Pp aa.Methods aa.Log).bind fun r8=>
     some ((aa.Spent:Int)==r8))
   else (some false)).bind fun o2=>
 match o2 with
 |c11=>some c11
theorem aeD{aa:aZ}{ae aO cu dA dw dB dE dG:Sv}{R:Bool}(hF:KR aa=some R):
   Fw.Spec Tryz.prog 12 [(zg [ae.v,aO.v,cu.v,dA.v,(zi aa.Source.Version),dw.v,(zi aa.Cache.Age),(zi aa.Now),dB.v,dE.v,(zi aa.Spent),dG.v])] [ah ae aa.Schema,bV aO aa.Methods,eY cu aa.Rules,bG dA aa.Source.Facts,dK dw aa.Cache.Entries,eD dB aa.Log,ah dE aa.Times,bC (aD 152 (aD 24 (aD 3 az))) dG.v aa.Results] (fun _:Unit=>(.bool R)) (fun _=>[]):=by
 refine Se 15 Tryz.func12 [.tmp 2] ?_
 intro H0 F0
 unfold KR at hF
 refine au ?_
 refine bN (fun k1=>?_)
 refine aT ?_
 obtain⟨o2,fU,hO3⟩:=bind_some hF
 refine dS [0,1,2,3,4,5,6,7,8,9,10,11,12] [0,1,3,7,15,7,39,7,135,487,1023,2047,4095] [1,9] mixed (by decide+kernel) ?_
 refine kS (fun f' cs'=>∃(c11:Bool)(g:Fr),c11=o2/\f'=aQ g [(2,(.bool c11))]/\aN cs' []) ?_ ?_
 · replace hF:=fU
   refine du ?_
   refine bnd hF fun r4 hx5 hF=>eZ (uG hx5) (fun _=>?_)
   refine du ?_
   rcases bE r4 with bn|bn
   · rw[bn]
     try rw[bn]at hF; dsimp only[aJ,aI]at hF
     refine wK ?_
     refine bnd hF fun r8 bY hF=>eZ (afu bY) (fun _=>?_)
     exact eu hF
   rw[bn]
   try rw[bn]at hF; dsimp only[aJ,aI]at hF
   exact eu hF
 rintro _ _ ⟨c11,g12,rfl,rfl,hE⟩
 replace hF:=hO3
 try dsimp only at hF
 refine bq hE ?_
 exact ze hF
def Ox(aB:Access)(aj:aZ):Option (Bool):=
 (ix aj.Methods aB.Method).bind fun x2=>
 some ((x2.Limit:Int)!=0)
theorem al7{aB:Access}{aO:Sv}{bS:Nat}{aj:aZ}{fF dU jb jc iW jd je iZ:Sv}{R:Bool}(hF:Ox aB aj=some R):
   Fw.Spec Tryz.prog 37 [(zg [(zi aB.Method),aO.v]),(pz bS)] [ah aO aB.Values,aX bS 36 (zg [fF.v,dU.v,jb.v,jc.v,(zi aj.Source.Version),iW.v,(zi aj.Cache.Age),(zi aj.Now),jd.v,je.v,(zi aj.Spent),iZ.v]),ah fF aj.Schema,bV dU aj.Methods,eY jb aj.Rules,bG jc aj.Source.Facts,dK iW aj.Cache.Entries,eD jd aj.Log,ah je aj.Times,bC (aD 152 (aD 24 (aD 3 az))) iZ.v aj.Results] (fun _:Unit=>(.bool R)) (fun _=>[]):=by
 refine Se 12 Tryz.func37 [.tmp 3] ?_
 intro H0 F0
 unfold Ox at hF
 refine au ?_
 refine bN (fun k1=>?_)
 refine bH ?_
 refine zI hF fun x2 hp4 hx5 hF=>?_
 refine Ai hx5 (fun k6 j7=>?_)
 refine au ?_
 refine Al PU ?_
 exact ze hF
def Kh(aj:aZ):List Access->Nat->Option (Int)
 |[],k4=>some (-1)
 |x6::aM,k4=>(Ox x6 aj).bind fun r16=>
   if r16 then (
     some (k4:Int))
   else (
     Kh aj aM (k4+1))
def Uf(ag:List Access)(aj:aZ):Option (Int):=
 Kh aj ag 0
theorem akH{ag:List Access}{ae:Sv}{bS:Nat}{aj:aZ}{fF dU jb jc iW jd je iZ:Sv}{R:Int}(hF:Uf ag aj=some R):
   Fw.Spec Tryz.prog 80 [ae.v,(.func (.func 37) [].toArray [(pz bS)].toArray)] [eD ae ag,aX bS 36 (zg [fF.v,dU.v,jb.v,jc.v,(zi aj.Source.Version),iW.v,(zi aj.Cache.Age),(zi aj.Now),jd.v,je.v,(zi aj.Spent),iZ.v]),ah fF aj.Schema,bV dU aj.Methods,eY jb aj.Rules,bG jc aj.Source.Facts,dK iW aj.Cache.Entries,eD jd aj.Log,ah je aj.Times,bC (aD 152 (aD 24 (aD 3 az))) iZ.v aj.Results] (fun _:Unit=>(zi R)) (fun _=>[]):=by
 refine Se 19 Tryz.func80 [.tmp 4] ?_
 intro H0 F0
 unfold Uf at hF
 refine gB ?_
 refine bi (bT (m:=ag.length) (fun m2 f' cs'=>∃(g:Fr)(k4:Nat)(aM:List Access),m2=aM.length/\f'=aQ g [(0,ae.v),(1,(.func (.func 37) [].toArray [(pz bS)].toArray)),(7,(zi (ag.length:Int))),(8,(zi (k4:Int)))]/\List.drop k4 ag=aM/\aN cs' [eD ae ag,aX bS 36 (zg [fF.v,dU.v,jb.v,jc.v,(zi aj.Source.Version),iW.v,(zi aj.Cache.Age),(zi aj.Now),jd.v,je.v,(zi aj.Spent),iZ.v]),ah fF aj.Schema,bV dU aj.Methods,eY jb aj.Rules,bG jc aj.Source.Facts,dK iW aj.Cache.Entries,eD jd aj.Log,ah je aj.Times,bC (aD 152 (aD 24 (aD 3 az))) iZ.v aj.Results]/\Kh aj aM k4=some R) ⟨_,0,_,rfl,aA,rfl,ay,hF⟩ ?_)
 rintro m2 _ _ ⟨g3,k4,aM,rfl,rfl,hd7,hE,hF⟩
 refine Kb hE ag (fun kT=>?_)
 rcases aM with _|⟨x6,aM⟩
 · have gF:=dn hd7
   rw[Kh]at hF
   refine bg ?_
   refine dJ ?_
   exact ze hF
 obtain⟨gF,bY,gD⟩:=dz hd7
 rw[Kh]at hF
 refine bg ?_
 refine dI ?_
 refine ky ?_
 refine Ai bY (fun k13 oz=>?_)
 refine mX (xm x6) zb (fun ni=>?_)
 refine bnd hF fun r16 jF hF=>lZ (.rd .h rfl (.rd .q3 rfl (.rd .q4 rfl (.rd .q5 rfl (.rd .q6 rfl (.rd .q7 rfl (.rd .q8 rfl (.rd .q9 rfl (.rd .q10 rfl (.rd .q11 rfl .nil)))))))))) (qD awK.h (.tmp rfl rfl) b_ (al7 jF)) (fun _=>?_)
 refine au ?_
 refine Ci hF (fun nD hF=>?_) (fun nD hF=>?_)
 · exact ze hF
 refine aY ?_
 rw[wk k4]
 exact⟨_,bX _,_,k4+1,aM,rfl,aA,gD,ay,hF⟩
def NC(ag:List Access)(aj:aZ):Option (Bool):=
 (Uf ag aj).bind fun r1=>
 some (decide ((0:Int)<=r1))
theorem akB{ag:List Access}{ae:Sv}{bS:Nat}{aj:aZ}{fF dU jb jc iW jd je iZ:Sv}{R:Bool}(hF:NC ag aj=some R):
   Fw.Spec Tryz.prog 36 [ae.v,(.func (.func 37) [].toArray [(pz bS)].toArray)] [eD ae ag,aX bS 36 (zg [fF.v,dU.v,jb.v,jc.v,(zi aj.Source.Version),iW.v,(zi aj.Cache.Age),(zi aj.Now),jd.v,je.v,(zi aj.Spent),iZ.v]),ah fF aj.Schema,bV dU aj.Methods,eY jb aj.Rules,bG jc aj.Source.Facts,dK iW aj.Cache.Entries,eD jd aj.Log,ah je aj.Times,bC (aD 152 (aD 24 (aD 3 az))) iZ.v aj.Results] (fun _:Unit=>(.bool R)) (fun _=>[]):=by
 refine Se 9 Tryz.func36 [.tmp 4] ?_
 intro H0 F0
 unfold NC at hF
 refine bB ?_
 refine bnd hF fun r1 hx2 hF=>bD (akH hx2) (fun _=>?_)
 exact ze hF
def Oy(iN:Int)(aj:aZ):Option (Bool):=
 some (decide ((aj.Now:Int)<iN))
theorem al8{iN:Int}{bS:Nat}{aj:aZ}{fF dU jb jc iW jd je iZ:Sv}{R:Bool}(hF:Oy iN aj=some R):
   Fw.Spec Tryz.prog 39 [(zi iN),(pz bS)] [aX bS 36 (zg [fF.v,dU.v,jb.v,jc.v,(zi aj.Source.Version),iW.v,(zi aj.Cache.Age),(zi aj.Now),jd.v,je.v,(zi aj.Spent),iZ.v]),ah fF aj.Schema,bV dU aj.Methods,eY jb aj.Rules,bG jc aj.Source.Facts,dK iW aj.Cache.Entries,eD jd aj.Log,ah je aj.Times,bC (aD 152 (aD 24 (aD 3 az))) iZ.v aj.Results] (fun _:Unit=>(.bool R)) (fun _=>[]):=by
 refine Se 8 Tryz.func39 [.tmp 3] ?_
 intro H0 F0
 unfold Oy at hF
 exact ze hF
def Ku(aj:aZ):List Int->Nat->Option (Int)
 |[],k4=>some (-1)
 |x6::aM,k4=>(Oy x6 aj).bind fun fI=>
   if fI then (
     some (k4:Int))
   else (
     Ku aj aM (k4+1))
def Uq(ag:List Int)(aj:aZ):Option (Int):=
 Ku aj ag 0
theorem ak9{ag:List Int}{ae:Sv}{bS:Nat}{aj:aZ}{fF dU jb jc iW jd je iZ:Sv}{R:Int}(hF:Uq ag aj=some R):
   Fw.Spec Tryz.prog 81 [ae.v,(.func (.func 39) [].toArray [(pz bS)].toArray)] [ah ae ag,aX bS 36 (zg [fF.v,dU.v,jb.v,jc.v,(zi aj.Source.Version),iW.v,(zi aj.Cache.Age),(zi aj.Now),jd.v,je.v,(zi aj.Spent),iZ.v]),ah fF aj.Schema,bV dU aj.Methods,eY jb aj.Rules,bG jc aj.Source.Facts,dK iW aj.Cache.Entries,eD jd aj.Log,ah je aj.Times,bC (aD 152 (aD 24 (aD 3 az))) iZ.v aj.Results] (fun _:Unit=>(zi R)) (fun _=>[]):=by
 refine Se 19 Tryz.func81 [.tmp 4] ?_
 intro H0 F0
 unfold Uq at hF
 refine gB ?_
 refine bi (bT (m:=ag.length) (fun m2 f' cs'=>∃(g:Fr)(k4:Nat)(aM:List Int),m2=aM.length/\f'=aQ g [(0,ae.v),(1,(.func (.func 39) [].toArray [(pz bS)].toArray)),(7,(zi (ag.length:Int))),(8,(zi (k4:Int)))]/\List.drop k4 ag=aM/\aN cs' [ah ae ag,aX bS 36 (zg [fF.v,dU.v,jb.v,jc.v,(zi aj.Source.Version),iW.v,(zi aj.Cache.Age),(zi aj.Now),jd.v,je.v,(zi aj.Spent),iZ.v]),ah fF aj.Schema,bV dU aj.Methods,eY jb aj.Rules,bG jc aj.Source.Facts,dK iW aj.Cache.Entries,eD jd aj.Log,ah je aj.Times,bC (aD 152 (aD 24 (aD 3 az))) iZ.v aj.Results]/\Ku aj aM k4=some R) ⟨_,0,_,rfl,aA,rfl,ay,hF⟩ ?_)
 rintro m2 _ _ ⟨g3,k4,aM,rfl,rfl,hd7,hE,hF⟩
 refine Kb hE ag (fun kT=>?_)
 rcases aM with _|⟨x6,aM⟩
 · have gF:=dn hd7
   rw[Ku]at hF
   refine bg ?_
   refine dJ ?_
   exact ze hF
 obtain⟨gF,bY,gD⟩:=dz hd7
 rw[Ku]at hF
 refine bg ?_
 refine dI ?_
 refine ky ?_
 refine Ai bY (fun k13 oz=>?_)
 refine Al dN ?_
 refine bnd hF fun fI hx16 hF=>lZ (.rd .q2 rfl (.rd .q3 rfl (.rd .q4 rfl (.rd .q5 rfl (.rd .q6 rfl (.rd .q7 rfl (.rd .q8 rfl (.rd .q9 rfl (.rd .q10 rfl .nil))))))))) (qD awL.h (.tmp rfl rfl) b_ (al8 hx16)) (fun _=>?_)
 refine au ?_
 refine Ci hF (fun vG hF=>?_) (fun vG hF=>?_)
 · exact ze hF
 refine aY ?_
 rw[wk k4]
 exact⟨_,bX _,_,k4+1,aM,rfl,aA,gD,ay,hF⟩
def NK(ag:List Int)(aj:aZ):Option (Bool):=
 (Uq ag aj).bind fun r1=>
 some (decide ((0:Int)<=r1))
theorem ak1{ag:List Int}{ae:Sv}{bS:Nat}{aj:aZ}{fF dU jb jc iW jd je iZ:Sv}{R:Bool}(hF:NK ag aj=some R):
   Fw.Spec Tryz.prog 38 [ae.v,(.func (.func 39) [].toArray [(pz bS)].toArray)] [ah ae ag,aX bS 36 (zg [fF.v,dU.v,jb.v,jc.v,(zi aj.Source.Version),iW.v,(zi aj.Cache.Age),(zi aj.Now),jd.v,je.v,(zi aj.Spent),iZ.v]),ah fF aj.Schema,bV dU aj.Methods,eY jb aj.Rules,bG jc aj.Source.Facts,dK iW aj.Cache.Entries,eD jd aj.Log,ah je aj.Times,bC (aD 152 (aD 24 (aD 3 az))) iZ.v aj.Results] (fun _:Unit=>(.bool R)) (fun _=>[]):=by
 refine Se 9 Tryz.func38 [.tmp 4] ?_
 intro H0 F0
 unfold NK at hF
 refine bB ?_
 refine bnd hF fun r1 hx2 hF=>bD (ak9 hx2) (fun _=>?_)
 exact ze hF
def Lc(aa:aZ):Option (Bool):=
 ((y_ aa).bind fun r4=>
   bif r4 then ((NC aa.Log aa).bind fun r8=>
     bif (!r8)then ((NK aa.Times aa).bind fun dC=>
       some (!dC))
     else (some false))
   else (some false)).bind fun o2=>
 match o2 with
 |c15=>some c15
theorem afa{aa:aZ}{ae aO cu dA dw dB dE dG:Sv}{R:Bool}(hF:Lc aa=some R):
   Fw.Spec Tryz.prog 13 [(zg [ae.v,aO.v,cu.v,dA.v,(zi aa.Source.Version),dw.v,(zi aa.Cache.Age),(zi aa.Now),dB.v,dE.v,(zi aa.Spent),dG.v])] [ah ae aa.Schema,bV aO aa.Methods,eY cu aa.Rules,bG dA aa.Source.Facts,dK dw aa.Cache.Entries,eD dB aa.Log,ah dE aa.Times,bC (aD 152 (aD 24 (aD 3 az))) dG.v aa.Results] (fun _:Unit=>(.bool R)) (fun _=>[]):=by
 refine Se 19 Tryz.func13 [.tmp 2] ?_
 intro H0 F0
 unfold Lc at hF
 refine au ?_
 refine bN (fun k1=>?_)
 refine aT ?_
 obtain⟨o2,fU,hO3⟩:=bind_some hF
 refine au ?_
 refine eX (fun f' cs'=>∃(c15:Bool)(g:Fr),c15=o2/\f'=aQ g [(2,(.bool c15))]/\aN cs' []) ?_ ?_
 · replace hF:=fU
   refine au ?_
   refine bnd hF fun r4 hx5 hF=>bD (KA hx5) (fun _=>?_)
   refine au ?_
   rcases bE r4 with bn|bn
   · rw[bn]
     try rw[bn]at hF; dsimp only[aJ,aI]at hF
     refine aY ?_
     refine aP (wo (fn:=.func 37) (vs:=[]) (us:=[(pz k1)]) .nil b_) ?_
     refine au ?_
     refine bnd hF fun r8 bY hF=>bD (akB bY) (fun _=>?_)
     refine bg ?_
     rcases bE (!r8)with dQ|dQ
     · rw[dQ]
       try rw[dQ]at hF; dsimp only[aJ,aI]at hF
       refine aY ?_
       refine aP (wo (fn:=.func 39) (vs:=[]) (us:=[(pz k1)]) .nil b_) ?_
       refine au ?_
       refine bnd hF fun dC iH hF=>bD (ak1 iH) (fun _=>?_)
       exact bJ hF
     rw[dQ]
     try rw[dQ]at hF; dsimp only[aJ,aI]at hF
     exact bJ hF
   rw[bn]
   try rw[bn]at hF; dsimp only[aJ,aI]at hF
   exact bJ hF
 rintro _ _ ⟨c15,g16,rfl,rfl,hE⟩
 replace hF:=hO3
 try dsimp only at hF
 refine bq hE ?_
 exact ze hF
def Aj(aa:aZ):Nat->Int->Option (Bool)
 |0,_=>none
 |m3+1,c2=>(bif (decide ((c2:Int)<(aa.Log.length:Int)))then ((qC aa).bind fun jW=>
       some jW)
     else (some false)).bind fun y8=>
   match y8 with
   |c17=>if c17 then (
       ((ix aa.Log c2).bind fun x20=>
         (ix aa.Methods x20.Method).bind fun nK=>
         bif ((nK.Limit:Int)!=0)then (some true)
         else ((ix aa.Times c2).bind fun Tq=>
           some (decide ((aa.Now:Int)<Tq)))).bind fun kN=>
       match kN with
       |kI=>if kI then (
           some false)
         else (
           Aj aa m3 (IntKind.i64.wrap (c2+1))))
     else (
       (qC aa).bind fun Aa=>
       some Aa)
def Ld(aa:aZ):Option (Bool):=
 Aj aa (((aa.Log.length:Int)-0).toNat+2) 0
theorem afb{aa:aZ}{ae aO cu dA dw dB dE dG:Sv}{R:Bool}(hF:Ld aa=some R):
   Fw.Spec Tryz.prog 14 [(zg [ae.v,aO.v,cu.v,dA.v,(zi aa.Source.Version),dw.v,(zi aa.Cache.Age),(zi aa.Now),dB.v,dE.v,(zi aa.Spent),dG.v])] [ah ae aa.Schema,bV aO aa.Methods,eY cu aa.Rules,bG dA aa.Source.Facts,dK dw aa.Cache.Entries,eD dB aa.Log,ah dE aa.Times,bC (aD 152 (aD 24 (aD 3 az))) dG.v aa.Results] (fun _:Unit=>(.bool R)) (fun _=>[]):=by
 refine Se 39 Tryz.func14 [.tmp 2] ?_
 intro H0 F0
 unfold Ld at hF
 refine au ?_
 refine bN (fun k1=>?_)
 refine bB ?_
 refine bi (bT (m:=(((aa.Log.length:Int)-0).toNat+2)) (fun m3 f' cs'=>∃(g:Fr)(c2:Int),f'=aQ g [(1,(pz k1)),(3,(zi c2))]/\aN cs' [aX k1 36 (zg [ae.v,aO.v,cu.v,dA.v,(zi aa.Source.Version),dw.v,(zi aa.Cache.Age),(zi aa.Now),dB.v,dE.v,(zi aa.Spent),dG.v]),ah ae aa.Schema,bV aO aa.Methods,eY cu aa.Rules,bG dA aa.Source.Facts,dK dw aa.Cache.Entries,eD dB aa.Log,ah dE aa.Times,bC (aD 152 (aD 24 (aD 3 az))) dG.v aa.Results]/\Aj aa m3 c2=some R) ⟨_,_,aA,ay,hF⟩ ?_)
 rintro m3 _ _ ⟨g4,c2,rfl,hE,hF⟩
 refine bq hE ?_
 rcases m3 with _|m3
 · rw[Aj]at hF
   exact absurd hF (by simp)
 rw[Aj]at hF
 refine au ?_
 obtain⟨y8,QT,Nh⟩:=bind_some hF
 refine au ?_
 refine eX (fun f' cs'=>∃(c17:Bool)(g:Fr),c17=y8/\f'=aQ g [(1,(pz k1)),(3,(zi c2)),(12,(.bool c17))]/\aN cs' [aX k1 36 (zg [ae.v,aO.v,cu.v,dA.v,(zi aa.Source.Version),dw.v,(zi aa.Cache.Age),(zi aa.Now),dB.v,dE.v,(zi aa.Spent),dG.v]),ah ae aa.Schema,bV aO aa.Methods,eY cu aa.Rules,bG dA aa.Source.Facts,dK dw aa.Cache.Entries,eD dB aa.Log,ah dE aa.Times,bC (aD 152 (aD 24 (aD 3 az))) dG.v aa.Results]) ?_ ?_
 · replace hF:=QT
   refine bB ?_
   rcases bE (decide ((c2:Int)<(aa.Log.length:Int)))with jr|jr
   · rw[jr]
     try rw[jr]at hF; dsimp only[aJ,aI]at hF
     refine bu ?_
     refine bnd hF fun jW kz hF=>bD (uG kz) (fun _=>?_)
     exact bJ hF
   rw[jr]
   try rw[jr]at hF; dsimp only[aJ,aI]at hF
   exact bJ hF
 rintro _ _ ⟨c17,g46,rfl,rfl,hE⟩
 replace hF:=Nh
 try dsimp only at hF
 refine bq hE ?_
 refine Ci hF (fun ayx hF=>?_) (fun ayx hF=>?_)
 · refine aT ?_
   obtain⟨kN,uR,vD⟩:=bind_some hF
   refine dS [0,1,2,3,4,5,6,7,8,9,10,11,12,13,14,15,16,17,18,19,20,21] [0,1,0,4,0,28,60,124,255,511,1023,2047,4095,8191,16383,8191,65535,131071,8191,270335,1048575,2097151] [] mixed (by decide+kernel) ?_
   refine kS (fun f' cs'=>∃(kI:Bool)(g:Fr),kI=kN/\f'=aQ g [(1,(pz k1)),(3,(zi c2)),(36,(.bool kI))]/\aN cs' [aX k1 36 (zg [ae.v,aO.v,cu.v,dA.v,(zi aa.Source.Version),dw.v,(zi aa.Cache.Age),(zi aa.Now),dB.v,dE.v,(zi aa.Spent),dG.v]),ah ae aa.Schema,bV aO aa.Methods,eY cu aa.Rules,bG dA aa.Source.Facts,dK dw aa.Cache.Entries,eD dB aa.Log,ah dE aa.Times,bC (aD 152 (aD 24 (aD 3 az))) dG.v aa.Results]) ?_ ?_
   · replace hF:=uR
     refine sV ?_
     refine zI hF fun x20 aEp sW hF=>?_
     refine Di sW (fun k24 j25=>?_)
     refine du ?_
     refine Dl LZ ?_
     refine zI hF fun nK Xl hx29 hF=>?_
     refine Di hx29 (fun FL j31=>?_)
     refine du ?_
     refine Dl PU ?_
     refine bR ?_
     rcases bE ((nK.Limit:Int)!=0)with S9|S9
     · rw[S9]
       try rw[S9]at hF; dsimp only[aJ,aI]at hF
       exact eu hF
     rw[S9]
     try rw[S9]at hF; dsimp only[aJ,aI]at hF
     refine dm ?_
     refine zI hF fun Tq aw4 I_ hF=>?_
     refine Di I_ (fun Tt Tu=>?_)
     refine Dl dN ?_
     exact eu hF
   rintro _ _ ⟨kI,g41,rfl,rfl,hE⟩
   replace hF:=vD
   try dsimp only at hF
   refine bq hE ?_
   refine Ci hF (fun Rj hF=>?_) (fun Rj hF=>?_)
   · exact ze hF
   refine bB ?_
   exact⟨m3,bX _,_,_,aA,ay,hF⟩
 refine bB ?_
 refine bnd hF fun Aa ql hF=>bD (uG ql) (fun _=>?_)
 exact ze hF
def Uz(ak:Cache)(aS:cB)(ek:Int):Option (Bool):=
 some ((decide ((0:Int)<=aS.At))&&((decide ((aS.At:Int)<=ek))&&(decide (((IntKind.i64.wrap (ek-aS.At)):Int)<=ak.Age))))
theorem alp{ak:Cache}{ae:Sv}{aS:cB}{aV nG:Sv}{ek:Int}{R:Bool}(hF:Uz ak aS ek=some R):
   Fw.Spec Tryz.prog 42 [(zg [ae.v,(zi ak.Age)]),(zg [(zi aS.Access.Method),aV.v,nG.v,(zi aS.At)]),(zi ek)] [dK ae ak.Entries,ah aV aS.Access.Values,bG nG aS.Facts] (fun _:Unit=>(.bool R)) (fun _=>[]):=by
 refine Se 25 Tryz.func42 [.tmp 6] ?_
 intro H0 F0
 unfold Uz at hF
 refine au ?_
 refine bN (fun k1=>?_)
 refine bN (fun k2=>?_)
 refine bu ?_
 refine eX (fun f' cs'=>∃(g:Fr),f'=aQ g [(6,(.bool ((decide ((0:Int)<=aS.At))&&((decide ((aS.At:Int)<=ek))&&(decide (((IntKind.i64.wrap (ek-aS.At)):Int)<=ak.Age))))))]/\aN cs' []) ?_ ?_
 · refine bg ?_
   rcases bE (decide ((0:Int)<=aS.At))with hg3|hg3
   · rw[hg3]
     try rw[hg3]at hF; dsimp only[aJ,aI]at hF
     refine ky ?_
     rcases bE (decide ((aS.At:Int)<=ek))with hg4|hg4
     · rw[hg4]
       try rw[hg4]at hF; dsimp only[aJ,aI]at hF
       refine asZ ?_
       exact⟨_,aA,ay⟩
     rw[hg4]
     try rw[hg4]at hF; dsimp only[aJ,aI]at hF
     refine ky ?_
     exact⟨_,aA,ay⟩
   rw[hg3]
   try rw[hg3]at hF; dsimp only[aJ,aI]at hF
   refine Qf ?_
   exact⟨_,aA,ay⟩
 rintro _ _ ⟨g5,rfl,hE⟩
 refine bq hE ?_
 exact ze hF
def FU(kC:List Int):List Int->Nat->Option (Bool)
 |[],k4=>some true
 |x6::aM,k4=>(ix kC (k4:Int)).bind fun nu=>
   if ((x6:Int)!=nu)then (
     some false)
   else (
     FU kC aM (k4+1))
def Ur(jZ:List Int)(kC:List Int):Option (Bool):=
 if (((jZ.length:Int):Int)!=(kC.length:Int))then (
   some false)
 else (
   FU kC jZ 0)
theorem ala{jZ:List Int}{ae:Sv}{kC:List Int}{ax:Sv}{R:Bool}(hF:Ur jZ kC=some R):
   Fw.Spec Tryz.prog 126 [ae.v,ax.v] [ah ae jZ,ah ax kC] (fun _:Unit=>(.bool R)) (fun _=>[]):=by
 refine Se 26 Tryz.func126 [.tmp 4] ?_
 intro H0 F0
 unfold Ur at hF
 refine BV ?_
 refine Ci hF (fun yB hF=>?_) (fun yB hF=>?_)
 · exact ze hF
 refine bH ?_
 refine bi (bT (m:=jZ.length) (fun m2 f' cs'=>∃(g:Fr)(k4:Nat)(aM:List Int),m2=aM.length/\f'=aQ g [(0,ae.v),(1,ax.v),(12,(zi (jZ.length:Int))),(13,(zi (k4:Int)))]/\List.drop k4 jZ=aM/\aN cs' [ah ae jZ,ah ax kC]/\FU kC aM k4=some R) ⟨_,0,_,rfl,aA,rfl,ay,hF⟩ ?_)
 rintro m2 _ _ ⟨g3,k4,aM,rfl,rfl,hd7,hE,hF⟩
 refine Kb hE jZ (fun kT=>?_)
 rcases aM with _|⟨x6,aM⟩
 · have gF:=dn hd7
   rw[FU]at hF
   refine bg ?_
   refine dJ ?_
   exact ze hF
 obtain⟨gF,bY,gD⟩:=dz hd7
 rw[FU]at hF
 refine bg ?_
 refine dI ?_
 refine bB ?_
 refine dS [0,1,2,3,4,5,6,7,8] [0,0,3,7,0,0,48,112,255] [] mixed (by decide+kernel) ?_
 refine bR ?_
 refine Di bY (fun k13 oz=>?_)
 refine Dl dN ?_
 refine bR ?_
 refine zI hF fun nu aca mJ hF=>?_
 refine Di mJ (fun k19 FH=>?_)
 refine Dl dN ?_
 refine bR ?_
 refine Ci hF (fun ve hF=>?_) (fun ve hF=>?_)
 · exact ze hF
 refine aY ?_
 rw[wk k4]
 exact⟨_,bX _,_,k4+1,aM,rfl,aA,gD,ay,hF⟩
def Oz(aB:Access)(aR:Access):Option (Bool):=
 (bif ((aB.Method:Int)==aR.Method)then ((Ur aB.Values aR.Values).bind fun r6=>
     some r6)
   else (some false)).bind fun o3=>
 match o3 with
 |c9=>some c9
theorem al9{aB:Access}{aO:Sv}{aR:Access}{aV:Sv}{R:Bool}(hF:Oz aB aR=some R):
   Fw.Spec Tryz.prog 84 [(zg [(zi aB.Method),aO.v]),(zg [(zi aR.Method),aV.v])] [ah aO aB.Values,ah aV aR.Values] (fun _:Unit=>(.bool R)) (fun _=>[]):=by
 refine Se 17 Tryz.func84 [.tmp 4] ?_
 intro H0 F0
 unfold Oz at hF
 refine au ?_
 refine bN (fun k1=>?_)
 refine bN (fun k2=>?_)
 refine aT ?_
 obtain⟨o3,vC,hO4⟩:=bind_some hF
 refine au ?_
 refine eX (fun f' cs'=>∃(c9:Bool)(g:Fr),c9=o3/\f'=aQ g [(4,(.bool c9))]/\aN cs' []) ?_ ?_
 · replace hF:=vC
   refine bB ?_
   rcases bE ((aB.Method:Int)==aR.Method)with hg5|hg5
   · rw[hg5]
     try rw[hg5]at hF; dsimp only[aJ,aI]at hF
     refine gB ?_
     refine bnd hF fun r6 hx7 hF=>bD (ala hx7) (fun _=>?_)
     exact bJ hF
   rw[hg5]
   try rw[hg5]at hF; dsimp only[aJ,aI]at hF
   exact bJ hF
 rintro _ _ ⟨c9,g10,rfl,rfl,hE⟩
 replace hF:=hO4
 try dsimp only at hF
 refine bq hE ?_
 exact ze hF
def Oh(aS:Access)(aj:Access):Option (Bool):=
 (Oz aS aj).bind fun r2=>
 some r2
theorem alR{aS:Access}{aO:Sv}{bS:Nat}{aj:Access}{dU:Sv}{R:Bool}(hF:Oh aS aj=some R):
   Fw.Spec Tryz.prog 83 [(zg [(zi aS.Method),aO.v]),(pz bS)] [ah aO aS.Values,aX bS 45 (zg [(zi aj.Method),dU.v]),ah dU aj.Values] (fun _:Unit=>(.bool R)) (fun _=>[]):=by
 refine Se 7 Tryz.func83 [.tmp 3] ?_
 intro H0 F0
 unfold Oh at hF
 refine au ?_
 refine bN (fun k1=>?_)
 refine aY ?_
 refine bnd hF fun r2 hx3 hF=>bD (al9 hx3) (fun _=>?_)
 exact ze hF
def Kg(aj:Access):List Access->Nat->Option (Int)
 |[],k4=>some (-1)
 |x6::aM,k4=>(Oh x6 aj).bind fun r16=>
   if r16 then (
     some (k4:Int))
   else (
     Kg aj aM (k4+1))
def Ue(ag:List Access)(aj:Access):Option (Int):=
 Kg aj ag 0
theorem akG{ag:List Access}{ae:Sv}{bS:Nat}{aj:Access}{dU:Sv}{R:Int}(hF:Ue ag aj=some R):
   Fw.Spec Tryz.prog 80 [ae.v,(.func (.func 83) [].toArray [(pz bS)].toArray)] [eD ae ag,aX bS 45 (zg [(zi aj.Method),dU.v]),ah dU aj.Values] (fun _:Unit=>(zi R)) (fun _=>[]):=by
 refine Se 19 Tryz.func80 [.tmp 4] ?_
 intro H0 F0
 unfold Ue at hF
 refine gB ?_
 refine bi (bT (m:=ag.length) (fun m2 f' cs'=>∃(g:Fr)(k4:Nat)(aM:List Access),m2=aM.length/\f'=aQ g [(0,ae.v),(1,(.func (.func 83) [].toArray [(pz bS)].toArray)),(7,(zi (ag.length:Int))),(8,(zi (k4:Int)))]/\List.drop k4 ag=aM/\aN cs' [eD ae ag,aX bS 45 (zg [(zi aj.Method),dU.v]),ah dU aj.Values]/\Kg aj aM k4=some R) ⟨_,0,_,rfl,aA,rfl,ay,hF⟩ ?_)
 rintro m2 _ _ ⟨g3,k4,aM,rfl,rfl,hd7,hE,hF⟩
 refine Kb hE ag (fun kT=>?_)
 rcases aM with _|⟨x6,aM⟩
 · have gF:=dn hd7
   rw[Kg]at hF
   refine bg ?_
   refine dJ ?_
   exact ze hF
 obtain⟨gF,bY,gD⟩:=dz hd7
 rw[Kg]at hF
 refine bg ?_
 refine dI ?_
 refine ky ?_
 refine Ai bY (fun k13 oz=>?_)
 refine mX (xm x6) zb (fun ni=>?_)
 refine bnd hF fun r16 jF hF=>lZ (.rd .h rfl (.rd .q3 rfl (.rd .q4 rfl .nil))) (qD awP.h (.tmp rfl rfl) b_ (alR jF)) (fun _=>?_)
 refine au ?_
 refine Ci hF (fun nD hF=>?_) (fun nD hF=>?_)
 · exact ze hF
 refine aY ?_
 rw[wk k4]
 exact⟨_,bX _,_,k4+1,aM,rfl,aA,gD,ay,hF⟩
def NB(ag:List Access)(aj:Access):Option (Bool):=
 (Ue ag aj).bind fun r1=>
 some (decide ((0:Int)<=r1))
theorem akz{ag:List Access}{ae:Sv}{bS:Nat}{aj:Access}{dU:Sv}{R:Bool}(hF:NB ag aj=some R):
   Fw.Spec Tryz.prog 36 [ae.v,(.func (.func 83) [].toArray [(pz bS)].toArray)] [eD ae ag,aX bS 45 (zg [(zi aj.Method),dU.v]),ah dU aj.Values] (fun _:Unit=>(.bool R)) (fun _=>[]):=by
 refine Se 9 Tryz.func36 [.tmp 4] ?_
 intro H0 F0
 unfold NB at hF
 refine bB ?_
 refine bnd hF fun r1 hx2 hF=>bD (akG hx2) (fun _=>?_)
 exact ze hF
def OP(ai:List Access)(aB:Access):Option (Bool):=
 (NB ai aB).bind fun r2=>
 some r2
theorem amv{ai:List Access}{ae:Sv}{aB:Access}{aV:Sv}{R:Bool}(hF:OP ai aB=some R):
   Fw.Spec Tryz.prog 43 [ae.v,(zg [(zi aB.Method),aV.v])] [eD ae ai,ah aV aB.Values] (fun _:Unit=>(.bool R)) (fun _=>[]):=by
 refine Se 8 Tryz.func43 [.tmp 4] ?_
 intro H0 F0
 unfold OP at hF
 refine au ?_
 refine bN (fun k1=>?_)
 refine bg ?_
 refine aP (wo (fn:=.func 83) (vs:=[]) (us:=[(pz k1)]) .nil b_) ?_
 refine bnd hF fun r2 hx3 hF=>bD (akz hx3) (fun _=>?_)
 exact ze hF
def KH(aS:cB)(aj:aZ):Option (Bool):=
 ((Uz aj.Cache aS aj.Now).bind fun r4=>
   bif (!r4)then (some true)
   else ((OP aj.Log aS.Access).bind fun r8=>
     some (!r8))).bind fun o2=>
 match o2 with
 |c11=>some c11
theorem alB{aS:cB}{aO cu:Sv}{bS:Nat}{aj:aZ}{fF dU jb jc iW jd je iZ:Sv}{R:Bool}(hF:KH aS aj=some R):
   Fw.Spec Tryz.prog 41 [(zg [(zi aS.Access.Method),aO.v,cu.v,(zi aS.At)]),(pz bS)] [ah aO aS.Access.Values,bG cu aS.Facts,aX bS 36 (zg [fF.v,dU.v,jb.v,jc.v,(zi aj.Source.Version),iW.v,(zi aj.Cache.Age),(zi aj.Now),jd.v,je.v,(zi aj.Spent),iZ.v]),ah fF aj.Schema,bV dU aj.Methods,eY jb aj.Rules,bG jc aj.Source.Facts,dK iW aj.Cache.Entries,eD jd aj.Log,ah je aj.Times,bC (aD 152 (aD 24 (aD 3 az))) iZ.v aj.Results] (fun _:Unit=>(.bool R)) (fun _=>[]):=by
 refine Se 19 Tryz.func41 [.tmp 3] ?_
 intro H0 F0
 unfold KH at hF
 refine au ?_
 refine bN (fun k1=>?_)
 refine aT ?_
 obtain⟨o2,fU,hO3⟩:=bind_some hF
 refine au ?_
 refine eX (fun f' cs'=>∃(c11:Bool)(g:Fr),c11=o2/\f'=aQ g [(3,(.bool c11))]/\aN cs' []) ?_ ?_
 · replace hF:=fU
   refine au ?_
   refine fo .q3 (fun hp=>j3 (s:=2) (l:=[iW.v,(zi aj.Cache.Age)]) uu.h oL.h.sz (.tmp rfl rfl) hp.2 rfl (by decide) (Nat.le_of_ble_eq_true rfl) rfl) ?_
   refine bu ?_
   refine bnd hF fun r4 hx5 hF=>bD (alp hx5) (fun _=>?_)
   refine aT ?_
   rcases bE (!r4)with bn|bn
   · rw[bn]
     try rw[bn]at hF; dsimp only[aJ,aI]at hF
     exact bJ hF
   rw[bn]
   try rw[bn]at hF; dsimp only[aJ,aI]at hF
   refine bH ?_
   refine fo .h (fun hp=>j3 (s:=2) (l:=[(zi aS.Access.Method),aO.v]) u_.h kr.h.sz (.tmp rfl rfl) hp.2 rfl (by decide) (Nat.le_of_ble_eq_true rfl) rfl) ?_
   refine au ?_
   refine bnd hF fun r8 bY hF=>bD (amv bY) (fun _=>?_)
   exact bJ hF
 rintro _ _ ⟨c11,g12,rfl,rfl,hE⟩
 replace hF:=hO3
 try dsimp only at hF
 refine bq hE ?_
 exact ze hF
def Ke(aj:aZ):List cB->Nat->Option (Int)
 |[],k4=>some (-1)
 |x6::aM,k4=>(KH x6 aj).bind fun r16=>
   if r16 then (
     some (k4:Int))
   else (
     Ke aj aM (k4+1))
def Ud(ag:List cB)(aj:aZ):Option (Int):=
 Ke aj ag 0
theorem akF{ag:List cB}{ae:Sv}{bS:Nat}{aj:aZ}{fF dU jb jc iW jd je iZ:Sv}{R:Int}(hF:Ud ag aj=some R):
   Fw.Spec Tryz.prog 82 [ae.v,(.func (.func 41) [].toArray [(pz bS)].toArray)] [dK ae ag,aX bS 36 (zg [fF.v,dU.v,jb.v,jc.v,(zi aj.Source.Version),iW.v,(zi aj.Cache.Age),(zi aj.Now),jd.v,je.v,(zi aj.Spent),iZ.v]),ah fF aj.Schema,bV dU aj.Methods,eY jb aj.Rules,bG jc aj.Source.Facts,dK iW aj.Cache.Entries,eD jd aj.Log,ah je aj.Times,bC (aD 152 (aD 24 (aD 3 az))) iZ.v aj.Results] (fun _:Unit=>(zi R)) (fun _=>[]):=by
 refine Se 19 Tryz.func82 [.tmp 4] ?_
 intro H0 F0
 unfold Ud at hF
 refine gB ?_
 refine bi (bT (m:=ag.length) (fun m2 f' cs'=>∃(g:Fr)(k4:Nat)(aM:List cB),m2=aM.length/\f'=aQ g [(0,ae.v),(1,(.func (.func 41) [].toArray [(pz bS)].toArray)),(7,(zi (ag.length:Int))),(8,(zi (k4:Int)))]/\List.drop k4 ag=aM/\aN cs' [dK ae ag,aX bS 36 (zg [fF.v,dU.v,jb.v,jc.v,(zi aj.Source.Version),iW.v,(zi aj.Cache.Age),(zi aj.Now),jd.v,je.v,(zi aj.Spent),iZ.v]),ah fF aj.Schema,bV dU aj.Methods,eY jb aj.Rules,bG jc aj.Source.Facts,dK iW aj.Cache.Entries,eD jd aj.Log,ah je aj.Times,bC (aD 152 (aD 24 (aD 3 az))) iZ.v aj.Results]/\Ke aj aM k4=some R) ⟨_,0,_,rfl,aA,rfl,ay,hF⟩ ?_)
 rintro m2 _ _ ⟨g3,k4,aM,rfl,rfl,hd7,hE,hF⟩
 refine Kb hE ag (fun kT=>?_)
 rcases aM with _|⟨x6,aM⟩
 · have gF:=dn hd7
   rw[Ke]at hF
   refine bg ?_
   refine dJ ?_
   exact ze hF
 obtain⟨gF,bY,gD⟩:=dz hd7
 rw[Ke]at hF
 refine bg ?_
 refine dI ?_
 refine ky ?_
 refine Ai bY (fun k13 oz=>?_)
 refine xO (wu x6) xk (fun ni=>?_)
 refine bnd hF fun r16 jF hF=>lZ (.rd .h rfl (.rd (.t .h) rfl (.rd .q4 rfl (.rd .q5 rfl (.rd .q6 rfl (.rd .q7 rfl (.rd .q8 rfl (.rd .q9 rfl (.rd .q10 rfl (.rd .q11 rfl (.rd .q12 rfl .nil))))))))))) (qD awO.h (.tmp rfl rfl) b_ (alB jF)) (fun _=>?_)
 refine au ?_
 refine Ci hF (fun nD hF=>?_) (fun nD hF=>?_)
 · exact ze hF
 refine aY ?_
 rw[wk k4]
 exact⟨_,bX _,_,k4+1,aM,rfl,aA,gD,ay,hF⟩
def NA(ag:List cB)(aj:aZ):Option (Bool):=
 (Ud ag aj).bind fun r1=>
 some (decide ((0:Int)<=r1))
theorem akv{ag:List cB}{ae:Sv}{bS:Nat}{aj:aZ}{fF dU jb jc iW jd je iZ:Sv}{R:Bool}(hF:NA ag aj=some R):
   Fw.Spec Tryz.prog 40 [ae.v,(.func (.func 41) [].toArray [(pz bS)].toArray)] [dK ae ag,aX bS 36 (zg [fF.v,dU.v,jb.v,jc.v,(zi aj.Source.Version),iW.v,(zi aj.Cache.Age),(zi aj.Now),jd.v,je.v,(zi aj.Spent),iZ.v]),ah fF aj.Schema,bV dU aj.Methods,eY jb aj.Rules,bG jc aj.Source.Facts,dK iW aj.Cache.Entries,eD jd aj.Log,ah je aj.Times,bC (aD 152 (aD 24 (aD 3 az))) iZ.v aj.Results] (fun _:Unit=>(.bool R)) (fun _=>[]):=by
 refine Se 9 Tryz.func40 [.tmp 4] ?_
 intro H0 F0
 unfold NA at hF
 refine bB ?_
 refine bnd hF fun r1 hx2 hF=>bD (akF hx2) (fun _=>?_)
 exact ze hF
def KS(aa:aZ):Option (Bool):=
 ((y_ aa).bind fun r4=>
   bif r4 then ((NA aa.Cache.Entries aa).bind fun r8=>
     some (!r8))
   else (some false)).bind fun o2=>
 match o2 with
 |c11=>some c11
theorem aeE{aa:aZ}{ae aO cu dA dw dB dE dG:Sv}{R:Bool}(hF:KS aa=some R):
   Fw.Spec Tryz.prog 15 [(zg [ae.v,aO.v,cu.v,dA.v,(zi aa.Source.Version),dw.v,(zi aa.Cache.Age),(zi aa.Now),dB.v,dE.v,(zi aa.Spent),dG.v])] [ah ae aa.Schema,bV aO aa.Methods,eY cu aa.Rules,bG dA aa.Source.Facts,dK dw aa.Cache.Entries,eD dB aa.Log,ah dE aa.Times,bC (aD 152 (aD 24 (aD 3 az))) dG.v aa.Results] (fun _:Unit=>(.bool R)) (fun _=>[]):=by
 refine Se 13 Tryz.func15 [.tmp 2] ?_
 intro H0 F0
 unfold KS at hF
 refine au ?_
 refine bN (fun k1=>?_)
 refine aT ?_
 obtain⟨o2,fU,hO3⟩:=bind_some hF
 refine au ?_
 refine eX (fun f' cs'=>∃(c11:Bool)(g:Fr),c11=o2/\f'=aQ g [(2,(.bool c11))]/\aN cs' []) ?_ ?_
 · replace hF:=fU
   refine au ?_
   refine bnd hF fun r4 hx5 hF=>bD (KA hx5) (fun _=>?_)
   refine au ?_
   rcases bE r4 with bn|bn
   · rw[bn]
     try rw[bn]at hF; dsimp only[aJ,aI]at hF
     refine bH ?_
     refine aP (wo (fn:=.func 41) (vs:=[]) (us:=[(pz k1)]) .nil b_) ?_
     refine au ?_
     refine bnd hF fun r8 bY hF=>bD (akv bY) (fun _=>?_)
     exact bJ hF
   rw[bn]
   try rw[bn]at hF; dsimp only[aJ,aI]at hF
   exact bJ hF
 rintro _ _ ⟨c11,g12,rfl,rfl,hE⟩
 replace hF:=hO3
 try dsimp only at hF
 refine bq hE ?_
 exact ze hF
def KJ(aB:Access):List Access->Nat->Option (Bool)
 |[],k5=>some false
 |x7::eH,k5=>(zh x7 aB).bind fun oP=>
   if oP then (
     some true)
   else (
     KJ aB eH (k5+1))
def U7(lq:List Access)(aB:Access):Option (Bool):=
 KJ aB lq 0
theorem am3{lq:List Access}{ae:Sv}{aB:Access}{aV:Sv}{R:Bool}(hF:U7 lq aB=some R):
   Fw.Spec Tryz.prog 44 [ae.v,(zg [(zi aB.Method),aV.v])] [eD ae lq,ah aV aB.Values] (fun _:Unit=>(.bool R)) (fun _=>[]):=by
 refine Se 18 Tryz.func44 [.tmp 4] ?_
 intro H0 F0
 unfold U7 at hF
 refine au ?_
 refine bN (fun k1=>?_)
 refine bB ?_
 refine bi (bT (m:=lq.length) (fun m3 f' cs'=>∃(g:Fr)(k5:Nat)(eH:List Access),m3=eH.length/\f'=aQ g [(0,ae.v),(3,(pz k1)),(5,(zi (k5:Int)))]/\List.drop k5 lq=eH/\aN cs' [eD ae lq,aX k1 45 (zg [(zi aB.Method),aV.v]),ah aV aB.Values]/\KJ aB eH k5=some R) ⟨_,0,_,rfl,aA,rfl,ay,hF⟩ ?_)
 rintro m3 _ _ ⟨g4,k5,eH,rfl,rfl,nJ,hE,hF⟩
 refine Kb hE lq (fun IP=>?_)
 rcases eH with _|⟨x7,eH⟩
 · have tT:=dn nJ
   rw[KJ]at hF
   refine bH ?_
   refine dJ ?_
   exact ze hF
 obtain⟨tT,jm,jY⟩:=dz nJ
 rw[KJ]at hF
 refine bH ?_
 refine dI ?_
 refine aT ?_
 refine dS [0,1,2,3,4,5] [0,0,3,7,0,31] [5] mixed (by decide+kernel) ?_
 refine bR ?_
 refine Di jm (fun k14 Ty=>?_)
 refine jP (xm x7) zb (fun p16=>?_)
 refine du ?_
 refine bnd hF fun oP mJ hF=>eZ (UX mJ) (fun _=>?_)
 refine du ?_
 refine Ci hF (fun I5 hF=>?_) (fun I5 hF=>?_)
 · exact ze hF
 refine bB ?_
 rw[wk k5]
 exact⟨_,bX _,_,k5+1,eH,rfl,aA,jY,ay,hF⟩
def Ad(aa:aZ):Nat->Int->Option (Bool)
 |0,_=>none
 |m3+1,c2=>(bif (decide ((c2:Int)<(aa.Cache.Entries.length:Int)))then ((qC aa).bind fun jW=>
       some jW)
     else (some false)).bind fun y8=>
   match y8 with
   |c17=>if c17 then (
       (ix aa.Cache.Entries c2).bind fun g_=>
       (bif (decide ((aa.Now:Int)<g_.At))then (some true)
         else (bif (decide ((aa.Cache.Age:Int)<(IntKind.i64.wrap (aa.Now-g_.At))))then (some true)
           else ((U7 aa.Log g_.Access).bind fun mQ=>
             some (!mQ)))).bind fun o26=>
       match o26 with
       |j_=>if j_ then (
           some false)
         else (
           Ad aa m3 (IntKind.i64.wrap (c2+1))))
     else (
       (qC aa).bind fun TP=>
       some TP)
def KT(aa:aZ):Option (Bool):=
 Ad aa (((aa.Cache.Entries.length:Int)-0).toNat+2) 0
theorem aeF{aa:aZ}{ae aO cu dA dw dB dE dG:Sv}{R:Bool}(hF:KT aa=some R):
   Fw.Spec Tryz.prog 16 [(zg [ae.v,aO.v,cu.v,dA.v,(zi aa.Source.Version),dw.v,(zi aa.Cache.Age),(zi aa.Now),dB.v,dE.v,(zi aa.Spent),dG.v])] [ah ae aa.Schema,bV aO aa.Methods,eY cu aa.Rules,bG dA aa.Source.Facts,dK dw aa.Cache.Entries,eD dB aa.Log,ah dE aa.Times,bC (aD 152 (aD 24 (aD 3 az))) dG.v aa.Results] (fun _:Unit=>(.bool R)) (fun _=>[]):=by
 refine Se 49 Tryz.func16 [.tmp 2] ?_
 intro H0 F0
 unfold KT at hF
 refine au ?_
 refine bN (fun k1=>?_)
 refine bB ?_
 refine bi (bT (m:=(((aa.Cache.Entries.length:Int)-0).toNat+2)) (fun m3 f' cs'=>∃(g:Fr)(c2:Int),f'=aQ g [(1,(pz k1)),(3,(zi c2))]/\aN cs' [aX k1 36 (zg [ae.v,aO.v,cu.v,dA.v,(zi aa.Source.Version),dw.v,(zi aa.Cache.Age),(zi aa.Now),dB.v,dE.v,(zi aa.Spent),dG.v]),ah ae aa.Schema,bV aO aa.Methods,eY cu aa.Rules,bG dA aa.Source.Facts,dK dw aa.Cache.Entries,eD dB aa.Log,ah dE aa.Times,bC (aD 152 (aD 24 (aD 3 az))) dG.v aa.Results]/\Ad aa m3 c2=some R) ⟨_,_,aA,ay,hF⟩ ?_)
 rintro m3 _ _ ⟨g4,c2,rfl,hE,hF⟩
 refine bq hE ?_
 rcases m3 with _|m3
 · rw[Ad]at hF
   exact absurd hF (by simp)
 rw[Ad]at hF
 refine au ?_
 obtain⟨y8,QT,Nh⟩:=bind_some hF
 refine au ?_
 refine eX (fun f' cs'=>∃(c17:Bool)(g:Fr),c17=y8/\f'=aQ g [(1,(pz k1)),(3,(zi c2)),(14,(.bool c17))]/\aN cs' [aX k1 36 (zg [ae.v,aO.v,cu.v,dA.v,(zi aa.Source.Version),dw.v,(zi aa.Cache.Age),(zi aa.Now),dB.v,dE.v,(zi aa.Spent),dG.v]),ah ae aa.Schema,bV aO aa.Methods,eY cu aa.Rules,bG dA aa.Source.Facts,dK dw aa.Cache.Entries,eD dB aa.Log,ah dE aa.Times,bC (aD 152 (aD 24 (aD 3 az))) dG.v aa.Results]) ?_ ?_
 · replace hF:=QT
   refine bH ?_
   rcases bE (decide ((c2:Int)<(aa.Cache.Entries.length:Int)))with jr|jr
   · rw[jr]
     try rw[jr]at hF; dsimp only[aJ,aI]at hF
     refine bu ?_
     refine bnd hF fun jW kz hF=>bD (uG kz) (fun _=>?_)
     exact bJ hF
   rw[jr]
   try rw[jr]at hF; dsimp only[aJ,aI]at hF
   exact bJ hF
 rintro _ _ ⟨c17,Yk,rfl,rfl,hE⟩
 replace hF:=Nh
 try dsimp only at hF
 refine bq hE ?_
 refine Ci hF (fun Cx hF=>?_) (fun Cx hF=>?_)
 · refine bH ?_
   refine zI hF fun g_ ajB lv hF=>?_
   refine Ai lv (fun k22 j23=>?_)
   refine xO (wu g_) xk (fun nH=>?_)
   refine dX (fun k25=>?_)
   refine As (zg [(zi g_.Access.Method),nH.1.v,nH.2.v,(zi g_.At)]) ?_
   refine au ?_
   obtain⟨o26,avs,ayy⟩:=bind_some hF
   refine au ?_
   refine eX (fun f' cs'=>∃(j_:Bool)(g:Fr),j_=o26/\f'=aQ g [(1,(pz k1)),(3,(zi c2)),(46,(.bool j_))]/\aN cs' [aX k1 36 (zg [ae.v,aO.v,cu.v,dA.v,(zi aa.Source.Version),dw.v,(zi aa.Cache.Age),(zi aa.Now),dB.v,dE.v,(zi aa.Spent),dG.v]),ah ae aa.Schema,bV aO aa.Methods,eY cu aa.Rules,bG dA aa.Source.Facts,dK dw aa.Cache.Entries,eD dB aa.Log,ah dE aa.Times,bC (aD 152 (aD 24 (aD 3 az))) dG.v aa.Results]) ?_ ?_
   · replace hF:=avs
     refine bB ?_
     rcases bE (decide ((aa.Now:Int)<g_.At))with yL|yL
     · rw[yL]
       try rw[yL]at hF; dsimp only[aJ,aI]at hF
       exact bJ hF
     rw[yL]
     try rw[yL]at hF; dsimp only[aJ,aI]at hF
     refine as1 ?_
     rcases bE (decide ((aa.Cache.Age:Int)<(IntKind.i64.wrap (aa.Now-g_.At))))with qO|qO
     · rw[qO]
       try rw[qO]at hF; dsimp only[aJ,aI]at hF
       exact bJ hF
     rw[qO]
     try rw[qO]at hF; dsimp only[aJ,aI]at hF
     refine bH ?_
     refine fo .h (fun hp=>j3 (s:=2) (l:=[(zi g_.Access.Method),nH.1.v]) u_.h kr.h.sz (.tmp rfl rfl) hp.2 rfl (by decide) (Nat.le_of_ble_eq_true rfl) rfl) ?_
     refine au ?_
     refine bnd hF fun mQ hx31 hF=>bD (am3 hx31) (fun _=>?_)
     exact bJ hF
   rintro _ _ ⟨j_,g35,rfl,rfl,hE⟩
   replace hF:=ayy
   try dsimp only at hF
   refine bq hE ?_
   refine Ci hF (fun ayz hF=>?_) (fun ayz hF=>?_)
   · exact ze hF
   refine bB ?_
   exact⟨m3,bX _,_,_,aA,ay,hF⟩
 refine bB ?_
 refine bnd hF fun TP Sj hF=>bD (uG Sj) (fun _=>?_)
 exact ze hF
def KC(aa:aZ):Option (Bool):=
 ((KQ aa).bind fun r4=>
   bif r4 then ((Lc aa).bind fun r8=>
     bif r8 then ((KS aa).bind fun dC=>
       some dC)
     else (some false))
   else (some false)).bind fun o2=>
 match o2 with
 |c15=>some c15
theorem ad4{aa:aZ}{ae aO cu dA dw dB dE dG:Sv}{R:Bool}(hF:KC aa=some R):
   Fw.Spec Tryz.prog 17 [(zg [ae.v,aO.v,cu.v,dA.v,(zi aa.Source.Version),dw.v,(zi aa.Cache.Age),(zi aa.Now),dB.v,dE.v,(zi aa.Spent),dG.v])] [ah ae aa.Schema,bV aO aa.Methods,eY cu aa.Rules,bG dA aa.Source.Facts,dK dw aa.Cache.Entries,eD dB aa.Log,ah dE aa.Times,bC (aD 152 (aD 24 (aD 3 az))) dG.v aa.Results] (fun _:Unit=>(.bool R)) (fun _=>[]):=by
 refine Se 13 Tryz.func17 [.tmp 2] ?_
 intro H0 F0
 unfold KC at hF
 refine au ?_
 refine bN (fun k1=>?_)
 refine aT ?_
 obtain⟨o2,fU,hO3⟩:=bind_some hF
 refine au ?_
 refine eX (fun f' cs'=>∃(c15:Bool)(g:Fr),c15=o2/\f'=aQ g [(2,(.bool c15))]/\aN cs' []) ?_ ?_
 · replace hF:=fU
   refine au ?_
   refine bnd hF fun r4 hx5 hF=>bD (aeC hx5) (fun _=>?_)
   refine au ?_
   rcases bE r4 with bn|bn
   · rw[bn]
     try rw[bn]at hF; dsimp only[aJ,aI]at hF
     refine bu ?_
     refine bnd hF fun r8 bY hF=>bD (afa bY) (fun _=>?_)
     refine aT ?_
     rcases bE r8 with dQ|dQ
     · rw[dQ]
       try rw[dQ]at hF; dsimp only[aJ,aI]at hF
       refine bu ?_
       refine bnd hF fun dC iH hF=>bD (aeE iH) (fun _=>?_)
       exact bJ hF
     rw[dQ]
     try rw[dQ]at hF; dsimp only[aJ,aI]at hF
     exact bJ hF
   rw[bn]
   try rw[bn]at hF; dsimp only[aJ,aI]at hF
   exact bJ hF
 rintro _ _ ⟨c15,g16,rfl,rfl,hE⟩
 replace hF:=hO3
 try dsimp only at hF
 refine bq hE ?_
 exact ze hF
def KD(aa:aZ):Option (Bool):=
 ((KR aa).bind fun r4=>
   bif r4 then ((Ld aa).bind fun r8=>
     bif r8 then ((KT aa).bind fun dC=>
       some dC)
     else (some false))
   else (some false)).bind fun o2=>
 match o2 with
 |c15=>some c15
theorem ad5{aa:aZ}{ae aO cu dA dw dB dE dG:Sv}{R:Bool}(hF:KD aa=some R):
   Fw.Spec Tryz.prog 18 [(zg [ae.v,aO.v,cu.v,dA.v,(zi aa.Source.Version),dw.v,(zi aa.Cache.Age),(zi aa.Now),dB.v,dE.v,(zi aa.Spent),dG.v])] [ah ae aa.Schema,bV aO aa.Methods,eY cu aa.Rules,bG dA aa.Source.Facts,dK dw aa.Cache.Entries,eD dB aa.Log,ah dE aa.Times,bC (aD 152 (aD 24 (aD 3 az))) dG.v aa.Results] (fun _:Unit=>(.bool R)) (fun _=>[]):=by
 refine Se 13 Tryz.func18 [.tmp 2] ?_
 intro H0 F0
 unfold KD at hF
 refine au ?_
 refine bN (fun k1=>?_)
 refine aT ?_
 obtain⟨o2,fU,hO3⟩:=bind_some hF
 refine au ?_
 refine eX (fun f' cs'=>∃(c15:Bool)(g:Fr),c15=o2/\f'=aQ g [(2,(.bool c15))]/\aN cs' []) ?_ ?_
 · replace hF:=fU
   refine au ?_
   refine bnd hF fun r4 hx5 hF=>bD (aeD hx5) (fun _=>?_)
   refine au ?_
   rcases bE r4 with bn|bn
   · rw[bn]
     try rw[bn]at hF; dsimp only[aJ,aI]at hF
     refine bu ?_
     refine bnd hF fun r8 bY hF=>bD (afb bY) (fun _=>?_)
     refine aT ?_
     rcases bE r8 with dQ|dQ
     · rw[dQ]
       try rw[dQ]at hF; dsimp only[aJ,aI]at hF
       refine bu ?_
       refine bnd hF fun dC iH hF=>bD (aeF iH) (fun _=>?_)
       exact bJ hF
     rw[dQ]
     try rw[dQ]at hF; dsimp only[aJ,aI]at hF
     exact bJ hF
   rw[bn]
   try rw[bn]at hF; dsimp only[aJ,aI]at hF
   exact bJ hF
 rintro _ _ ⟨c15,g16,rfl,rfl,hE⟩
 replace hF:=hO3
 try dsimp only at hF
 refine bq hE ?_
 exact ze hF
def Dj(di:df)(bF:Fact):List Int->Nat->(List Int)->Option (Fact×Bool)
 |[],nk,lH=>some ((⟨di.To,lH⟩:Fact),true)
 |wU::o9,nk,lH=>(ix bF.Values wU).bind fun vS=>
   (app lH ([vS]:List Int)).bind fun z53=>
   Dj di bF o9 (nk+1) z53
def N8(di:df)(bF:Fact):Option (Fact×Bool):=
 if ((bF.Rel:Int)!=di.From)then (
   some ((⟨0,[]⟩:Fact),false))
 else (
   Dj di bF di.Map 0 ([]:List Int))
theorem alC{di:df}{cu:Sv}{bF:Fact}{aV:Sv}{R:Fact×Bool}(hF:N8 di bF=some R):
   Fw.Spec Tryz.prog 85 [(zg [(zi di.From),(zi di.To),cu.v]),(zg [(zi bF.Rel),aV.v])] [ah cu di.Map,ah aV bF.Values] (fun p:Sv×List Nat=>(.tuple [(zg [(zi R.1.Rel),p.1.v]),(.bool R.2)].toArray)) (fun p=>[bI p.2 p.1 R.1.Values]):=by
 refine Se 37 Tryz.func85 [.cell 4 70,.tmp 5] ?_
 intro H0 F0
 unfold N8 at hF
 refine au ?_
 refine bN (fun k1=>?_)
 refine bN (fun k2=>?_)
 refine dX (fun k3=>?_)
 refine ky ?_
 refine Ci hF (fun CB hF=>?_) (fun CB hF=>?_)
 · refine au ?_
   refine aP (iB dZ.h rfl (vs:=[]) .nil (cells:=[(zi 0),(.slice none 0 0)]) rfl) ?_
   refine As (zg [(zi 0),(.slice none 0 0)]) ?_
   refine bu ?_
   cases hF
   exact gQ (⟨none,0,0⟩,[]) (.cellA rfl rfl .h rfl u7.h dZ.h.sz rfl rfl (.tmp rfl rfl .nil)) rfl (.conv .nil (gT (Ro:=(aC az)) (E:=3)) (.cons .nil) (.sel (.cons .h .nil)))
 refine bg ?_
 refine aP (iB dZ.h rfl (vs:=[(zi di.To)]) b_ (cells:=[(zi di.To),(.slice none 0 0)]) rfl) ?_
 refine dX (fun k4=>?_)
 refine As (zg [(zi di.To),(.slice none 0 0)]) ?_
 refine dL ?_
 refine bi (bT (m:=di.Map.length) (fun TT f' cs'=>∃(g:Fr)(nk:Nat)(o9 lH:List Int)(v30:Sv)(J9:List Nat),TT=o9.length/\f'=aQ g [(3,(pz k2)),(4,(pz k3)),(6,(pz k4)),(19,cu.v),(20,(zi (di.Map.length:Int))),(21,(zi (nk:Int)))]/\List.drop nk di.Map=o9/\aN cs' [aX k2 70 (zg [(zi bF.Rel),aV.v]),ah aV bF.Values,aW k3 70 (zg [(zi 0),(.slice none 0 0)]),aW k4 70 (zg [(zi di.To),v30.v]),bI J9 v30 lH,ah cu di.Map]/\Dj di bF o9 nk lH=some R) ⟨_,0,_,_,⟨none,0,0⟩,[],rfl,aA,rfl,(.conv .nil (gT (Ro:=(aC az)) (E:=3)) (.cons .nil) ay),hF⟩ ?_)
 rintro TT _ _ ⟨g34,nk,o9,lH,v30,J9,rfl,rfl,hd38,hE,hF⟩
 refine Kb hE di.Map (fun avt=>?_)
 rcases o9 with _|⟨wU,o9⟩
 · have adv:=dn hd38
   rw[Dj]at hF
   refine bg ?_
   refine dJ ?_
   refine bB ?_
   refine As (zg [(zi di.To),v30.v]) ?_
   refine bu ?_
   cases hF
   exact gQ (v30,J9) (.cellA rfl rfl .h rfl u7.h dZ.h.sz rfl rfl (.tmp rfl rfl .nil)) rfl (.sel (.cons .q4 .nil))
 obtain⟨adv,tq,CK⟩:=dz hd38
 rw[Dj]at hF
 refine bg ?_
 refine dI ?_
 refine bu ?_
 refine Ai tq (fun Yg Yh=>?_)
 refine Al dN ?_
 refine aT ?_
 refine jf [0,1,2,3,4,5,6,7,8,9,10] [0,1,0,4,0,28,60,124,255,511,1023] [8,10] mixed (by decide+kernel) ?_
 refine du ?_
 refine dM rfl .no .q4 (fun ha hp=>fe (v:=v30.v) iA.h (EN ha (.tmp rfl rfl) rfl) hp.2 rfl rfl) ?_
 refine dm ?_
 refine zI hF fun vS ajE qR hF=>?_
 refine Di qR (fun Yn Yo=>?_)
 refine Dl dN ?_
 refine iq rfl .no rfl (fun ha=>bO (g:=true) (len:=1) (parts:=[(0,.tmp 31)]) dh.h dx.h (.cons (EN ha (.tmp rfl rfl) rfl) .nil) (vs:=[(zi vS)]) rfl rfl rfl (by intro v hv; simp at hv; rcases hv with rfl<;>rfl)) (fun k52=>?_)
 refine iR (.cons .h .nil) (bQ (Ro:=(aC az)) (E:=3) (F:=([]++[])) (xs:=([vS]:List Int)) (d_ (jh (fun _=>rfl)) bP cK) rfl rfl) ?_
 refine bnd hF fun z53 tu hF=>cO rfl rfl .no (.cons .q7 (.cons .h .nil)) (.dep rfl (.dep rfl .nil)) (fun ha=>dV (Ro:=(aC az)) dh.h iQ dx.h rfl rfl rfl (EN ha (.tmp rfl rfl) rfl) (EN ha (.tmp rfl rfl) rfl) tu fw) (fun p55=>?_)
 refine du ?_
 refine cO rfl rfl .no (.cons .q6 .nil) (.dep rfl (.dep rfl .nil)) (fun ha=>gz (e':=(zg [(zi di.To),p55.1.v])) pE.h.sz (EN ha (.tmp rfl rfl) rfl) (EN ha (.tmp rfl rfl) rfl) rfl rfl rfl rfl rfl) (fun _=>?_)
 refine du ?_
 refine bg ?_
 rw[wk nk]
 exact⟨_,bX _,_,nk+1,o9,_,p55.1,p55.2,rfl,aA,CK,ay,hF⟩
def OQ(aS:Fact)(aj:Fact):Option (Bool):=
 (Dy aS aj).bind fun r2=>
 some ((r2:Int)==0)
theorem amw{aS:Fact}{aO:Sv}{bS:Nat}{aj:Fact}{dU:Sv}{R:Bool}(hF:OQ aS aj=some R):
   Fw.Spec Tryz.prog 128 [(zg [(zi aS.Rel),aO.v]),(pz bS)] [ah aO aS.Values,aX bS 70 (zg [(zi aj.Rel),dU.v]),ah dU aj.Values] (fun _:Unit=>(.bool R)) (fun _=>[]):=by
 refine Se 8 Tryz.func128 [.tmp 3] ?_
 intro H0 F0
 unfold OQ at hF
 refine au ?_
 refine bN (fun k1=>?_)
 refine aY ?_
 refine bnd hF fun r2 hx3 hF=>bD (Uv hx3) (fun _=>?_)
 exact ze hF
def Kl(aj:Fact):List Fact->Nat->Option (Int)
 |[],k4=>some (-1)
 |x6::aM,k4=>(OQ x6 aj).bind fun r16=>
   if r16 then (
     some (k4:Int))
   else (
     Kl aj aM (k4+1))
def Ui(ag:List Fact)(aj:Fact):Option (Int):=
 Kl aj ag 0
theorem akQ{ag:List Fact}{ae:Sv}{bS:Nat}{aj:Fact}{dU:Sv}{R:Int}(hF:Ui ag aj=some R):
   Fw.Spec Tryz.prog 120 [ae.v,(.func (.func 128) [].toArray [(pz bS)].toArray)] [bG ae ag,aX bS 70 (zg [(zi aj.Rel),dU.v]),ah dU aj.Values] (fun _:Unit=>(zi R)) (fun _=>[]):=by
 refine Se 19 Tryz.func120 [.tmp 4] ?_
 intro H0 F0
 unfold Ui at hF
 refine gB ?_
 refine bi (bT (m:=ag.length) (fun m2 f' cs'=>∃(g:Fr)(k4:Nat)(aM:List Fact),m2=aM.length/\f'=aQ g [(0,ae.v),(1,(.func (.func 128) [].toArray [(pz bS)].toArray)),(7,(zi (ag.length:Int))),(8,(zi (k4:Int)))]/\List.drop k4 ag=aM/\aN cs' [bG ae ag,aX bS 70 (zg [(zi aj.Rel),dU.v]),ah dU aj.Values]/\Kl aj aM k4=some R) ⟨_,0,_,rfl,aA,rfl,ay,hF⟩ ?_)
 rintro m2 _ _ ⟨g3,k4,aM,rfl,rfl,hd7,hE,hF⟩
 refine Kb hE ag (fun kT=>?_)
 rcases aM with _|⟨x6,aM⟩
 · have gF:=dn hd7
   rw[Kl]at hF
   refine bg ?_
   refine dJ ?_
   exact ze hF
 obtain⟨gF,bY,gD⟩:=dz hd7
 rw[Kl]at hF
 refine bg ?_
 refine dI ?_
 refine ky ?_
 refine Ai bY (fun k13 oz=>?_)
 refine mX (lU x6) mf (fun ni=>?_)
 refine bnd hF fun r16 jF hF=>lZ (.rd .h rfl (.rd .q3 rfl (.rd .q4 rfl .nil))) (qD asV.h (.tmp rfl rfl) b_ (amw jF)) (fun _=>?_)
 refine au ?_
 refine Ci hF (fun nD hF=>?_) (fun nD hF=>?_)
 · exact ze hF
 refine aY ?_
 rw[wk k4]
 exact⟨_,bX _,_,k4+1,aM,rfl,aA,gD,ay,hF⟩
def NE(ag:List Fact)(aj:Fact):Option (Bool):=
 (Ui ag aj).bind fun r1=>
 some (decide ((0:Int)<=r1))
theorem akK{ag:List Fact}{ae:Sv}{bS:Nat}{aj:Fact}{dU:Sv}{R:Bool}(hF:NE ag aj=some R):
   Fw.Spec Tryz.prog 127 [ae.v,(.func (.func 128) [].toArray [(pz bS)].toArray)] [bG ae ag,aX bS 70 (zg [(zi aj.Rel),dU.v]),ah dU aj.Values] (fun _:Unit=>(.bool R)) (fun _=>[]):=by
 refine Se 9 Tryz.func127 [.tmp 4] ?_
 intro H0 F0
 unfold NE at hF
 refine bB ?_
 refine bnd hF fun r1 hx2 hF=>bD (akQ hx2) (fun _=>?_)
 exact ze hF
def Ij(ai:List Fact)(bF:Fact):Option (Bool):=
 (NE ai bF).bind fun r2=>
 some r2
theorem afw{ai:List Fact}{ae:Sv}{bF:Fact}{aV:Sv}{R:Bool}(hF:Ij ai bF=some R):
   Fw.Spec Tryz.prog 86 [ae.v,(zg [(zi bF.Rel),aV.v])] [bG ae ai,ah aV bF.Values] (fun _:Unit=>(.bool R)) (fun _=>[]):=by
 refine Se 8 Tryz.func86 [.tmp 4] ?_
 intro H0 F0
 unfold Ij at hF
 refine au ?_
 refine bN (fun k1=>?_)
 refine bg ?_
 refine aP (wo (fn:=.func 128) (vs:=[]) (us:=[(pz k1)]) .nil b_) ?_
 refine bnd hF fun r2 hx3 hF=>bD (akK hx3) (fun _=>?_)
 exact ze hF
def Pq(aS:Fact)(aj:Fact):Option (Bool):=
 (Dy aS aj).bind fun r2=>
 some (decide ((0:Int)<r2))
theorem anC{aS:Fact}{aO:Sv}{bS:Nat}{aj:Fact}{dU:Sv}{R:Bool}(hF:Pq aS aj=some R):
   Fw.Spec Tryz.prog 129 [(zg [(zi aS.Rel),aO.v]),(pz bS)] [ah aO aS.Values,aX bS 70 (zg [(zi aj.Rel),dU.v]),ah dU aj.Values] (fun _:Unit=>(.bool R)) (fun _=>[]):=by
 refine Se 8 Tryz.func129 [.tmp 3] ?_
 intro H0 F0
 unfold Pq at hF
 refine au ?_
 refine bN (fun k1=>?_)
 refine aY ?_
 refine bnd hF fun r2 hx3 hF=>bD (Uv hx3) (fun _=>?_)
 exact ze hF
def Km(aj:Fact):List Fact->Nat->Option (Int)
 |[],k4=>some (-1)
 |x6::aM,k4=>(Pq x6 aj).bind fun r16=>
   if r16 then (
     some (k4:Int))
   else (
     Km aj aM (k4+1))
def Uj(ag:List Fact)(aj:Fact):Option (Int):=
 Km aj ag 0
theorem akR{ag:List Fact}{ae:Sv}{bS:Nat}{aj:Fact}{dU:Sv}{R:Int}(hF:Uj ag aj=some R):
   Fw.Spec Tryz.prog 120 [ae.v,(.func (.func 129) [].toArray [(pz bS)].toArray)] [bG ae ag,aX bS 70 (zg [(zi aj.Rel),dU.v]),ah dU aj.Values] (fun _:Unit=>(zi R)) (fun _=>[]):=by
 refine Se 19 Tryz.func120 [.tmp 4] ?_
 intro H0 F0
 unfold Uj at hF
 refine gB ?_
 refine bi (bT (m:=ag.length) (fun m2 f' cs'=>∃(g:Fr)(k4:Nat)(aM:List Fact),m2=aM.length/\f'=aQ g [(0,ae.v),(1,(.func (.func 129) [].toArray [(pz bS)].toArray)),(7,(zi (ag.length:Int))),(8,(zi (k4:Int)))]/\List.drop k4 ag=aM/\aN cs' [bG ae ag,aX bS 70 (zg [(zi aj.Rel),dU.v]),ah dU aj.Values]/\Km aj aM k4=some R) ⟨_,0,_,rfl,aA,rfl,ay,hF⟩ ?_)
 rintro m2 _ _ ⟨g3,k4,aM,rfl,rfl,hd7,hE,hF⟩
 refine Kb hE ag (fun kT=>?_)
 rcases aM with _|⟨x6,aM⟩
 · have gF:=dn hd7
   rw[Km]at hF
   refine bg ?_
   refine dJ ?_
   exact ze hF
 obtain⟨gF,bY,gD⟩:=dz hd7
 rw[Km]at hF
 refine bg ?_
 refine dI ?_
 refine ky ?_
 refine Ai bY (fun k13 oz=>?_)
 refine mX (lU x6) mf (fun ni=>?_)
 refine bnd hF fun r16 jF hF=>lZ (.rd .h rfl (.rd .q3 rfl (.rd .q4 rfl .nil))) (qD asW.h (.tmp rfl rfl) b_ (anC jF)) (fun _=>?_)
 refine au ?_
 refine Ci hF (fun nD hF=>?_) (fun nD hF=>?_)
 · exact ze hF
 refine aY ?_
 rw[wk k4]
 exact⟨_,bX _,_,k4+1,aM,rfl,aA,gD,ay,hF⟩
end Go.Proofs.YtfcjmpkenaiomaaGreat
