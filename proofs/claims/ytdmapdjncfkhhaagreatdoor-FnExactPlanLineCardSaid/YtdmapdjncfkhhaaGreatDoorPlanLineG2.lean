/-
  Functions of the program as Lean functions, and that the calls return what these say: part 3. No conditions.
-/
import Derived.Shelf.Sort.Plain
import Derived.Shelf.Slices.In.SortNone
import Derived.Shelf.Slices.CompactI
import Derived.Shelf.Strings.OnBuilder
import Derived.Shelf.Strconv.Itoa3
import Derived.Test.YtdmapdjncfkhhaaGreatDoorPlanLineG1
import Derived.KernelRfl
set_option maxRecDepth 100000
set_option maxHeartbeats 1000000
set_option linter.unusedVariables false
namespace Go.Proofs.YtdmapdjncfkhhaaGreatDoor
open Go Go.Fw

def BF(ag:List Int)(ak:List Method):Option (Bool):=
 ((yC ag).bind fun r4=>
   bif r4 then (bif (decide (((ak.length:Int):Int)<=5))then ((Ko ak ag).bind fun r9=>
       some (!r9))
     else (some false))
   else (some false)).bind fun o2=>
 match o2 with
 |c12=>some c12
theorem Rw{ag:List Int}{ae:Sv}{ak:List Method}{aC:Sv}{R:Bool}(hF:BF ag ak=some R):
   Fw.Spec Tryz.prog 88 [ae.v,aC.v] [ah ae ag,dD aC ak] (fun _:Unit=>(.bool R)) (fun _=>[]):=by
 refine Se 18 Tryz.func88 [.tmp 4] ?_
 intro H0 F0
 unfold BF at hF
 refine au ?_
 refine bB (fun k1=>?_)
 refine aW ?_
 obtain⟨o2,gK,hO3⟩:=bind_some hF
 refine au ?_
 refine fE (fun f' cs'=>∃(c12:Bool)(g:Fr),c12=o2/\f'=aM g [(4,(.bool c12))]/\aL cs' []) ?_ ?_
 · replace hF:=gK
   refine au ?_
   refine bnd hF fun r4 hx5 hF=>aX (Lc hx5) (fun _=>?_)
   refine au ?_
   rcases bL r4 with bI|bI
   · rw[bI]
     try rw[bI]at hF; dsimp only[aO,aN]at hF
     refine di ?_
     rcases bL (decide (((ak.length:Int):Int)<=5))with fD|fD
     · rw[fD]
       try rw[fD]at hF; dsimp only[aO,aN]at hF
       refine bq ?_
       refine aI (uK (fn:=.func 171) (vs:=[]) (us:=[(pz k1)]) .nil bZ) ?_
       refine au ?_
       refine bnd hF fun r9 eX hF=>aX (agN eX) (fun _=>?_)
       exact bO hF
     rw[fD]
     try rw[fD]at hF; dsimp only[aO,aN]at hF
     exact bO hF
   rw[bI]
   try rw[bI]at hF; dsimp only[aO,aN]at hF
   exact bO hF
 rintro _ _ ⟨c12,g13,rfl,rfl,hE⟩
 replace hF:=hO3
 try dsimp only at hF
 refine bD hE ?_
 exact ze hF
def KP(kT:Int)(aH:Int):Option (Bool):=
 (kL kT 0 (IntKind.i64.wrap (aH-1))).bind fun r1=>
 some (!r1)
theorem ahL{kT:Int}{bM:Nat}{aH:Int}{R:Bool}(hF:KP kT aH=some R):
   Fw.Spec Tryz.prog 285 [(zi kT),(pz bM)] [bi bM 3 (zi aH)] (fun _:Unit=>(.bool R)) (fun _=>[]):=by
 refine Se 9 Tryz.func285 [.tmp 3] ?_
 intro H0 F0
 unfold KP at hF
 refine bf ?_
 refine bnd hF fun r1 hx2 hF=>aX (l8 hx2) (fun _=>?_)
 exact ze hF
def Ha(aH:Int):List Int->Nat->Option (Int)
 |[],k4=>some (-1)
 |x6::ax,k4=>(KP x6 aH).bind fun fI=>
   if fI then (
     some (k4:Int))
   else (
     Ha aH ax (k4+1))
def Q9(ag:List Int)(aH:Int):Option (Int):=
 Ha aH ag 0
theorem aha{ag:List Int}{ae:Sv}{bM:Nat}{aH R:Int}(hF:Q9 ag aH=some R):
   Fw.Spec Tryz.prog 242 [ae.v,(.func (.func 285) [].toArray [(pz bM)].toArray)] [ah ae ag,bi bM 3 (zi aH)] (fun _:Unit=>(zi R)) (fun _=>[]):=by
 refine Se 19 Tryz.func242 [.tmp 4] ?_
 intro H0 F0
 unfold Q9 at hF
 refine dK ?_
 refine bn (bF (m:=ag.length) (fun m2 f' cs'=>∃(g:Fr)(k4:Nat)(ax:List Int),m2=ax.length/\f'=aM g [(0,ae.v),(1,(.func (.func 285) [].toArray [(pz bM)].toArray)),(7,(zi (ag.length:Int))),(8,(zi (k4:Int)))]/\List.drop k4 ag=ax/\aL cs' [ah ae ag,bi bM 3 (zi aH)]/\Ha aH ax k4=some R) ⟨_,0,_,rfl,aA,rfl,az,hF⟩ ?_)
 rintro m2 _ _ ⟨g3,k4,ax,rfl,rfl,hd7,hE,hF⟩
 refine Kb hE ag (fun iK=>?_)
 rcases ax with _|⟨x6,ax⟩
 · have dM:=dn hd7
   rw[Ha]at hF
   refine aU ?_
   refine bR ?_
   exact ze hF
 obtain⟨dM,bP,dL⟩:=bN hd7
 rw[Ha]at hF
 refine aU ?_
 refine bQ ?_
 refine iU ?_
 refine Ai bP (fun k13 j6=>?_)
 refine Al bY ?_
 refine bnd hF fun fI hx16 hF=>kE (.rd .q2 rfl .nil) (oo aqz.h (.tmp rfl rfl) bZ (ahL hx16)) (fun _=>?_)
 refine au ?_
 refine Ci hF (fun pq hF=>?_) (fun pq hF=>?_)
 · exact ze hF
 refine aV ?_
 rw[wk k4]
 exact⟨_,bG _,_,k4+1,ax,rfl,aA,dL,az,hF⟩
def Kv(ag:List Int)(aH:Int):Option (Bool):=
 (Q9 ag aH).bind fun r1=>
 some (decide ((0:Int)<=r1))
theorem ag7{ag:List Int}{ae:Sv}{bM:Nat}{aH:Int}{R:Bool}(hF:Kv ag aH=some R):
   Fw.Spec Tryz.prog 176 [ae.v,(.func (.func 285) [].toArray [(pz bM)].toArray)] [ah ae ag,bi bM 3 (zi aH)] (fun _:Unit=>(.bool R)) (fun _=>[]):=by
 refine Se 9 Tryz.func176 [.tmp 4] ?_
 intro H0 F0
 unfold Kv at hF
 refine aZ ?_
 refine bnd hF fun r1 hx2 hF=>aX (aha hx2) (fun _=>?_)
 exact ze hF
def RB(ak:List Int)(yV:Int):Option (Bool):=
 (Kv ak yV).bind fun r2=>
 some (!r2)
theorem ahW{ak:List Int}{ae:Sv}{yV:Int}{R:Bool}(hF:RB ak yV=some R):
   Fw.Spec Tryz.prog 241 [ae.v,(zi yV)] [ah ae ak] (fun _:Unit=>(.bool R)) (fun _=>[]):=by
 refine Se 9 Tryz.func241 [.tmp 4] ?_
 intro H0 F0
 unfold RB at hF
 refine au ?_
 refine bB (fun k1=>?_)
 refine aU ?_
 refine aI (uK (fn:=.func 285) (vs:=[]) (us:=[(pz k1)]) .nil bZ) ?_
 refine bnd hF fun r2 hx3 hF=>aX (ag7 hx3) (fun _=>?_)
 exact ze hF
def Nq(ag:List Int)(gY:dG):Option (Bool):=
 ((yL ag gY.From).bind fun r4=>
   bif r4 then ((yL ag gY.To).bind fun r8=>
     bif r8 then ((ix ag gY.To).bind fun lv=>
       bif (((gY.Map.length:Int):Int)==lv)then ((ix ag gY.From).bind fun mU=>
         (RB gY.Map mU).bind fun nY=>
         some nY)
       else (some false))
     else (some false))
   else (some false)).bind fun o2=>
 match o2 with
 |c28=>some c28
theorem ak4{ag:List Int}{ae:Sv}{gY:dG}{oF:Sv}{R:Bool}(hF:Nq ag gY=some R):
   Fw.Spec Tryz.prog 175 [ae.v,(zg [(zi gY.From),(zi gY.To),oF.v])] [ah ae ag,ah oF gY.Map] (fun _:Unit=>(.bool R)) (fun _=>[]):=by
 refine Se 36 Tryz.func175 [.tmp 4] ?_
 intro H0 F0
 unfold Nq at hF
 refine au ?_
 refine bB (fun k1=>?_)
 refine aW ?_
 obtain⟨o2,gK,hO3⟩:=bind_some hF
 refine dE [0,1,2,3,4,5,6,7,8,9,10,11,12,13,14,15,16,17,18,19,20,21,22,23,24,25,26,27,28,29,30,31] [0,0,2,7,15,31,31,95,255,511,1023,2047,4095,8191,2047,2047,34815,116735,247807,524287,1048575,2097151,4194303,8388607,4194303,4194303,37748735,121634815,255852543,536870911,1073741823,2147483647] [3,8,29] mixed (by decide+kernel) ?_
 refine mD (fun f' cs'=>∃(c28:Bool)(g:Fr),c28=o2/\f'=aM g [(4,(.bool c28))]/\aL cs' []) ?_ ?_
 · replace hF:=gK
   refine dI ?_
   refine bnd hF fun r4 hx5 hF=>dR (LM hx5) (fun _=>?_)
   refine du ?_
   rcases bL r4 with bI|bI
   · rw[bI]
     try rw[bI]at hF; dsimp only[aO,aN]at hF
     refine dI ?_
     refine bnd hF fun r8 bP hF=>dR (LM bP) (fun _=>?_)
     refine bS ?_
     rcases bL r8 with dJ|dJ
     · rw[dJ]
       try rw[dJ]at hF; dsimp only[aO,aN]at hF
       refine Cv ?_
       refine zI hF fun lv OO jS hF=>?_
       refine Di jS (fun k16 Gr=>?_)
       refine Dl bY ?_
       refine dI ?_
       rcases bL (((gY.Map.length:Int):Int)==lv)with j3|j3
       · rw[j3]
         try rw[j3]at hF; dsimp only[aO,aN]at hF
         refine ve ?_
         refine zI hF fun mU aC3 sJ hF=>?_
         refine Di sJ (fun k23 j24=>?_)
         refine Dl bY ?_
         refine bnd hF fun nY nk hF=>dR (ahW nk) (fun _=>?_)
         exact eO hF
       rw[j3]
       try rw[j3]at hF; dsimp only[aO,aN]at hF
       exact eO hF
     rw[dJ]
     try rw[dJ]at hF; dsimp only[aO,aN]at hF
     exact eO hF
   rw[bI]
   try rw[bI]at hF; dsimp only[aO,aN]at hF
   exact eO hF
 rintro _ _ ⟨c28,g29,rfl,rfl,hE⟩
 replace hF:=hO3
 try dsimp only at hF
 refine bD hE ?_
 exact ze hF
def Lt(gY:dG)(aH:List Int):Option (Bool):=
 (Nq aH gY).bind fun r2=>
 some (!r2)
theorem ait{gY:dG}{dm:Sv}{bM:Nat}{aH:List Int}{fP:Sv}{R:Bool}(hF:Lt gY aH=some R):
   Fw.Spec Tryz.prog 174 [(zg [(zi gY.From),(zi gY.To),dm.v]),(pz bM)] [ah dm gY.Map,bi bM 22 fP.v,ah fP aH] (fun _:Unit=>(.bool R)) (fun _=>[]):=by
 refine Se 8 Tryz.func174 [.tmp 3] ?_
 intro H0 F0
 unfold Lt at hF
 refine au ?_
 refine bB (fun k1=>?_)
 refine aV ?_
 refine bnd hF fun r2 hx3 hF=>aX (ak4 hx3) (fun _=>?_)
 exact ze hF
def G6(aH:List Int):List dG->Nat->Option (Int)
 |[],k4=>some (-1)
 |x6::ax,k4=>(Lt x6 aH).bind fun r16=>
   if r16 then (
     some (k4:Int))
   else (
     G6 aH ax (k4+1))
def Q4(ag:List dG)(aH:List Int):Option (Int):=
 G6 aH ag 0
theorem agY{ag:List dG}{ae:Sv}{bM:Nat}{aH:List Int}{fP:Sv}{R:Int}(hF:Q4 ag aH=some R):
   Fw.Spec Tryz.prog 240 [ae.v,(.func (.func 174) [].toArray [(pz bM)].toArray)] [lN ae ag,bi bM 22 fP.v,ah fP aH] (fun _:Unit=>(zi R)) (fun _=>[]):=by
 refine Se 19 Tryz.func240 [.tmp 4] ?_
 intro H0 F0
 unfold Q4 at hF
 refine dK ?_
 refine bn (bF (m:=ag.length) (fun m2 f' cs'=>∃(g:Fr)(k4:Nat)(ax:List dG),m2=ax.length/\f'=aM g [(0,ae.v),(1,(.func (.func 174) [].toArray [(pz bM)].toArray)),(7,(zi (ag.length:Int))),(8,(zi (k4:Int)))]/\List.drop k4 ag=ax/\aL cs' [lN ae ag,bi bM 22 fP.v,ah fP aH]/\G6 aH ax k4=some R) ⟨_,0,_,rfl,aA,rfl,az,hF⟩ ?_)
 rintro m2 _ _ ⟨g3,k4,ax,rfl,rfl,hd7,hE,hF⟩
 refine Kb hE ag (fun iK=>?_)
 rcases ax with _|⟨x6,ax⟩
 · have dM:=dn hd7
   rw[G6]at hF
   refine aU ?_
   refine bR ?_
   exact ze hF
 obtain⟨dM,bP,dL⟩:=bN hd7
 rw[G6]at hF
 refine aU ?_
 refine bQ ?_
 refine iU ?_
 refine Ai bP (fun k13 j6=>?_)
 refine iM (MJ x6) Sy (fun jd=>?_)
 refine bnd hF fun r16 iP hF=>kE (.rd .h rfl (.rd .q3 rfl (.rd .q4 rfl .nil))) (oo aqy.h (.tmp rfl rfl) bZ (ait iP)) (fun _=>?_)
 refine au ?_
 refine Ci hF (fun nT hF=>?_) (fun nT hF=>?_)
 · exact ze hF
 refine aV ?_
 rw[wk k4]
 exact⟨_,bG _,_,k4+1,ax,rfl,aA,dL,az,hF⟩
def Kr(ag:List dG)(aH:List Int):Option (Bool):=
 (Q4 ag aH).bind fun r1=>
 some (decide ((0:Int)<=r1))
theorem agT{ag:List dG}{ae:Sv}{bM:Nat}{aH:List Int}{fP:Sv}{R:Bool}(hF:Kr ag aH=some R):
   Fw.Spec Tryz.prog 173 [ae.v,(.func (.func 174) [].toArray [(pz bM)].toArray)] [lN ae ag,bi bM 22 fP.v,ah fP aH] (fun _:Unit=>(.bool R)) (fun _=>[]):=by
 refine Se 9 Tryz.func173 [.tmp 4] ?_
 intro H0 F0
 unfold Kr at hF
 refine aZ ?_
 refine bnd hF fun r1 hx2 hF=>aX (agY hx2) (fun _=>?_)
 exact ze hF
def Mo(ag:List Int)(ak:List dG):Option (Bool):=
 ((yC ag).bind fun r4=>
   bif r4 then (bif (decide (((ak.length:Int):Int)<=4))then ((Kr ak ag).bind fun r9=>
       some (!r9))
     else (some false))
   else (some false)).bind fun o2=>
 match o2 with
 |c12=>some c12
theorem ajz{ag:List Int}{ae:Sv}{ak:List dG}{aC:Sv}{R:Bool}(hF:Mo ag ak=some R):
   Fw.Spec Tryz.prog 89 [ae.v,aC.v] [ah ae ag,lN aC ak] (fun _:Unit=>(.bool R)) (fun _=>[]):=by
 refine Se 18 Tryz.func89 [.tmp 4] ?_
 intro H0 F0
 unfold Mo at hF
 refine au ?_
 refine bB (fun k1=>?_)
 refine aW ?_
 obtain⟨o2,gK,hO3⟩:=bind_some hF
 refine au ?_
 refine fE (fun f' cs'=>∃(c12:Bool)(g:Fr),c12=o2/\f'=aM g [(4,(.bool c12))]/\aL cs' []) ?_ ?_
 · replace hF:=gK
   refine au ?_
   refine bnd hF fun r4 hx5 hF=>aX (Lc hx5) (fun _=>?_)
   refine au ?_
   rcases bL r4 with bI|bI
   · rw[bI]
     try rw[bI]at hF; dsimp only[aO,aN]at hF
     refine di ?_
     rcases bL (decide (((ak.length:Int):Int)<=4))with fD|fD
     · rw[fD]
       try rw[fD]at hF; dsimp only[aO,aN]at hF
       refine bq ?_
       refine aI (uK (fn:=.func 174) (vs:=[]) (us:=[(pz k1)]) .nil bZ) ?_
       refine au ?_
       refine bnd hF fun r9 eX hF=>aX (agT eX) (fun _=>?_)
       exact bO hF
     rw[fD]
     try rw[fD]at hF; dsimp only[aO,aN]at hF
     exact bO hF
   rw[bI]
   try rw[bI]at hF; dsimp only[aO,aN]at hF
   exact bO hF
 rintro _ _ ⟨c12,g13,rfl,rfl,hE⟩
 replace hF:=hO3
 try dsimp only at hF
 refine bD hE ?_
 exact ze hF
def EL(fF:Int):Option (Bool):=
 (kL fF 0 9).bind fun r1=>
 some r1
theorem RO{fF:Int}{R:Bool}(hF:EL fF=some R):
   Fw.Spec Tryz.prog 199 [(zi fF)] [] (fun _:Unit=>(.bool R)) (fun _=>[]):=by
 refine Se 5 Tryz.func199 [.tmp 2] ?_
 intro H0 F0
 unfold EL at hF
 refine aV ?_
 refine bnd hF fun r1 hx2 hF=>aX (l8 hx2) (fun _=>?_)
 exact ze hF
def RF(fF:Int):Option (Bool):=
 (EL fF).bind fun r1=>
 some (!r1)
theorem ah'{fF:Int}{R:Bool}(hF:RF fF=some R):
   Fw.Spec Tryz.prog 271 [(zi fF)] [] (fun _:Unit=>(.bool R)) (fun _=>[]):=by
 refine Se 6 Tryz.func271 [.tmp 2] ?_
 intro H0 F0
 unfold RF at hF
 refine aV ?_
 refine bnd hF fun r1 hx2 hF=>aX (RO hx2) (fun _=>?_)
 exact ze hF
def He:List Int->Nat->Option (Int)
 |[],k4=>some (-1)
 |x6::ax,k4=>(RF x6).bind fun fI=>
   if fI then (
     some (k4:Int))
   else (
     He ax (k4+1))
def Rb(ag:List Int):Option (Int):=
 He ag 0
theorem ahl{ag:List Int}{ae:Sv}{R:Int}(hF:Rb ag=some R):
   Fw.Spec Tryz.prog 242 [ae.v,(.func (.func 271) [].toArray [].toArray)] [ah ae ag] (fun _:Unit=>(zi R)) (fun _=>[]):=by
 refine Se 19 Tryz.func242 [.tmp 4] ?_
 intro H0 F0
 unfold Rb at hF
 refine dK ?_
 refine bn (bF (m:=ag.length) (fun m2 f' cs'=>∃(g:Fr)(k4:Nat)(ax:List Int),m2=ax.length/\f'=aM g [(0,ae.v),(1,(.func (.func 271) [].toArray [].toArray)),(7,(zi (ag.length:Int))),(8,(zi (k4:Int)))]/\List.drop k4 ag=ax/\aL cs' [ah ae ag]/\He ax k4=some R) ⟨_,0,_,rfl,aA,rfl,az,hF⟩ ?_)
 rintro m2 _ _ ⟨g3,k4,ax,rfl,rfl,hd7,hE,hF⟩
 refine Kb hE ag (fun iK=>?_)
 rcases ax with _|⟨x6,ax⟩
 · have dM:=dn hd7
   rw[He]at hF
   refine aU ?_
   refine bR ?_
   exact ze hF
 obtain⟨dM,bP,dL⟩:=bN hd7
 rw[He]at hF
 refine aU ?_
 refine bQ ?_
 refine iU ?_
 refine Ai bP (fun k13 j6=>?_)
 refine Al bY ?_
 refine bnd hF fun fI hx16 hF=>kE .nil (oo aqB.h (.tmp rfl rfl) bZ (ah' hx16)) (fun _=>?_)
 refine au ?_
 refine Ci hF (fun pq hF=>?_) (fun pq hF=>?_)
 · exact ze hF
 refine aV ?_
 rw[wk k4]
 exact⟨_,bG _,_,k4+1,ax,rfl,aA,dL,az,hF⟩
def Ky(ag:List Int):Option (Bool):=
 (Rb ag).bind fun r1=>
 some (decide ((0:Int)<=r1))
theorem ahb{ag:List Int}{ae:Sv}{R:Bool}(hF:Ky ag=some R):
   Fw.Spec Tryz.prog 176 [ae.v,(.func (.func 271) [].toArray [].toArray)] [ah ae ag] (fun _:Unit=>(.bool R)) (fun _=>[]):=by
 refine Se 9 Tryz.func176 [.tmp 4] ?_
 intro H0 F0
 unfold Ky at hF
 refine aZ ?_
 refine bnd hF fun r1 hx2 hF=>aX (ahl hx2) (fun _=>?_)
 exact ze hF
def IC(ak:List Int):Option (Bool):=
 (Ky ak).bind fun r1=>
 some (!r1)
theorem aaY{ak:List Int}{ae:Sv}{R:Bool}(hF:IC ak=some R):
   Fw.Spec Tryz.prog 202 [ae.v] [ah ae ak] (fun _:Unit=>(.bool R)) (fun _=>[]):=by
 refine Se 6 Tryz.func202 [.tmp 2] ?_
 intro H0 F0
 unfold IC at hF
 refine aV ?_
 refine bnd hF fun r1 hx2 hF=>aX (ahb hx2) (fun _=>?_)
 exact ze hF
def Nr(ag:List Int)(bu:Fact):Option (Bool):=
 ((yL ag bu.Rel).bind fun r4=>
   bif r4 then ((ix ag bu.Rel).bind fun x8=>
     bif (((bu.Values.length:Int):Int)==x8)then ((IC bu.Values).bind fun fI=>
       some fI)
     else (some false))
   else (some false)).bind fun o2=>
 match o2 with
 |c18=>some c18
theorem ak5{ag:List Int}{ae:Sv}{bu:Fact}{aR:Sv}{R:Bool}(hF:Nr ag bu=some R):
   Fw.Spec Tryz.prog 274 [ae.v,(zg [(zi bu.Rel),aR.v])] [ah ae ag,ah aR bu.Values] (fun _:Unit=>(.bool R)) (fun _=>[]):=by
 refine Se 25 Tryz.func274 [.tmp 4] ?_
 intro H0 F0
 unfold Nr at hF
 refine au ?_
 refine bB (fun k1=>?_)
 refine aW ?_
 obtain⟨o2,gK,hO3⟩:=bind_some hF
 refine dE [0,1,2,3,4,5,6,7,8,9,10,11,12,13,14,15,16,17,18,19,20] [0,0,2,7,15,31,63,127,31,31,543,1823,3871,8191,16383,32767,65535,131071,262143,524287,1048575] [3,18] mixed (by decide+kernel) ?_
 refine mD (fun f' cs'=>∃(c18:Bool)(g:Fr),c18=o2/\f'=aM g [(4,(.bool c18))]/\aL cs' []) ?_ ?_
 · replace hF:=gK
   refine dI ?_
   refine bnd hF fun r4 hx5 hF=>dR (LM hx5) (fun _=>?_)
   refine du ?_
   rcases bL r4 with bI|bI
   · rw[bI]
     try rw[bI]at hF; dsimp only[aO,aN]at hF
     refine Cv ?_
     refine zI hF fun x8 Zy mf hF=>?_
     refine Di mf (fun k12 j13=>?_)
     refine Dl bY ?_
     refine dI ?_
     rcases bL (((bu.Values.length:Int):Int)==x8)with pg|pg
     · rw[pg]
       try rw[pg]at hF; dsimp only[aO,aN]at hF
       refine bS ?_
       refine bnd hF fun fI hx16 hF=>dR (aaY hx16) (fun _=>?_)
       exact eO hF
     rw[pg]
     try rw[pg]at hF; dsimp only[aO,aN]at hF
     exact eO hF
   rw[bI]
   try rw[bI]at hF; dsimp only[aO,aN]at hF
   exact eO hF
 rintro _ _ ⟨c18,g19,rfl,rfl,hE⟩
 replace hF:=hO3
 try dsimp only at hF
 refine bD hE ?_
 exact ze hF
def Bl(bg:Int):Option (Bool):=
 some ((bg:Int)!=bg)
theorem Rp{bg:Int}{R:Bool}(hF:Bl bg=some R):
   Fw.Spec Tryz.prog 289 [(zi bg)] [] (fun _:Unit=>(.bool R)) (fun _=>[]):=by
 refine Se 6 Tryz.func289 [.tmp 2] ?_
 intro H0 F0
 unfold Bl at hF
 exact ze hF
def DJ(bg:Int)(sV:Int):Option (Int):=
 (Bl bg).bind fun r1=>
 (Bl sV).bind fun r4=>
 if r1 then (
   if r4 then (
     some 0)
   else (
     some (-1)))
 else (
   if r4 then (
     some 1)
   else (
     if (decide ((bg:Int)<sV))then (
       some (-1))
     else (
       if (decide ((sV:Int)<bg))then (
         some 1)
       else (
         some 0))))
theorem VM{bg sV R:Int}(hF:DJ bg sV=some R):
   Fw.Spec Tryz.prog 252 [(zi bg),(zi sV)] [] (fun _:Unit=>(zi R)) (fun _=>[]):=by
 refine Se 20 Tryz.func252 [.tmp 4] ?_
 intro H0 F0
 unfold DJ at hF
 refine aV ?_
 refine bnd hF fun r1 hx2 hF=>aX (Rp hx2) (fun _=>?_)
 refine aU ?_
 refine bnd hF fun r4 hx5 hF=>aX (Rp hx5) (fun _=>?_)
 refine aZ ?_
 refine Ci hF (fun Zz hF=>?_) (fun Zz hF=>?_)
 · refine aU ?_
   refine Ci hF (fun qY hF=>?_) (fun qY hF=>?_)
   · exact ze hF
   exact ze hF
 refine aV ?_
 refine Ci hF (fun Gf hF=>?_) (fun Gf hF=>?_)
 · exact ze hF
 refine bf ?_
 refine Ci hF (fun v_ hF=>?_) (fun v_ hF=>?_)
 · exact ze hF
 refine bf ?_
 refine Ci hF (fun wh hF=>?_) (fun wh hF=>?_)
 · exact ze hF
 exact ze hF
def AV(ll:List Int)(mh:List Int):List Int->Nat->Option (Int)
 |[],k4=>if (decide (((ll.length:Int):Int)<(mh.length:Int)))then (
     some (-1))
   else (
     some 0)
 |x6::ax,k4=>if (decide (((mh.length:Int):Int)<=(k4:Int)))then (
     some 1)
   else (
     (ix mh (k4:Int)).bind fun gF=>
     (DJ x6 gF).bind fun gH=>
     if ((gH:Int)!=0)then (
       some gH)
     else (
       AV ll mh ax (k4+1)))
def Hr(ll:List Int)(mh:List Int):Option (Int):=
 AV ll mh ll 0
theorem aae{ll:List Int}{ae:Sv}{mh:List Int}{aC:Sv}{R:Int}(hF:Hr ll mh=some R):
   Fw.Spec Tryz.prog 188 [ae.v,aC.v] [ah ae ll,ah aC mh] (fun _:Unit=>(zi R)) (fun _=>[]):=by
 refine Se 36 Tryz.func188 [.tmp 4] ?_
 intro H0 F0
 unfold Hr at hF
 refine dK ?_
 refine bn (bF (m:=ll.length) (fun m2 f' cs'=>∃(g:Fr)(k4:Nat)(ax:List Int),m2=ax.length/\f'=aM g [(0,ae.v),(1,aC.v),(9,ae.v),(10,(zi (ll.length:Int))),(11,(zi (k4:Int)))]/\List.drop k4 ll=ax/\aL cs' [ah ae ll,ah aC mh]/\AV ll mh ax k4=some R) ⟨_,0,_,rfl,aA,rfl,az,hF⟩ ?_)
 rintro m2 _ _ ⟨g3,k4,ax,rfl,rfl,hd7,hE,hF⟩
 refine Kb hE ll (fun iK=>?_)
 rcases ax with _|⟨x6,ax⟩
 · have dM:=dn hd7
   rw[AV]at hF
   refine aU ?_
   refine bR ?_
   refine Cs ?_
   refine Ci hF (fun avG hF=>?_) (fun avG hF=>?_)
   · exact ze hF
   exact ze hF
 obtain⟨dM,bP,dL⟩:=bN hd7
 rw[AV]at hF
 refine aU ?_
 refine bQ ?_
 refine aU ?_
 refine Ai bP (fun k14 vZ=>?_)
 refine Al bY ?_
 refine iU ?_
 refine Ci hF (fun mI hF=>?_) (fun mI hF=>?_)
 · exact ze hF
 refine aU ?_
 refine zI hF fun gF uj jq hF=>?_
 refine Ai jq (fun k20 pF=>?_)
 refine Al bY ?_
 refine aV ?_
 refine bnd hF fun gH mK hF=>aX (VM mK) (fun _=>?_)
 refine aZ ?_
 refine Ci hF (fun zW hF=>?_) (fun zW hF=>?_)
 · exact ze hF
 refine aV ?_
 rw[wk k4]
 exact⟨_,bG _,_,k4+1,ax,rfl,aA,dL,az,hF⟩
def Hw:List Int->Nat->Option (Int)
 |[],k4=>some 0
 |x6::ax,k4=>if ((x6:Int)!=0)then (
     some x6)
   else (
     Hw ax (k4+1))
def Ip(zB:List Int):Option (Int):=
 Hw zB 0
theorem aaR{zB:List Int}{ae:Sv}{R:Int}(hF:Ip zB=some R):
   Fw.Spec Tryz.prog 275 [ae.v] [ah ae zB] (fun _:Unit=>(zi R)) (fun _=>[]):=by
 refine Se 18 Tryz.func275 [.tmp 2] ?_
 intro H0 F0
 unfold Ip at hF
 refine Cs ?_
 refine bn (bF (m:=zB.length) (fun m2 f' cs'=>∃(g:Fr)(k4:Nat)(ax:List Int),m2=ax.length/\f'=aM g [(3,(zi 0)),(6,ae.v),(7,(zi (zB.length:Int))),(8,(zi (k4:Int)))]/\List.drop k4 zB=ax/\aL cs' [ah ae zB]/\Hw ax k4=some R) ⟨_,0,_,rfl,aA,rfl,az,hF⟩ ?_)
 rintro m2 _ _ ⟨g3,k4,ax,rfl,rfl,hd7,hE,hF⟩
 refine Kb hE zB (fun iK=>?_)
 rcases ax with _|⟨x6,ax⟩
 · have dM:=dn hd7
   rw[Hw]at hF
   refine aU ?_
   refine bR ?_
   exact ze hF
 obtain⟨dM,bP,dL⟩:=bN hd7
 rw[Hw]at hF
 refine aU ?_
 refine bQ ?_
 refine bq ?_
 refine Ai bP (fun k13 j6=>?_)
 refine Al bY ?_
 refine bf ?_
 refine Ci hF (fun z_ hF=>?_) (fun z_ hF=>?_)
 · exact ze hF
 refine aV ?_
 rw[wk k4]
 exact⟨_,bG _,_,k4+1,ax,rfl,aA,dL,az,hF⟩
def D_(aa:Fact)(aj:Fact):Option (Int):=
 (DJ aa.Rel aj.Rel).bind fun r3=>
 (Hr aa.Values aj.Values).bind fun r6=>
 (Ip ([r3,r6]:List Int)).bind fun nz=>
 some nz
theorem VR{aa:Fact}{ay:Sv}{aj:Fact}{aR:Sv}{R:Int}(hF:D_ aa aj=some R):
   Fw.Spec Tryz.prog 260 [(zg [(zi aa.Rel),ay.v]),(zg [(zi aj.Rel),aR.v])] [ah ay aa.Values,ah aR aj.Values] (fun _:Unit=>(zi R)) (fun _=>[]):=by
 refine Se 17 Tryz.func260 [.tmp 4] ?_
 intro H0 F0
 unfold D_ at hF
 refine au ?_
 refine bB (fun k1=>?_)
 refine bB (fun k2=>?_)
 refine aW ?_
 refine dE [0,1,2,3,5,6,7,8,4,9,10,11,12] [0,1,0,4,15,0,32,0,128,511,1023,2047,4095] [4,9,11] mixed (by decide+kernel) ?_
 refine afy ?_
 refine bnd hF fun r3 hx4 hF=>dR (VM hx4) (fun _=>?_)
 refine bnd hF fun r6 hx7 hF=>dR (aae hx7) (fun _=>?_)
 refine jI rfl .no rfl (fun ha=>cz (g:=true) (len:=2) (parts:=[(0,.tmp 9),(1,.tmp 14)]) dh.h dw.h (.cons (EN ha (.tmp rfl rfl) rfl) (.cons (EN ha (.tmp rfl rfl) rfl) .nil)) (vs:=[(zi r3),(zi r6)]) rfl rfl rfl (by intro v hv; simp at hv; rcases hv with rfl|rfl<;>rfl)) (fun k9=>?_)
 refine jO (.cons .h .nil) (cK (Ro:=(aG aK)) (E:=3) (F:=([]++([]++[]))) (xs:=([r3,r6]:List Int)) (gq (jF (fun _=>rfl)) (gq (jF (fun _=>rfl)) cB dz) dz) rfl rfl) ?_
 refine bnd hF fun nz mf hF=>eU rfl rfl .no (.cons .h .nil) (.dep rfl .nil) (fun ha=>lF bU (fun _=>.nil) (dB aeF.h (.cons (EN ha (.tmp rfl rfl) rfl) .nil) (@aaR ([r3,r6]:List Int) (⟨(some ⟨k9,0,none⟩),2,1⟩) _ mf))) (fun _=>?_)
 refine bS ?_
 exact ze hF
def yo(ag:List Int)(ak:List Fact):List Fact->Nat->Option (Bool)
 |[],k4=>((yC ag).bind fun fI=>
     bif fI then (some (decide (((ak.length:Int):Int)<=24)))
     else (some false)).bind fun lZ=>
   match lZ with
   |c19=>some c19
 |x6::ax,k4=>((Nr ag x6).bind fun sW=>
     bif (!sW)then (some true)
     else (bif (decide ((0:Int)<(k4:Int)))then ((ix ak (IntKind.i64.wrap ((k4:Int)-1))).bind fun x32=>
         (D_ x32 x6).bind fun Kk=>
         some (decide ((0:Int)<=Kk)))
       else (some false))).bind fun Dn=>
   match Dn with
   |QR=>if QR then (
       some false)
     else (
       yo ag ak ax (k4+1))
def Mq(ag:List Int)(ak:List Fact):Option (Bool):=
 yo ag ak ak 0
theorem abe{ag:List Int}{ae:Sv}{ak:List Fact}{aC:Sv}{R:Bool}(hF:Mq ag ak=some R):
   Fw.Spec Tryz.prog 214 [ae.v,aC.v] [ah ae ag,dY aC ak] (fun _:Unit=>(.bool R)) (fun _=>[]):=by
 refine Se 40 Tryz.func214 [.tmp 4] ?_
 intro H0 F0
 unfold Mq at hF
 refine dK ?_
 refine bn (bF (m:=ak.length) (fun m2 f' cs'=>∃(g:Fr)(k4:Nat)(ax:List Fact),m2=ax.length/\f'=aM g [(0,ae.v),(1,aC.v),(7,aC.v),(8,(zi (ak.length:Int))),(9,(zi (k4:Int)))]/\List.drop k4 ak=ax/\aL cs' [ah ae ag,dY aC ak]/\yo ag ak ax k4=some R) ⟨_,0,_,rfl,aA,rfl,az,hF⟩ ?_)
 rintro m2 _ _ ⟨g3,k4,ax,rfl,rfl,hd7,hE,hF⟩
 refine Kb hE ak (fun iK=>?_)
 rcases ax with _|⟨x6,ax⟩
 · have dM:=dn hd7
   rw[yo]at hF
   refine aU ?_
   refine bR ?_
   refine aU ?_
   obtain⟨lZ,uY,vo⟩:=bind_some hF
   refine au ?_
   refine fE (fun f' cs'=>∃(c19:Bool)(g:Fr),c19=lZ/\f'=aM g [(4,(.bool c19))]/\aL cs' []) ?_ ?_
   · replace hF:=uY
     refine au ?_
     refine bnd hF fun fI hx16 hF=>aX (Lc hx16) (fun _=>?_)
     refine au ?_
     rcases bL fI with j3|j3
     · rw[j3]
       try rw[j3]at hF; dsimp only[aO,aN]at hF
       exact bO hF
     rw[j3]
     try rw[j3]at hF; dsimp only[aO,aN]at hF
     exact bO hF
   rintro _ _ ⟨c19,g20,rfl,rfl,hE⟩
   replace hF:=vo
   try dsimp only at hF
   refine bD hE ?_
   exact ze hF
 obtain⟨dM,bP,dL⟩:=bN hd7
 rw[yo]at hF
 refine aU ?_
 refine bQ ?_
 refine aU ?_
 refine Ai bP (fun k21 Vt=>?_)
 refine iM (oh x6) oU (fun AA=>?_)
 refine dH (fun k24=>?_)
 refine au ?_
 refine As (zg [(zi x6.Rel),AA.v]) ?_
 refine au ?_
 obtain⟨Dn,Yd,OY⟩:=bind_some hF
 refine dE [0,1,2,3,4,5,6,7,8,9,10,11,12,13,14,15,16,17] [0,0,3,7,15,31,63,127,255,255,767,2047,4095,255,16383,32767,65535,131071] [2,14] mixed (by decide+kernel) ?_
 refine mD (fun f' cs'=>∃(QR:Bool)(g:Fr),QR=Dn/\f'=aM g [(0,ae.v),(1,aC.v),(7,aC.v),(8,(zi (ak.length:Int))),(9,(zi (k4:Int))),(31,(.bool QR))]/\aL cs' [ah ae ag,dY aC ak]) ?_ ?_
 · replace hF:=Yd
   refine du ?_
   refine fA rfl .no .h (fun ha hp=>lC NV.h fB.h.sz rfl (EN ha (.tmp rfl rfl) rfl) hp.2 rfl) ?_
   refine bnd hF fun sW hx28 hF=>dR (ak5 hx28) (fun _=>?_)
   refine bS ?_
   rcases bL (!sW)with vw|vw
   · rw[vw]
     try rw[vw]at hF; dsimp only[aO,aN]at hF
     exact eO hF
   rw[vw]
   try rw[vw]at hF; dsimp only[aO,aN]at hF
   refine dI ?_
   rcases bL (decide ((0:Int)<(k4:Int)))with PN|PN
   · rw[PN]
     try rw[PN]at hF; dsimp only[aO,aN]at hF
     refine dI ?_
     refine zI hF fun x32 aC4 qH hF=>?_
     refine Di qH (fun bV j37=>?_)
     refine lc (oh x32) oU (fun p38=>?_)
     refine fA rfl (.on 21 rfl rfl rfl) .q2 (fun ha hp=>lC NV.h fB.h.sz rfl (EN ha (.tmp rfl rfl) rfl) hp.2 rfl) ?_
     refine bnd hF fun Kk sG hF=>dR (VR sG) (fun _=>?_)
     exact eO hF
   rw[PN]
   try rw[PN]at hF; dsimp only[aO,aN]at hF
   exact eO hF
 rintro _ _ ⟨QR,g45,rfl,rfl,hE⟩
 replace hF:=OY
 try dsimp only at hF
 refine bD hE ?_
 refine Ci hF (fun zY hF=>?_) (fun zY hF=>?_)
 · exact ze hF
 refine aV ?_
 rw[wk k4]
 exact⟨_,bG _,_,k4+1,ax,rfl,aA,dL,az,hF⟩
def Mr(ag:List Int)(bg:Source):Option (Bool):=
 ((Mq ag bg.Facts).bind fun r4=>
   bif r4 then ((kL bg.Version 0 1000).bind fun r8=>
     some r8)
   else (some false)).bind fun o2=>
 match o2 with
 |c11=>some c11
theorem ajA{ag:List Int}{ae:Sv}{bg:Source}{aC:Sv}{R:Bool}(hF:Mr ag bg=some R):
   Fw.Spec Tryz.prog 131 [ae.v,(zg [aC.v,(zi bg.Version)])] [ah ae ag,dY aC bg.Facts] (fun _:Unit=>(.bool R)) (fun _=>[]):=by
 refine Se 14 Tryz.func131 [.tmp 4] ?_
 intro H0 F0
 unfold Mr at hF
 refine au ?_
 refine bB (fun k1=>?_)
 refine aW ?_
 obtain⟨o2,gK,hO3⟩:=bind_some hF
 refine au ?_
 refine fE (fun f' cs'=>∃(c11:Bool)(g:Fr),c11=o2/\f'=aM g [(4,(.bool c11))]/\aL cs' []) ?_ ?_
 · replace hF:=gK
   refine bq ?_
   refine bnd hF fun r4 hx5 hF=>aX (abe hx5) (fun _=>?_)
   refine au ?_
   rcases bL r4 with bI|bI
   · rw[bI]
     try rw[bI]at hF; dsimp only[aO,aN]at hF
     refine aV ?_
     refine bnd hF fun r8 bP hF=>aX (l8 bP) (fun _=>?_)
     exact bO hF
   rw[bI]
   try rw[bI]at hF; dsimp only[aO,aN]at hF
   exact bO hF
 rintro _ _ ⟨c11,g12,rfl,rfl,hE⟩
 replace hF:=hO3
 try dsimp only at hF
 refine bD hE ?_
 exact ze hF
def IR(ag:List Int)(ak:List Method)(aa:Access):Option (Bool):=
 ((BF ag ak).bind fun r4=>
   bif r4 then ((kL aa.Method 0 (IntKind.i64.wrap ((ak.length:Int)-1))).bind fun r8=>
     bif r8 then ((ix ak aa.Method).bind fun lv=>
       bif (((aa.Values.length:Int):Int)==(lv.Inputs.length:Int))then ((IC aa.Values).bind fun il=>
         some il)
       else (some false))
     else (some false))
   else (some false)).bind fun o2=>
 match o2 with
 |c23=>some c23
theorem abf{ag:List Int}{ae:Sv}{ak:List Method}{aC:Sv}{aa:Access}{eP:Sv}{R:Bool}(hF:IR ag ak aa=some R):
   Fw.Spec Tryz.prog 136 [ae.v,aC.v,(zg [(zi aa.Method),eP.v])] [ah ae ag,dD aC ak,ah eP aa.Values] (fun _:Unit=>(.bool R)) (fun _=>[]):=by
 refine Se 36 Tryz.func136 [.tmp 6] ?_
 intro H0 F0
 unfold IR at hF
 refine au ?_
 refine bB (fun k1=>?_)
 refine aW ?_
 obtain⟨o2,gK,hO3⟩:=bind_some hF
 refine dE [0,1,2,3,4,5,6,7,8,9,10,11,12,13,14,15,16,17,18,19,20,21,22,23,24,25,26,27,28,29] [0,0,3,7,15,31,15,79,207,511,1023,2047,4095,8191,16383,4095,4095,69631,233471,495615,1019903,2068479,4194303,8388607,16777215,33554431,67108863,134217727,268435455,536870911] [2,9,27] mixed (by decide+kernel) ?_
 refine mD (fun f' cs'=>∃(c23:Bool)(g:Fr),c23=o2/\f'=aM g [(6,(.bool c23))]/\aL cs' []) ?_ ?_
 · replace hF:=gK
   refine bS ?_
   refine bnd hF fun r4 hx5 hF=>dR (Rw hx5) (fun _=>?_)
   refine du ?_
   rcases bL r4 with bI|bI
   · rw[bI]
     try rw[bI]at hF; dsimp only[aO,aN]at hF
     refine ve ?_
     refine bnd hF fun r8 bP hF=>dR (l8 bP) (fun _=>?_)
     refine bS ?_
     rcases bL r8 with dJ|dJ
     · rw[dJ]
       try rw[dJ]at hF; dsimp only[aO,aN]at hF
       refine Cv ?_
       refine zI hF fun lv OO jS hF=>?_
       refine Di jS (fun k16 Gr=>?_)
       refine du ?_
       refine uV (R':=(aJ 3 aK)) ji.h rfl (.on 18 rfl rfl rfl) (.tmp rfl rfl) rfl .h ad1 (fun w18=>?_)
       refine o9 ?_
       rcases bL (((aa.Values.length:Int):Int)==(lv.Inputs.length:Int))with jZ|jZ
       · rw[jZ]
         try rw[jZ]at hF; dsimp only[aO,aN]at hF
         refine bS ?_
         refine bnd hF fun il kG hF=>dR (aaY kG) (fun _=>?_)
         exact eO hF
       rw[jZ]
       try rw[jZ]at hF; dsimp only[aO,aN]at hF
       exact eO hF
     rw[dJ]
     try rw[dJ]at hF; dsimp only[aO,aN]at hF
     exact eO hF
   rw[bI]
   try rw[bI]at hF; dsimp only[aO,aN]at hF
   exact eO hF
 rintro _ _ ⟨c23,g24,rfl,rfl,hE⟩
 replace hF:=hO3
 try dsimp only at hF
 refine bD hE ?_
 exact ze hF
def x_(ag:List Int):Option ((List Int)):=
 (app ([]:List Int) ag).bind fun z5=>
 some z5
theorem KG{ag:List Int}{ae:Sv}{R:(List Int)}(hF:x_ ag=some R):
   Fw.Spec Tryz.prog 221 [ae.v] [ah ae ag] (fun p:Sv×List Nat=>p.1.v) (fun p=>[bC p.2 p.1 R]):=by
 refine Se 8 Tryz.func221 [.tmp 2] ?_
 intro H0 F0
 unfold x_ at hF
 refine aZ ?_
 refine Xx (xs:=ag) dh.h (.tmp rfl rfl) .h Xi (fun bn1 hn2=>?_)
 refine au ?_
 refine Cc (fun hb3=>?_) (fun hb3=>?_)
 · have hnil:=hn2 hb3
   replace hF:some []=some R:=by rw[hnil]at hF; simpa[app]using hF
   refine aU ?_
   cases hF
   exact iX (⟨none,0,0⟩,[]) (.tmp rfl rfl .nil) rfl (.conv .nil (iD (Ro:=(aG aK)) (E:=3)) (.cons .nil) (.sel (.cons .h .nil)))
 refine aW ?_
 refine dQ rfl (cz (g:=true) dh.h dw.h .nil (vs:=[]) rfl rfl rfl (by simp)) (fun k4=>?_)
 refine dP (.cons .h .nil) (cK (Ro:=(aG aK)) (E:=3) (F:=[]) (xs:=([]:List Int)) cB rfl rfl) ?_
 refine au ?_
 refine bnd hF fun z5 hx6 hF=>dZ (.cons .h (.rd .h rfl .nil)) (fT (Ro:=(aG aK)) dh.h kF dw.h rfl rfl rfl (.tmp rfl rfl) (.tmp rfl rfl) hx6 qp) (fun p7=>?_)
 refine bq ?_
 cases hF
 exact Er (p7.1,p7.2)
def EI(bu:Fact):Option (Fact):=
 (x_ bu.Values).bind fun r3=>
 some (⟨bu.Rel,r3⟩:Fact)
theorem Wh{bu:Fact}{ay:Sv}{R:Fact}(hF:EI bu=some R):
   Fw.Spec Tryz.prog 195 [(zg [(zi bu.Rel),ay.v])] [ah ay bu.Values] (fun p:Sv×List Nat=>(zg [(zi R.Rel),p.1.v])) (fun p=>[bC p.2 p.1 R.Values]):=by
 refine Se 9 Tryz.func195 [.cell 2 147] ?_
 intro H0 F0
 unfold EI at hF
 refine au ?_
 refine bB (fun k1=>?_)
 refine dH (fun k2=>?_)
 refine au ?_
 refine dE [0,1,2,3,4,5,6] [0,1,0,4,12,31,63] [4,6] mixed (by decide+kernel) ?_
 refine o9 ?_
 refine bnd hF fun r3 hx4 hF=>Aw (KG hx4) (fun p5=>?_)
 refine dX rfl .no (fun ha=>jm fB.h rfl (vs:=[(zi bu.Rel),p5.1.v]) (.cons (EN ha (.tmp rfl rfl) rfl) (.cons (EN ha (.tmp rfl rfl) rfl) .nil)) (cells:=[(zi bu.Rel),p5.1.v]) rfl) ?_
 refine eU rfl rfl .no (.cons (.t .h) .nil) .nil (fun ha=>kg (e':=(zg [(zi bu.Rel),p5.1.v])) (v:=(zg [(zi bu.Rel),p5.1.v])) fB.h.sz (EN ha (.tmp rfl rfl) rfl) (EN ha (.tmp rfl rfl) rfl) rfl rfl rfl rfl rfl) (fun _=>?_)
 refine du ?_
 refine au ?_
 cases hF
 exact Er (p5.1,p5.2)
def Ea:List Fact->Nat->(List Fact)->Option ((List Fact))
 |[],k8,c2=>some c2
 |dx::fC,k8,c2=>(EI dx).bind fun l5=>
   (app c2 ([l5]:List Fact)).bind fun z25=>
   Ea fC (k8+1) z25
def R8(ak:List Fact):Option ((List Fact)):=
 Ea ak 0 ([]:List Fact)
theorem aiX{ak:List Fact}{ae:Sv}{R:(List Fact)}(hF:R8 ak=some R):
   Fw.Spec Tryz.prog 105 [ae.v] [dY ae ak] (fun p:Sv×List Nat=>p.1.v) (fun p=>[nO p.2 p.1 R]):=by
 refine Se 20 Tryz.func105 [.tmp 2] ?_
 intro H0 F0
 unfold R8 at hF
 refine aU ?_
 refine dQ rfl (cz (g:=true) gz.h fB.h .nil (vs:=[]) rfl rfl rfl (by simp)) (fun k1=>?_)
 refine dP (.cons .h .nil) (cK (Ro:=iT) (E:=147) (F:=[]) (xs:=([]:List Fact)) cB rfl rfl) ?_
 refine di ?_
 refine bn (bF (m:=ak.length) (fun m6 f' cs'=>∃(g:Fr)(k8:Nat)(fC c2:List Fact)(v3:Sv)(F4:List Nat),m6=fC.length/\f'=aM g [(3,v3.v),(7,ae.v),(8,(zi (ak.length:Int))),(9,(zi (k8:Int)))]/\List.drop k8 ak=fC/\aL cs' [nO F4 v3 c2,dY ae ak]/\Ea fC k8 c2=some R) ⟨_,0,_,_,⟨(some ⟨k1,0,none⟩),0,1⟩,(k1::[]),rfl,aA,rfl,az,hF⟩ ?_)
 rintro m6 _ _ ⟨g7,k8,fC,c2,v3,F4,rfl,rfl,gD,hE,hF⟩
 refine Kb hE ak (fun Od=>?_)
 rcases fC with _|⟨dx,fC⟩
 · have vJ:=dn gD
   rw[Ea]at hF
   refine aU ?_
   refine bR ?_
   refine dK ?_
   cases hF
   exact Er (v3,F4)
 obtain⟨vJ,jr,vK⟩:=bN gD
 rw[Ea]at hF
 refine aU ?_
 refine bQ ?_
 refine bq ?_
 refine Ai jr (fun k17 j18=>?_)
 refine iM (oh dx) oU (fun p19=>?_)
 refine dH (fun k20=>?_)
 refine As (zg [(zi dx.Rel),p19.v]) ?_
 refine aU ?_
 refine bnd hF fun l5 sJ hF=>eZ (Wh sJ) (fun AA=>?_)
 refine dQ rfl (cz (g:=true) gz.h fB.h bZ (vs:=[(zg [(zi l5.Rel),AA.1.v])]) rfl rfl rfl (by intro v hv; simp at hv; rcases hv with rfl<;>rfl)) (fun k24=>?_)
 refine dP (.cons .h (.cons .h .nil)) (cK (Ro:=iT) (E:=147) (F:=(AA.2++[])) (xs:=([l5]:List Fact)) (gq Cr cB dz) rfl rfl) ?_
 refine bnd hF fun z25 nk hF=>dZ (.cons .q4 (.cons .h .nil)) (fT (Ro:=iT) gz.h FP fB.h rfl rfl rfl (.tmp rfl rfl) (.tmp rfl rfl) nk iF) (fun p27=>?_)
 refine aZ ?_
 rw[wk k8]
 exact⟨_,bG _,_,k8+1,fC,_,p27.1,p27.2,rfl,aA,vK,az,hF⟩
def Eb(bu:Fact)(eQ:Access):List Int->Nat->Option (Bool)
 |[],k5=>some false
 |x7::bz,k5=>(ix bu.Values x7).bind fun gF=>
   (ix eQ.Values (k5:Int)).bind fun uB=>
   if ((gF:Int)!=uB)then (
     some true)
   else (
     Eb bu eQ bz (k5+1))
def uJ(bu:Fact)(aH:Method)(eQ:Access):Option (Bool):=
 if ((bu.Rel:Int)!=aH.Rel)then (
   some true)
 else (
   Eb bu eQ aH.Inputs 0)
theorem aaZ{bu:Fact}{ay:Sv}{bM:Nat}{aH:Method}{fo:Sv}{jA:Nat}{eQ:Access}{ni:Sv}{R:Bool}(hF:uJ bu aH eQ=some R):
   Fw.Spec Tryz.prog 300 [(zg [(zi bu.Rel),ay.v]),(pz bM),(pz jA)] [ah ay bu.Values,bi bM 89 (zg [(zi aH.Rel),fo.v,(zi aH.Limit),(zi aH.Cost),(zi aH.Quota)]),ah fo aH.Inputs,bi jA 145 (zg [(zi eQ.Method),ni.v]),ah ni eQ.Values] (fun _:Unit=>(.bool R)) (fun _=>[]):=by
 refine Se 32 Tryz.func300 [.tmp 4] ?_
 intro H0 F0
 unfold uJ at hF
 refine au ?_
 refine bB (fun k1=>?_)
 refine iU ?_
 refine Ci hF (fun o_ hF=>?_) (fun o_ hF=>?_)
 · exact ze hF
 refine di ?_
 refine bn (bF (m:=aH.Inputs.length) (fun m3 f' cs'=>∃(g:Fr)(k5:Nat)(bz:List Int),m3=bz.length/\f'=aM g [(2,(pz jA)),(3,(pz k1)),(13,fo.v),(14,(zi (aH.Inputs.length:Int))),(15,(zi (k5:Int)))]/\List.drop k5 aH.Inputs=bz/\aL cs' [bi jA 145 (zg [(zi eQ.Method),ni.v]),ah ni eQ.Values,bi k1 147 (zg [(zi bu.Rel),ay.v]),ah ay bu.Values,ah fo aH.Inputs]/\Eb bu eQ bz k5=some R) ⟨_,0,_,rfl,aA,rfl,az,hF⟩ ?_)
 rintro m3 _ _ ⟨g4,k5,bz,rfl,rfl,gL,hE,hF⟩
 refine Kb hE aH.Inputs (fun qz=>?_)
 rcases bz with _|⟨x7,bz⟩
 · have jP:=dn gL
   rw[Eb]at hF
   refine aU ?_
   refine bR ?_
   exact ze hF
 obtain⟨jP,eX,gD⟩:=bN gL
 rw[Eb]at hF
 refine aU ?_
 refine bQ ?_
 refine aU ?_
 refine Ai eX (fun k14 vZ=>?_)
 refine Al bY ?_
 refine bq ?_
 refine dE [0,1,2,3,4,5,6,7,8,9,10] [0,1,0,7,15,0,32,0,224,480,1023] [] mixed (by decide+kernel) ?_
 refine dI ?_
 refine zI hF fun gF uj jq hF=>?_
 refine Di jq (fun k20 pF=>?_)
 refine Dl bY ?_
 refine dI ?_
 refine zI hF fun uB afF hx25 hF=>?_
 refine Di hx25 (fun k26 j27=>?_)
 refine Dl bY ?_
 refine bS ?_
 refine Ci hF (fun zV hF=>?_) (fun zV hF=>?_)
 · exact ze hF
 refine aV ?_
 rw[wk k5]
 exact⟨_,bG _,_,k5+1,bz,rfl,aA,gD,az,hF⟩
def G7(aH:Method)(eQ:Access):List Fact->Nat->Option (Int)
 |[],k4=>some (-1)
 |x6::ax,k4=>(uJ x6 aH eQ).bind fun r16=>
   if r16 then (
     some (k4:Int))
   else (
     G7 aH eQ ax (k4+1))
def VK(ag:List Fact)(aH:Method)(eQ:Access):Option (Int):=
 G7 aH eQ ag 0
theorem ag1{ag:List Fact}{ae:Sv}{bM:Nat}{aH:Method}{fo:Sv}{jA:Nat}{eQ:Access}{ni:Sv}{R:Int}(hF:VK ag aH eQ=some R):
   Fw.Spec Tryz.prog 258 [ae.v,(.func (.func 300) [].toArray [(pz bM),(pz jA)].toArray)] [dY ae ag,bi bM 89 (zg [(zi aH.Rel),fo.v,(zi aH.Limit),(zi aH.Cost),(zi aH.Quota)]),ah fo aH.Inputs,bi jA 145 (zg [(zi eQ.Method),ni.v]),ah ni eQ.Values] (fun _:Unit=>(zi R)) (fun _=>[]):=by
 refine Se 19 Tryz.func258 [.tmp 4] ?_
 intro H0 F0
 unfold VK at hF
 refine dK ?_
 refine bn (bF (m:=ag.length) (fun m2 f' cs'=>∃(g:Fr)(k4:Nat)(ax:List Fact),m2=ax.length/\f'=aM g [(0,ae.v),(1,(.func (.func 300) [].toArray [(pz bM),(pz jA)].toArray)),(7,(zi (ag.length:Int))),(8,(zi (k4:Int)))]/\List.drop k4 ag=ax/\aL cs' [dY ae ag,bi bM 89 (zg [(zi aH.Rel),fo.v,(zi aH.Limit),(zi aH.Cost),(zi aH.Quota)]),ah fo aH.Inputs,bi jA 145 (zg [(zi eQ.Method),ni.v]),ah ni eQ.Values]/\G7 aH eQ ax k4=some R) ⟨_,0,_,rfl,aA,rfl,az,hF⟩ ?_)
 rintro m2 _ _ ⟨g3,k4,ax,rfl,rfl,hd7,hE,hF⟩
 refine Kb hE ag (fun iK=>?_)
 rcases ax with _|⟨x6,ax⟩
 · have dM:=dn hd7
   rw[G7]at hF
   refine aU ?_
   refine bR ?_
   exact ze hF
 obtain⟨dM,bP,dL⟩:=bN hd7
 rw[G7]at hF
 refine aU ?_
 refine bQ ?_
 refine iU ?_
 refine Ai bP (fun k13 j6=>?_)
 refine iM (oh x6) oU (fun jd=>?_)
 refine bnd hF fun r16 iP hF=>kE (.rd .h rfl (.rd .q3 rfl (.rd .q4 rfl (.rd .q5 rfl (.rd .q6 rfl .nil))))) (oo aeG.h (.tmp rfl rfl) bZ (aaZ iP)) (fun _=>?_)
 refine au ?_
 refine Ci hF (fun nT hF=>?_) (fun nT hF=>?_)
 · exact ze hF
 refine aV ?_
 rw[wk k4]
 exact⟨_,bG _,_,k4+1,ax,rfl,aA,dL,az,hF⟩
def Q5(ag:List Fact)(aH:Method)(eQ:Access):Option (List Fact):=
 JE (fun ai=>uJ ai aH eQ) ag
theorem agZ(qs:List (Value×Fact))(v:Sv)(F:List Nat)(bM:Nat)(aH:Method)(fo:Sv)(jA:Nat)(eQ:Access)(ni:Sv)(p:Value×Fact->Bool)(hcl:∀q∈qs,uJ q.2 aH eQ=some (p q))(hidx:VK (qs.map Prod.snd) aH eQ=some (jN p qs 0))(hbd:qs.length<4611686018427387904):
   Fw.Spec Tryz.prog 299 [v.v,(.func (.func 300) [].toArray [(.pointer (some ⟨bM,0,some 0⟩)),(.pointer (some ⟨jA,0,some 0⟩))].toArray)] [aQ (aP 147 (aG (rq m_))) F v.v qs,bi bM 89 (.agg [(.int .i64 aH.Rel),fo.v,(.int .i64 aH.Limit),(.int .i64 aH.Cost),(.int .i64 aH.Quota)].toArray),bK (aJ 3 aK) fo.v aH.Inputs,bi jA 145 (.agg [(.int .i64 eQ.Method),ni.v].toArray),bK (aJ 3 aK) ni.v eQ.Values] (fun q:Sv×List Nat=>q.1.v) (fun q=>[aQ (aP 147 (aG (rq m_))) q.2 q.1.v (qs.filter fun a=>!p a)]):=by
 refine LZ (n:=42) Tryz.func299 rfl rfl (rs:=[.tmp 4]) rfl rfl rfl ?_
 intro H0 F0
 refine fe ?_
 refine aI (lD (v:=(.slice none 0 0)) EV.nilSlice) ?_
 refine h_ ?_
 refine fe ?_
 refine aI (eG (v:=v.v) (.tmp rfl rfl)) ?_
 refine aI (eG (v:=(.func (.func 300) [].toArray [(.pointer (some ⟨bM,0,some 0⟩)),(.pointer (some ⟨jA,0,some 0⟩))].toArray)) (.tmp rfl rfl)) ?_
 refine dZ (.cons .h (.rd .h rfl (.rd (.t .h) rfl (.rd (.t (.t .h)) rfl (.rd (.t (.t (.t .h))) rfl .nil))))) (anj aog (fun _=>.nil) (zk (.rd (.t (.t (.t (.t .h)))) rfl (.rd .h rfl (.rd (.t .h) rfl (.rd (.t (.t .h)) rfl (.rd (.t (.t (.t .h))) rfl .nil))))) (dB aeH.h (.cons (.tmp rfl rfl) (.cons (.tmp rfl rfl) .nil)) (@ag1 (qs.map Prod.snd) v bM aH fo jA eQ ni _ hidx)))) (fun _=>?_)
 generalize hR:jN p qs 0=R0
 refine aI (lD (v:=(.int .i64 R0)) (.tmp rfl rfl)) ?_
 refine h_ ?_
 refine qC ?_
 refine fe ?_
 refine aI (eG (v:=(.int .i64 R0)) (.tmp rfl rfl)) ?_
 refine aI (Ju (i:=R0) (j:=(-1)) (.tmp rfl rfl) (.int _ _)) ?_
 refine h_ ?_
 refine rY (b:=(R0==(-1:Int))) (.tmp rfl rfl) (fun hb=>?_) (fun hb=>?_)
 · refine fe ?_
   refine aI (eG (v:=v.v) (.tmp rfl rfl)) ?_
   refine aI (lD (v:=v.v) (.tmp rfl rfl)) ?_
   refine h_ ?_
   refine Ff ?_
   have e:qs.filter (fun q=>!p q)=qs:=acX (k:=0) (by rw[hR]; simpa using hb)
   rw[e]
   exact iX (v,F) (.tmp rfl rfl .nil) rfl (.sel (.cons .h .nil))
 refine EY ?_
 obtain⟨i0,hi0,hi1⟩:∃i:Nat,R0=(i:Int)/\i<qs.length:=by
   rcases acr p qs 0 with h|⟨i,h,hi⟩
   · rw[hR]at h; subst h; simp at hb
   · exact⟨i,by rw[←hR,h],by omega⟩
 subst hi0
 refine qC ?_
 refine fe ?_
 refine aI (eG (v:=(.int .i64 (i0:Int))) (.tmp rfl rfl)) ?_
 refine aI (tX (i:=(i0:Int)) (j:=1) (.tmp rfl rfl) (.int _ _)) ?_
 rw[show IntKind.i64.wrap ((i0:Int)+1)=((i0+1:Nat):Int)from by rw[fU (by omega) (by omega)]; rfl]
 refine aI (lD (v:=(.int .i64 ((i0+1:Nat):Int))) (.tmp rfl rfl)) ?_
 refine h_ ?_
 refine bn ?_
 refine bF (m:=qs.length-(i0+1)) (fun m f' cs'=>∃(g:Fr)(cur:List (Value×Fact))(i j:Nat)(F':List Nat),m=qs.length-j/\f'=aM g [(0,v.v),(1,(.func (.func 300) [].toArray [(.pointer (some ⟨bM,0,some 0⟩)),(.pointer (some ⟨jA,0,some 0⟩))].toArray)),(5,(.int .i64 (i:Int))),(6,(.int .i64 (j:Int)))]/\rH p qs cur i j/\aL cs' [aQ (aP 147 (aG (rq m_))) F' v.v cur,bi bM 89 (.agg [(.int .i64 aH.Rel),fo.v,(.int .i64 aH.Limit),(.int .i64 aH.Cost),(.int .i64 aH.Quota)].toArray),bK (aJ 3 aK) fo.v aH.Inputs,bi jA 145 (.agg [(.int .i64 eQ.Method),ni.v].toArray),bK (aJ 3 aK) ni.v eQ.Values]) ⟨_,qs,i0,i0+1,F,rfl,(gW.cons rfl (gW.cons rfl (gW.cons rfl (gW.cons rfl (gW.nil))))).eq,rH.init (by rw[hR]),.sel (.cons .h (.rd .h rfl (.rd (.t .h) rfl (.rd (.t (.t .h)) rfl (.rd (.t (.t (.t .h))) rfl .nil)))))⟩ ?_
 rintro m _ _ ⟨g,cur,i,j,F',rfl,rfl,hI,hE⟩
 refine bD hE ?_
 clear hE
 refine qC ?_
 refine fe ?_
 refine aI (eG (v:=(.int .i64 (j:Int))) (.tmp rfl rfl)) ?_
 refine aI (eG (v:=v.v) (.tmp rfl rfl)) ?_
 refine fq .h (fun hp=>qw (l:=cur.length) gz.h (.tmp rfl rfl) (ER hp)) ?_
 refine aI (XY (i:=(j:Int)) (j:=(cur.length:Int)) (.tmp rfl rfl) (.tmp rfl rfl)) ?_
 refine h_ ?_
 have hlen:=hI.len
 have hij:=hI.lt
 have hjl:=hI.le
 refine rY (b:=(decide ((j:Int)<(cur.length:Int)))) (.tmp rfl rfl) (fun hb2=>?_) (fun hb2=>?_)
 · refine EY ?_
   have hj:j<qs.length:=by simp at hb2; omega
   obtain⟨x,hx1,hx2⟩:=hI.at hj
   refine adf ?_
   refine fe ?_
   refine aI (eG (v:=v.v) (.tmp rfl rfl)) ?_
   refine aI (eG (v:=(.int .i64 (j:Int))) (.tmp rfl rfl)) ?_
   refine mY gz.h fB.h.sz (.tmp rfl rfl) (.tmp rfl rfl) .h (by simp; omega) (fun k hk=>?_)
   refine aof (a:=x) (ul:=fun i:Sv=>[(.int .i64 x.2.Rel),i.v]) (cc:=fun i=>[bK (aJ 3 aK) i.v x.2.Values]) NV.h fB.h.sz rfl (.tmp rfl rfl) .h hk (by simpa using hx1) (fun H e h=>by obtain⟨-,v0,h1,h0⟩:=h; exact⟨v0,h1,rfl,by simp[bK,h0]⟩) (fun w=>?_)
   refine dQ rfl (Jb (g:=true) fB.h rfl rfl) (fun k1=>?_)
   refine dZ (.cons .h .nil) (kg (e:=(.agg [(.int .i64 0),(.slice none 0 0)].toArray)) (e':=(.agg [(.int .i64 x.2.Rel),w.v].toArray)) (v:=(.agg [(.int .i64 x.2.Rel),w.v].toArray)) fB.h.sz (.tmp rfl rfl) (.tmp rfl rfl) rfl rfl rfl rfl rfl) (fun _=>?_)
   refine h_ ?_
   refine fe ?_
   refine aI (eG (v:=(.func (.func 300) [].toArray [(.pointer (some ⟨bM,0,some 0⟩)),(.pointer (some ⟨jA,0,some 0⟩))].toArray)) (.tmp rfl rfl)) ?_
   refine fq .h (fun hp=>lC NV.h fB.h.sz rfl (.tmp rfl rfl) hp.2 rfl) ?_
   refine kE (.rd (.t (.t .h)) rfl (.rd (.t (.t (.t (.t .h)))) rfl (.rd (.t (.t (.t (.t (.t .h))))) rfl (.rd (.t (.t (.t (.t (.t (.t .h)))))) rfl (.rd (.t (.t (.t (.t (.t (.t (.t .h))))))) rfl .nil))))) (oo aeG.h (.tmp rfl rfl) (.cons (.tmp rfl rfl) .nil) (@aaZ x.2 w bM aH fo jA eQ ni _ (hcl x (List.mem_of_getElem? hx2)))) (fun _=>?_)
   refine aI (NM (b:=p x) (.tmp rfl rfl)) ?_
   refine h_ ?_
   refine rY (b:=(!p x)) (.tmp rfl rfl) (fun hb3=>?_) (fun hb3=>?_)
   · refine fe ?_
     refine aI (eG (v:=v.v) (.tmp rfl rfl)) ?_
     refine aI (eG (v:=(.int .i64 (i:Int))) (.tmp rfl rfl)) ?_
     refine fq .h (fun hp=>lC NV.h fB.h.sz rfl (.tmp rfl rfl) hp.2 rfl) ?_
     have hii:(decide ((0:Int)<=(i:Int))&&decide ((i:Int)<(cur.length:Int)))=true:=by simp; omega
     refine mY gz.h fB.h.sz (.tmp rfl rfl) (.tmp rfl rfl) (.t (.t (.t .h))) hii (fun k2 hk2=>?_)
     refine dZ (.cons (.t (.t (.t .h))) (.rd (.t .h) rfl .nil)) (tF (Ro:=aG (rq m_)) (a:=x) (i:=(i:Int)) fB.h.sz rfl (.tmp rfl rfl) (.tmp rfl rfl) hk2 hii X3 (fun _ _ _ _ h=>by obtain⟨-,-,v0,rfl,_⟩:=h; rfl)) (fun F2=>?_)
     refine h_ ?_
     refine EJ ?_
     refine aI (eG (v:=(.int .i64 (i:Int))) (.tmp rfl rfl)) ?_
     refine aI (tX (i:=(i:Int)) (j:=1) (.tmp rfl rfl) (.int _ _)) ?_
     rw[show IntKind.i64.wrap ((i:Int)+1)=((i+1:Nat):Int)from by rw[fU (by omega) (by omega)]; rfl]
     refine aI (lD (v:=(.int .i64 ((i+1:Nat):Int))) (.tmp rfl rfl)) ?_
     refine h_ ?_
     refine EJ ?_
     refine aI (eG (v:=(.int .i64 (j:Int))) (.tmp rfl rfl)) ?_
     refine aI (tX (i:=(j:Int)) (j:=1) (.tmp rfl rfl) (.int _ _)) ?_
     rw[show IntKind.i64.wrap ((j:Int)+1)=((j+1:Nat):Int)from by rw[fU (by omega) (by omega)]; rfl]
     refine aI (lD (v:=(.int .i64 ((j+1:Nat):Int))) (.tmp rfl rfl)) ?_
     refine h_ ?_
     exact⟨_,by omega,_,cur.set i x,i+1,j+1,F2,rfl,(gW.cons rfl (gW.cons rfl (gW.cons rfl (gW.cons rfl (gW.nil))))).eq,hI.no hx2 (by simpa using hb3),.sel (.cons .h (.rd (.t (.t (.t .h))) rfl (.rd (.t (.t (.t (.t .h)))) rfl (.rd (.t (.t (.t (.t (.t .h))))) rfl (.rd (.t (.t (.t (.t (.t (.t .h)))))) rfl .nil)))))⟩
   · refine EY ?_
     refine EJ ?_
     refine aI (eG (v:=(.int .i64 (j:Int))) (.tmp rfl rfl)) ?_
     refine aI (tX (i:=(j:Int)) (j:=1) (.tmp rfl rfl) (.int _ _)) ?_
     rw[show IntKind.i64.wrap ((j:Int)+1)=((j+1:Nat):Int)from by rw[fU (by omega) (by omega)]; rfl]
     refine aI (lD (v:=(.int .i64 ((j+1:Nat):Int))) (.tmp rfl rfl)) ?_
     refine h_ ?_
     exact⟨_,by omega,_,cur,i,j+1,F',rfl,(gW.cons rfl (gW.cons rfl (gW.cons rfl (gW.cons rfl (gW.nil))))).eq,hI.yes hx2 (by simpa using hb3),.sel (.cons (.t (.t (.t .h))) (.rd (.t (.t (.t .h))) rfl (.rd (.t (.t (.t (.t .h)))) rfl (.rd (.t (.t (.t (.t (.t .h))))) rfl (.rd (.t (.t (.t (.t (.t (.t .h)))))) rfl .nil)))))⟩
 · refine ade ?_
   refine WN ?_
   refine WN ?_
   refine acQ ?_
   have hj:qs.length<=j:=by simp at hb2; omega
   refine Tx .h (Xk (by intro e; rw[e]at hlen; simp at hlen; omega)) (fun hv=>?_)
   obtain⟨k0,m0,rfl,hm0⟩:=hv
   refine fe ?_
   refine aI (eG (v:=(.slice (some ⟨k0,0,none⟩) cur.length m0)) (.tmp rfl rfl)) ?_
   refine aI (eG (v:=(.int .i64 (i:Int))) (.tmp rfl rfl)) ?_
   refine al2 gz.h fB.h.sz (.tmp rfl rfl) (.tmp rfl rfl) .h (by omega) (by omega) ?_
   refine dZ (.cons .h .nil) (ano (l:=cur.length) (m:=m0) (k:=k0) (i:=i) (j:=cur.length-i) gz.h fB.h rfl rfl rfl rfl rfl (by omega) (.tmp rfl rfl)) (fun _=>?_)
   refine h_ ?_
   refine fe ?_
   refine aI (eG (v:=(.slice (some ⟨k0,0,none⟩) cur.length m0)) (.tmp rfl rfl)) ?_
   refine aI (eG (v:=(.int .i64 (i:Int))) (.tmp rfl rfl)) ?_
   refine al3 gz.h fB.h.sz (.tmp rfl rfl) hm0 (.tmp rfl rfl) .h rfl (by omega) (by omega) (by omega) ?_
   refine aI (lD (v:=(.slice (some ⟨k0,0,none⟩) i 2)) (.tmp rfl rfl)) ?_
   refine h_ ?_
   refine Ff ?_
   rw[←hI.fin hj]
   exact iX (⟨some ⟨k0,0,none⟩,i,2⟩,F') (.tmp rfl rfl .nil) rfl (.sel (.cons .h .nil))
theorem ag0{ag:List Fact}{ae:Sv}{qa:List Nat}{bM:Nat}{aH:Method}{fo:Sv}{jA:Nat}{eQ:Access}{ni:Sv}{R:List Fact}(hF:Q5 ag aH eQ=some R):
   Fw.Spec Tryz.prog 299 [ae.v,(.func (.func 300) [].toArray [(.pointer (some ⟨bM,0,some 0⟩)),(.pointer (some ⟨jA,0,some 0⟩))].toArray)] [aQ (aP 147 iT) qa ae.v ag,bi bM 89 (.agg [(.int .i64 aH.Rel),fo.v,(.int .i64 aH.Limit),(.int .i64 aH.Cost),(.int .i64 aH.Quota)].toArray),bK (aJ 3 aK) fo.v aH.Inputs,bi jA 145 (.agg [(.int .i64 eQ.Method),ni.v].toArray),bK (aJ 3 aK) ni.v eQ.Values] (fun p:Sv×List Nat=>p.1.v) (fun p=>[aQ (aP 147 iT) p.2 p.1.v R]):=by
 unfold Q5 at hF
 obtain⟨h1,h2⟩:=acp hF
 refine al4 als (fun hb=>?_)
 refine al1 (R:=m_) rfl (fun es F1 hel=>⟨(es.zip ag).filter (fun a=>!(uJ a.2 aH eQ).getD false),List.filter_sublist,by rw[h2]; exact alx (fun a=>(uJ a aH eQ).getD false) es ag hel,?_⟩)
 refine agZ (es.zip ag) ae F1 bM aH fo jA eQ ni (fun a=>(uJ a.2 aH eQ).getD false) (fun q hq=>h1 q.2 (List.of_mem_zip hq).2) ?_ (by simp; omega)
 rw[List.map_snd_zip (Nat.le_of_eq hel.symm),←adt Prod.snd (fun a=>(uJ a aH eQ).getD false),List.map_snd_zip (Nat.le_of_eq hel.symm)]
 exact nC (L:=G7 aH eQ) (fun _=>rfl) (fun _ _ _=>rfl) ag 0 h1
def MV(ak:List Method)(dW:List Fact)(aa:Access):Option ((List Fact)):=
 (ix ak aa.Method).bind fun x2=>
 (R8 dW).bind fun ik=>
 (Q5 ik x2 aa).bind fun r16=>
 some r16
theorem ako{ak:List Method}{ae:Sv}{dW:List Fact}{aC:Sv}{aa:Access}{eP:Sv}{R:(List Fact)}(hF:MV ak dW aa=some R):
   Fw.Spec Tryz.prog 264 [ae.v,aC.v,(zg [(zi aa.Method),eP.v])] [dD ae ak,dY aC dW,ah eP aa.Values] (fun p:Sv×List Nat=>p.1.v) (fun p=>[nO p.2 p.1 R]):=by
 refine Se 17 Tryz.func264 [.tmp 6] ?_
 intro H0 F0
 unfold MV at hF
 refine au ?_
 refine bB (fun k1=>?_)
 refine aZ ?_
 refine zI hF fun x2 hp4 hx5 hF=>?_
 refine Ai hx5 (fun k6 j7=>?_)
 refine iM (uL x2) wQ (fun p8=>?_)
 refine dH (fun k9=>?_)
 refine As (zg [(zi x2.Rel),p8.v,(zi x2.Limit),(zi x2.Cost),(zi x2.Quota)]) ?_
 refine au ?_
 refine rZ .h adg ?_
 refine aW ?_
 refine bnd hF fun ik iy hF=>eZ (aiX iy) (fun jd=>?_)
 refine aI (uK (fn:=.func 300) (vs:=[]) (us:=[(pz k9),(pz k1)]) .nil bZ) ?_
 refine bnd hF fun r16 iP hF=>eZ (ag0 iP) (fun nZ=>?_)
 refine bq ?_
 cases hF
 exact Er (nZ.1,nZ.2)
def Ji(fu:Int):Option (Bool):=
 (kL fu 0 10000).bind fun r1=>
 some r1
theorem WF{fu:Int}{R:Bool}(hF:Ji fu=some R):
   Fw.Spec Tryz.prog 133 [(zi fu)] [] (fun _:Unit=>(.bool R)) (fun _=>[]):=by
 refine Se 5 Tryz.func133 [.tmp 2] ?_
 intro H0 F0
 unfold Ji at hF
 refine aV ?_
 refine bnd hF fun r1 hx2 hF=>aX (l8 hx2) (fun _=>?_)
 exact ze hF
def Ms(ag:List Int)(ak:List Method)(bg:eH):Option (Bool):=
 ((IR ag ak bg.Access).bind fun r4=>
   bif r4 then ((Mq ag bg.Facts).bind fun r8=>
     bif r8 then ((MV ak bg.Facts bg.Access).bind fun ig=>
       bif (((ig.length:Int):Int)==(bg.Facts.length:Int))then ((Ji bg.At).bind fun r16=>
         some r16)
       else (some false))
     else (some false))
   else (some false)).bind fun o2=>
 match o2 with
 |c19=>some c19
theorem ajB{ag:List Int}{ae:Sv}{ak:List Method}{aC:Sv}{bg:eH}{eP agh:Sv}{R:Bool}(hF:Ms ag ak bg=some R):
   Fw.Spec Tryz.prog 215 [ae.v,aC.v,(zg [(zi bg.Access.Method),eP.v,agh.v,(zi bg.At)])] [ah ae ag,dD aC ak,ah eP bg.Access.Values,dY agh bg.Facts] (fun _:Unit=>(.bool R)) (fun _=>[]):=by
 refine Se 36 Tryz.func215 [.tmp 6] ?_
 intro H0 F0
 unfold Ms at hF
 refine au ?_
 refine bB (fun k1=>?_)
 refine aW ?_
 obtain⟨o2,gK,hO3⟩:=bind_some hF
 refine dE [0,1,2,3,4,5,6,7,8,9,10,11,12,13,14,15,16,19,20,21,17,18,22,23,24,25,26,27,28,29] [0,0,0,4,15,31,63,63,191,511,1023,2047,4095,4095,12287,4095,36863,131071,262143,4095,528383,1576959,4194303,8388607,16777215,33554431,67108863,134217727,268435455,536870911] [4,9,17,27] mixed (by decide+kernel) ?_
 refine mD (fun f' cs'=>∃(c19:Bool)(g:Fr),c19=o2/\f'=aM g [(6,(.bool c19))]/\aL cs' []) ?_ ?_
 · replace hF:=gK
   refine dI ?_
   refine Cu rfl .no .h rfl (fun ha hp=>ko (s:=2) (l:=[(zi bg.Access.Method),eP.v]) FB.h xn.h.sz (EN ha (.tmp rfl rfl) rfl) hp.2 rfl (by decide) (Nat.le_of_ble_eq_true rfl) rfl) ?_
   refine bnd hF fun r4 hx5 hF=>dR (abf hx5) (fun _=>?_)
   refine du ?_
   rcases bL r4 with bI|bI
   · rw[bI]
     try rw[bI]at hF; dsimp only[aO,aN]at hF
     refine dI ?_
     refine bnd hF fun r8 bP hF=>dR (abe bP) (fun _=>?_)
     refine bS ?_
     rcases bL r8 with dJ|dJ
     · rw[dJ]
       try rw[dJ]at hF; dsimp only[aO,aN]at hF
       refine o9 ?_
       refine Cu rfl (.on 18 rfl rfl rfl) .h rfl (fun ha hp=>ko (s:=2) (l:=[(zi bg.Access.Method),eP.v]) FB.h xn.h.sz (EN ha (.tmp rfl rfl) rfl) hp.2 rfl (by decide) (Nat.le_of_ble_eq_true rfl) rfl) ?_
       refine dI ?_
       refine bnd hF fun ig jr hF=>Aw (ako jr) (fun Dq=>?_)
       refine fA rfl (.on 18 rfl rfl rfl) .h (fun ha hp=>qw (l:=ig.length) gz.h (EN ha (.tmp rfl rfl) rfl) (ER hp)) ?_
       refine dI ?_
       rcases bL (((ig.length:Int):Int)==(bg.Facts.length:Int))with jb|jb
       · rw[jb]
         try rw[jb]at hF; dsimp only[aO,aN]at hF
         refine bS ?_
         refine bnd hF fun r16 iP hF=>dR (WF iP) (fun _=>?_)
         exact eO hF
       rw[jb]
       try rw[jb]at hF; dsimp only[aO,aN]at hF
       exact eO hF
     rw[dJ]
     try rw[dJ]at hF; dsimp only[aO,aN]at hF
     exact eO hF
   rw[bI]
   try rw[bI]at hF; dsimp only[aO,aN]at hF
   exact eO hF
 rintro _ _ ⟨c19,g20,rfl,rfl,hE⟩
 replace hF:=hO3
 try dsimp only at hF
 refine bD hE ?_
 exact ze hF
def KN(aa:Access)(aj:Access):Option (Int):=
 (DJ aa.Method aj.Method).bind fun r3=>
 (Hr aa.Values aj.Values).bind fun r6=>
 (Ip ([r3,r6]:List Int)).bind fun nz=>
 some nz
theorem ahE{aa:Access}{ay:Sv}{aj:Access}{aR:Sv}{R:Int}(hF:KN aa aj=some R):
   Fw.Spec Tryz.prog 216 [(zg [(zi aa.Method),ay.v]),(zg [(zi aj.Method),aR.v])] [ah ay aa.Values,ah aR aj.Values] (fun _:Unit=>(zi R)) (fun _=>[]):=by
 refine Se 17 Tryz.func216 [.tmp 4] ?_
 intro H0 F0
 unfold KN at hF
 refine au ?_
 refine bB (fun k1=>?_)
 refine bB (fun k2=>?_)
 refine aW ?_
 refine dE [0,1,2,3,5,6,7,8,4,9,10,11,12] [0,1,0,4,15,0,32,0,128,511,1023,2047,4095] [4,9,11] mixed (by decide+kernel) ?_
 refine afy ?_
 refine bnd hF fun r3 hx4 hF=>dR (VM hx4) (fun _=>?_)
 refine bnd hF fun r6 hx7 hF=>dR (aae hx7) (fun _=>?_)
 refine jI rfl .no rfl (fun ha=>cz (g:=true) (len:=2) (parts:=[(0,.tmp 9),(1,.tmp 14)]) dh.h dw.h (.cons (EN ha (.tmp rfl rfl) rfl) (.cons (EN ha (.tmp rfl rfl) rfl) .nil)) (vs:=[(zi r3),(zi r6)]) rfl rfl rfl (by intro v hv; simp at hv; rcases hv with rfl|rfl<;>rfl)) (fun k9=>?_)
 refine jO (.cons .h .nil) (cK (Ro:=(aG aK)) (E:=3) (F:=([]++([]++[]))) (xs:=([r3,r6]:List Int)) (gq (jF (fun _=>rfl)) (gq (jF (fun _=>rfl)) cB dz) dz) rfl rfl) ?_
 refine bnd hF fun nz mf hF=>eU rfl rfl .no (.cons .h .nil) (.dep rfl .nil) (fun ha=>lF bU (fun _=>.nil) (dB aeF.h (.cons (EN ha (.tmp rfl rfl) rfl) .nil) (@aaR ([r3,r6]:List Int) (⟨(some ⟨k9,0,none⟩),2,1⟩) _ mf))) (fun _=>?_)
 refine bS ?_
 exact ze hF
def yx(ag:List Int)(ak:List Method)(gN:Cache):List eH->Nat->Option (Bool)
 |[],k5=>((BF ag ak).bind fun r16=>
     bif r16 then ((kL gN.Age 0 100).bind fun il=>
       bif il then (some (decide (((gN.Entries.length:Int):Int)<=100)))
       else (some false))
     else (some false)).bind fun qW=>
   match qW with
   |c24=>some c24
 |x7::bz,k5=>((Ms ag ak x7).bind fun r32=>
     bif (!r32)then (some true)
     else (bif (decide ((0:Int)<(k5:Int)))then ((ix gN.Entries (IntKind.i64.wrap ((k5:Int)-1))).bind fun lJ=>
         (KN lJ.Access x7.Access).bind fun n_=>
         some (decide ((0:Int)<=n_)))
       else (some false))).bind fun GA=>
   match GA with
   |qX=>if qX then (
       some false)
     else (
       yx ag ak gN bz (k5+1))
def SI(ag:List Int)(ak:List Method)(gN:Cache):Option (Bool):=
 yx ag ak gN gN.Entries 0
theorem akp{ag:List Int}{ae:Sv}{ak:List Method}{aC:Sv}{gN:Cache}{bJ:Sv}{R:Bool}(hF:SI ag ak gN=some R):
   Fw.Spec Tryz.prog 132 [ae.v,aC.v,(zg [bJ.v,(zi gN.Age)])] [ah ae ag,dD aC ak,kv bJ gN.Entries] (fun _:Unit=>(.bool R)) (fun _=>[]):=by
 refine Se 54 Tryz.func132 [.tmp 6] ?_
 intro H0 F0
 unfold SI at hF
 refine au ?_
 refine bB (fun k1=>?_)
 refine dK ?_
 refine bn (bF (m:=gN.Entries.length) (fun m3 f' cs'=>∃(g:Fr)(k5:Nat)(bz:List eH),m3=bz.length/\f'=aM g [(0,ae.v),(1,aC.v),(5,(pz k1)),(10,bJ.v),(11,(zi (gN.Entries.length:Int))),(12,(zi (k5:Int)))]/\List.drop k5 gN.Entries=bz/\aL cs' [ah ae ag,dD aC ak,bi k1 63 (zg [bJ.v,(zi gN.Age)]),kv bJ gN.Entries]/\yx ag ak gN bz k5=some R) ⟨_,0,_,rfl,aA,rfl,az,hF⟩ ?_)
 rintro m3 _ _ ⟨g4,k5,bz,rfl,rfl,gL,hE,hF⟩
 refine Kb hE gN.Entries (fun qz=>?_)
 rcases bz with _|⟨x7,bz⟩
 · have jP:=dn gL
   rw[yx]at hF
   refine aU ?_
   refine bR ?_
   refine aU ?_
   obtain⟨qW,FJ,CL⟩:=bind_some hF
   refine au ?_
   refine fE (fun f' cs'=>∃(c24:Bool)(g:Fr),c24=qW/\f'=aM g [(6,(.bool c24))]/\aL cs' []) ?_ ?_
   · replace hF:=FJ
     refine aW ?_
     refine bnd hF fun r16 iP hF=>aX (Rw iP) (fun _=>?_)
     refine au ?_
     rcases bL r16 with jZ|jZ
     · rw[jZ]
       try rw[jZ]at hF; dsimp only[aO,aN]at hF
       refine aV ?_
       refine bnd hF fun il kG hF=>aX (l8 kG) (fun _=>?_)
       refine aW ?_
       rcases bL il with j4|j4
       · rw[j4]
         try rw[j4]at hF; dsimp only[aO,aN]at hF
         exact bO hF
       rw[j4]
       try rw[j4]at hF; dsimp only[aO,aN]at hF
       exact bO hF
     rw[jZ]
     try rw[jZ]at hF; dsimp only[aO,aN]at hF
     exact bO hF
   rintro _ _ ⟨c24,QB,rfl,rfl,hE⟩
   replace hF:=CL
   try dsimp only at hF
   refine bD hE ?_
   exact ze hF
 obtain⟨jP,eX,gD⟩:=bN gL
 rw[yx]at hF
 refine aU ?_
 refine bQ ?_
 refine aU ?_
 refine Ai eX (fun k26 j27=>?_)
 refine zT (LG x7) RV (fun p28=>?_)
 refine dH (fun k29=>?_)
 refine au ?_
 refine As (zg [(zi x7.Access.Method),p28.1.v,p28.2.v,(zi x7.At)]) ?_
 refine au ?_
 obtain⟨GA,Ye,YU⟩:=bind_some hF
 refine dE [0,1,2,3,4,5,6,7,8,9,10,11,12,13,14,15,16,17,18,19,20,21] [0,0,0,7,15,31,63,127,255,511,1023,511,2559,8191,16383,32767,511,66047,262143,524287,1048575,2097151] [3,18] mixed (by decide+kernel) ?_
 refine mD (fun f' cs'=>∃(qX:Bool)(g:Fr),qX=GA/\f'=aM g [(0,ae.v),(1,aC.v),(5,(pz k1)),(10,bJ.v),(11,(zi (gN.Entries.length:Int))),(12,(zi (k5:Int))),(38,(.bool qX))]/\aL cs' [ah ae ag,dD aC ak,bi k1 63 (zg [bJ.v,(zi gN.Age)]),kv bJ gN.Entries]) ?_ ?_
 · replace hF:=Ye
   refine bS ?_
   refine fA rfl .no .h (fun ha hp=>lC aqh.h TP.h.sz rfl (EN ha (.tmp rfl rfl) rfl) hp.2 rfl) ?_
   refine bnd hF fun r32 vz hF=>dR (ajB vz) (fun _=>?_)
   refine bS ?_
   rcases bL (!r32)with PO|PO
   · rw[PO]
     try rw[PO]at hF; dsimp only[aO,aN]at hF
     exact eO hF
   rw[PO]
   try rw[PO]at hF; dsimp only[aO,aN]at hF
   refine dI ?_
   rcases bL (decide ((0:Int)<(k5:Int)))with vB|vB
   · rw[vB]
     try rw[vB]at hF; dsimp only[aO,aN]at hF
     refine o9 ?_
     refine zI hF fun lJ aur sG hF=>?_
     refine Di sG (fun qh Ka=>?_)
     refine du ?_
     refine lc (WE lJ) abP (fun p43=>?_)
     refine du ?_
     refine fA rfl (.on 25 rfl rfl rfl) .q2 (fun ha hp=>ko (s:=2) (l:=[(zi x7.Access.Method),p28.1.v]) FB.h xn.h.sz (EN ha (.tmp rfl rfl) rfl) hp.2 rfl (by decide) (Nat.le_of_ble_eq_true rfl) rfl) ?_
     refine bnd hF fun n_ FW hF=>dR (ahE FW) (fun _=>?_)
     exact eO hF
   rw[vB]
   try rw[vB]at hF; dsimp only[aO,aN]at hF
   exact eO hF
 rintro _ _ ⟨qX,g50,rfl,rfl,hE⟩
 replace hF:=YU
 try dsimp only at hF
 refine bD hE ?_
 refine Ci hF (fun avH hF=>?_) (fun avH hF=>?_)
 · exact ze hF
 refine aV ?_
 rw[wk k5]
 exact⟨_,bG _,_,k5+1,bz,rfl,aA,gD,az,hF⟩
def KX(aa:Access)(aH:gV):Option (Bool):=
 (IR aH.Schema aH.Methods aa).bind fun r2=>
 some (!r2)
theorem ahX{aa:Access}{ay:Sv}{bM:Nat}{aH:gV}{fP fo xu xw xx xy xz xh:Sv}{R:Bool}(hF:KX aa aH=some R):
   Fw.Spec Tryz.prog 135 [(zg [(zi aa.Method),ay.v]),(pz bM)] [ah ay aa.Values,bi bM 66 (zg [fP.v,fo.v,xu.v,xw.v,(zi aH.Source.Version),xx.v,(zi aH.Cache.Age),(zi aH.Now),xy.v,xz.v,(zi aH.Spent),xh.v]),ah fP aH.Schema,dD fo aH.Methods,lN xu aH.Rules,dY xw aH.Source.Facts,kv xx aH.Cache.Entries,ng xy aH.Log,ah xz aH.Times,bK (aJ 171 (aJ 22 (aJ 3 aK))) xh.v aH.Results] (fun _:Unit=>(.bool R)) (fun _=>[]):=by
 refine Se 11 Tryz.func135 [.tmp 3] ?_
 intro H0 F0
 unfold KX at hF
 refine au ?_
 refine bB (fun k1=>?_)
 refine di ?_
 refine bnd hF fun r2 hx3 hF=>aX (abf hx3) (fun _=>?_)
 exact ze hF
def G5(aH:gV):List Access->Nat->Option (Int)
 |[],k4=>some (-1)
 |x6::ax,k4=>(KX x6 aH).bind fun r16=>
   if r16 then (
     some (k4:Int))
   else (
     G5 aH ax (k4+1))
def Q3(ag:List Access)(aH:gV):Option (Int):=
 G5 aH ag 0
theorem agS{ag:List Access}{ae:Sv}{bM:Nat}{aH:gV}{fP fo xu xw xx xy xz xh:Sv}{R:Int}(hF:Q3 ag aH=some R):
   Fw.Spec Tryz.prog 217 [ae.v,(.func (.func 135) [].toArray [(pz bM)].toArray)] [ng ae ag,bi bM 66 (zg [fP.v,fo.v,xu.v,xw.v,(zi aH.Source.Version),xx.v,(zi aH.Cache.Age),(zi aH.Now),xy.v,xz.v,(zi aH.Spent),xh.v]),ah fP aH.Schema,dD fo aH.Methods,lN xu aH.Rules,dY xw aH.Source.Facts,kv xx aH.Cache.Entries,ng xy aH.Log,ah xz aH.Times,bK (aJ 171 (aJ 22 (aJ 3 aK))) xh.v aH.Results] (fun _:Unit=>(zi R)) (fun _=>[]):=by
 refine Se 19 Tryz.func217 [.tmp 4] ?_
 intro H0 F0
 unfold Q3 at hF
 refine dK ?_
 refine bn (bF (m:=ag.length) (fun m2 f' cs'=>∃(g:Fr)(k4:Nat)(ax:List Access),m2=ax.length/\f'=aM g [(0,ae.v),(1,(.func (.func 135) [].toArray [(pz bM)].toArray)),(7,(zi (ag.length:Int))),(8,(zi (k4:Int)))]/\List.drop k4 ag=ax/\aL cs' [ng ae ag,bi bM 66 (zg [fP.v,fo.v,xu.v,xw.v,(zi aH.Source.Version),xx.v,(zi aH.Cache.Age),(zi aH.Now),xy.v,xz.v,(zi aH.Spent),xh.v]),ah fP aH.Schema,dD fo aH.Methods,lN xu aH.Rules,dY xw aH.Source.Facts,kv xx aH.Cache.Entries,ng xy aH.Log,ah xz aH.Times,bK (aJ 171 (aJ 22 (aJ 3 aK))) xh.v aH.Results]/\G5 aH ax k4=some R) ⟨_,0,_,rfl,aA,rfl,az,hF⟩ ?_)
 rintro m2 _ _ ⟨g3,k4,ax,rfl,rfl,hd7,hE,hF⟩
 refine Kb hE ag (fun iK=>?_)
 rcases ax with _|⟨x6,ax⟩
 · have dM:=dn hd7
   rw[G5]at hF
   refine aU ?_
   refine bR ?_
   exact ze hF
 obtain⟨dM,bP,dL⟩:=bN hd7
 rw[G5]at hF
 refine aU ?_
 refine bQ ?_
 refine iU ?_
 refine Ai bP (fun k13 j6=>?_)
 refine iM (LH x6) RX (fun jd=>?_)
 refine bnd hF fun r16 iP hF=>kE (.rd .h rfl (.rd .q3 rfl (.rd .q4 rfl (.rd .q5 rfl (.rd .q6 rfl (.rd .q7 rfl (.rd .q8 rfl (.rd .q9 rfl (.rd .q10 rfl (.rd .q11 rfl .nil)))))))))) (oo aqG.h (.tmp rfl rfl) bZ (ahX iP)) (fun _=>?_)
 refine au ?_
 refine Ci hF (fun nT hF=>?_) (fun nT hF=>?_)
 · exact ze hF
 refine aV ?_
 rw[wk k4]
 exact⟨_,bG _,_,k4+1,ax,rfl,aA,dL,az,hF⟩
def Kq(ag:List Access)(aH:gV):Option (Bool):=
 (Q3 ag aH).bind fun r1=>
 some (decide ((0:Int)<=r1))
theorem agO{ag:List Access}{ae:Sv}{bM:Nat}{aH:gV}{fP fo xu xw xx xy xz xh:Sv}{R:Bool}(hF:Kq ag aH=some R):
   Fw.Spec Tryz.prog 134 [ae.v,(.func (.func 135) [].toArray [(pz bM)].toArray)] [ng ae ag,bi bM 66 (zg [fP.v,fo.v,xu.v,xw.v,(zi aH.Source.Version),xx.v,(zi aH.Cache.Age),(zi aH.Now),xy.v,xz.v,(zi aH.Spent),xh.v]),ah fP aH.Schema,dD fo aH.Methods,lN xu aH.Rules,dY xw aH.Source.Facts,kv xx aH.Cache.Entries,ng xy aH.Log,ah xz aH.Times,bK (aJ 171 (aJ 22 (aJ 3 aK))) xh.v aH.Results] (fun _:Unit=>(.bool R)) (fun _=>[]):=by
 refine Se 9 Tryz.func134 [.tmp 4] ?_
 intro H0 F0
 unfold Kq at hF
 refine aZ ?_
 refine bnd hF fun r1 hx2 hF=>aX (agS hx2) (fun _=>?_)
 exact ze hF
def KY(bg:Int)(sV:Int):Option (Bool):=
 ((Bl bg).bind fun r3=>
   bif r3 then ((Bl sV).bind fun r7=>
     bif (!r7)then (some true)
     else (some (decide ((bg:Int)<sV))))
   else (some (decide ((bg:Int)<sV)))).bind fun o1=>
 match o1 with
 |c11=>some c11
theorem ahY{bg sV:Int}{R:Bool}(hF:KY bg sV=some R):
   Fw.Spec Tryz.prog 276 [(zi bg),(zi sV)] [] (fun _:Unit=>(.bool R)) (fun _=>[]):=by
 refine Se 17 Tryz.func276 [.tmp 4] ?_
 intro H0 F0
 unfold KY at hF
 refine bq ?_
 obtain⟨o1,qI,hO2⟩:=bind_some hF
 refine au ?_
 refine fE (fun f' cs'=>∃(c11:Bool)(g:Fr),c11=o1/\f'=aM g [(4,(.bool c11))]/\aL cs' []) ?_ ?_
 · replace hF:=qI
   refine au ?_
   refine bnd hF fun r3 hx4 hF=>aX (Rp hx4) (fun _=>?_)
   refine au ?_
   rcases bL r3 with gm|gm
   · rw[gm]
     try rw[gm]at hF; dsimp only[aO,aN]at hF
     refine bq ?_
     refine bnd hF fun r7 jy hF=>aX (Rp jy) (fun _=>?_)
     refine aU ?_
     rcases bL (!r7)with lU|lU
     · rw[lU]
       try rw[lU]at hF; dsimp only[aO,aN]at hF
       exact bO hF
     rw[lU]
     try rw[lU]at hF; dsimp only[aO,aN]at hF
     exact bO hF
   rw[gm]
   try rw[gm]at hF; dsimp only[aO,aN]at hF
   exact bO hF
 rintro _ _ ⟨c11,g12,rfl,rfl,hE⟩
 replace hF:=hO2
 try dsimp only at hF
 refine bD hE ?_
 exact ze hF
def AU(bg:List Int):Nat->Int->Option (Bool)
 |0,_=>none
 |m2+1,c1=>if (decide ((0:Int)<c1))then (
     (ix bg c1).bind fun dx=>
     (ix bg (IntKind.i64.wrap (c1-1))).bind fun gF=>
     (KY dx gF).bind fun gH=>
     if gH then (
       some false)
     else (
       AU bg m2 (IntKind.i64.wrap (c1-1))))
   else (
     some true)
def KH(bg:List Int):Option (Bool):=
 AU bg (((IntKind.i64.wrap ((bg.length:Int)-1))-0).toNat+2) (IntKind.i64.wrap ((bg.length:Int)-1))
theorem ahw{bg:List Int}{ae:Sv}{R:Bool}(hF:KH bg=some R):
   Fw.Spec Tryz.prog 218 [ae.v] [ah ae bg] (fun _:Unit=>(.bool R)) (fun _=>[]):=by
 refine Se 21 Tryz.func218 [.tmp 2] ?_
 intro H0 F0
 unfold KH at hF
 refine iU ?_
 refine bn (bF (m:=(((IntKind.i64.wrap ((bg.length:Int)-1))-0).toNat+2)) (fun m2 f' cs'=>∃(g:Fr)(c1:Int),f'=aM g [(0,ae.v),(3,(zi c1))]/\aL cs' [ah ae bg]/\AU bg m2 c1=some R) ⟨_,_,aA,az,hF⟩ ?_)
 rintro m2 _ _ ⟨g3,c1,rfl,hE,hF⟩
 refine bD hE ?_
 rcases m2 with _|m2
 · rw[AU]at hF
   exact absurd hF (by simp)
 rw[AU]at hF
 refine aV ?_
 refine Ci hF (fun zW hF=>?_) (fun zW hF=>?_)
 · refine aW ?_
   refine dE [0,1,2,3,4,5,6,7,8,9] [0,0,3,7,0,0,32,112,240,511] [9] mixed (by decide+kernel) ?_
   refine bS ?_
   refine zI hF fun dx aC5 jr hF=>?_
   refine Di jr (fun k14 vZ=>?_)
   refine Dl bY ?_
   refine dI ?_
   refine zI hF fun gF uj jq hF=>?_
   refine Di jq (fun k20 pF=>?_)
   refine Dl bY ?_
   refine bnd hF fun gH mK hF=>dR (ahY mK) (fun _=>?_)
   refine du ?_
   refine Ci hF (fun Zb hF=>?_) (fun Zb hF=>?_)
   · exact ze hF
   refine aZ ?_
   exact⟨m2,bG _,_,_,aA,az,hF⟩
 exact ze hF
def RP(fu:Int):Option (Bool):=
 (Ji fu).bind fun r1=>
 some (!r1)
theorem aiu{fu:Int}{R:Bool}(hF:RP fu=some R):
   Fw.Spec Tryz.prog 219 [(zi fu)] [] (fun _:Unit=>(.bool R)) (fun _=>[]):=by
 refine Se 6 Tryz.func219 [.tmp 2] ?_
 intro H0 F0
 unfold RP at hF
 refine aV ?_
 refine bnd hF fun r1 hx2 hF=>aX (WF hx2) (fun _=>?_)
 exact ze hF
def Hg:List Int->Nat->Option (Int)
 |[],k4=>some (-1)
 |x6::ax,k4=>(RP x6).bind fun fI=>
   if fI then (
     some (k4:Int))
   else (
     Hg ax (k4+1))
def Rh(ag:List Int):Option (Int):=
 Hg ag 0
theorem aho{ag:List Int}{ae:Sv}{R:Int}(hF:Rh ag=some R):
   Fw.Spec Tryz.prog 242 [ae.v,(.func (.func 219) [].toArray [].toArray)] [ah ae ag] (fun _:Unit=>(zi R)) (fun _=>[]):=by
 refine Se 19 Tryz.func242 [.tmp 4] ?_
 intro H0 F0
 unfold Rh at hF
 refine dK ?_
 refine bn (bF (m:=ag.length) (fun m2 f' cs'=>∃(g:Fr)(k4:Nat)(ax:List Int),m2=ax.length/\f'=aM g [(0,ae.v),(1,(.func (.func 219) [].toArray [].toArray)),(7,(zi (ag.length:Int))),(8,(zi (k4:Int)))]/\List.drop k4 ag=ax/\aL cs' [ah ae ag]/\Hg ax k4=some R) ⟨_,0,_,rfl,aA,rfl,az,hF⟩ ?_)
 rintro m2 _ _ ⟨g3,k4,ax,rfl,rfl,hd7,hE,hF⟩
 refine Kb hE ag (fun iK=>?_)
 rcases ax with _|⟨x6,ax⟩
 · have dM:=dn hd7
   rw[Hg]at hF
   refine aU ?_
   refine bR ?_
   exact ze hF
 obtain⟨dM,bP,dL⟩:=bN hd7
 rw[Hg]at hF
 refine aU ?_
 refine bQ ?_
 refine iU ?_
 refine Ai bP (fun k13 j6=>?_)
 refine Al bY ?_
 refine bnd hF fun fI hx16 hF=>kE .nil (oo aqI.h (.tmp rfl rfl) bZ (aiu hx16)) (fun _=>?_)
 refine au ?_
 refine Ci hF (fun pq hF=>?_) (fun pq hF=>?_)
 · exact ze hF
 refine aV ?_
 rw[wk k4]
 exact⟨_,bG _,_,k4+1,ax,rfl,aA,dL,az,hF⟩
def KA(ag:List Int):Option (Bool):=
 (Rh ag).bind fun r1=>
 some (decide ((0:Int)<=r1))
theorem ahe{ag:List Int}{ae:Sv}{R:Bool}(hF:KA ag=some R):
   Fw.Spec Tryz.prog 176 [ae.v,(.func (.func 219) [].toArray [].toArray)] [ah ae ag] (fun _:Unit=>(.bool R)) (fun _=>[]):=by
 refine Se 9 Tryz.func176 [.tmp 4] ?_
 intro H0 F0
 unfold KA at hF
 refine aZ ?_
 refine bnd hF fun r1 hx2 hF=>aX (aho hx2) (fun _=>?_)
 exact ze hF
def Mt(ak:List Int):Option (Bool):=
 ((KH ak).bind fun r3=>
   bif r3 then ((KA ak).bind fun r7=>
     some (!r7))
   else (some false)).bind fun o1=>
 match o1 with
 |c10=>some c10
theorem ajC{ak:List Int}{ae:Sv}{R:Bool}(hF:Mt ak=some R):
   Fw.Spec Tryz.prog 137 [ae.v] [ah ae ak] (fun _:Unit=>(.bool R)) (fun _=>[]):=by
 refine Se 10 Tryz.func137 [.tmp 2] ?_
 intro H0 F0
 unfold Mt at hF
 refine bq ?_
 obtain⟨o1,qI,hO2⟩:=bind_some hF
 refine au ?_
 refine fE (fun f' cs'=>∃(c10:Bool)(g:Fr),c10=o1/\f'=aM g [(2,(.bool c10))]/\aL cs' []) ?_ ?_
 · replace hF:=qI
   refine au ?_
   refine bnd hF fun r3 hx4 hF=>aX (ahw hx4) (fun _=>?_)
   refine au ?_
   rcases bL r3 with gm|gm
   · rw[gm]
     try rw[gm]at hF; dsimp only[aO,aN]at hF
     refine bq ?_
     refine bnd hF fun r7 jy hF=>aX (ahe jy) (fun _=>?_)
     exact bO hF
   rw[gm]
   try rw[gm]at hF; dsimp only[aO,aN]at hF
   exact bO hF
 rintro _ _ ⟨c10,g11,rfl,rfl,hE⟩
 replace hF:=hO2
 try dsimp only at hF
 refine bD hE ?_
 exact ze hF
def Lu(aF:gV):Option (Bool):=
 ((BF aF.Schema aF.Methods).bind fun r4=>
   bif r4 then ((Mo aF.Schema aF.Rules).bind fun r8=>
     bif r8 then ((Mr aF.Schema aF.Source).bind fun ig=>
       bif ig then ((SI aF.Schema aF.Methods aF.Cache).bind fun r16=>
         bif r16 then ((Ji aF.Now).bind fun il=>
           bif il then (bif (decide (((aF.Log.length:Int):Int)<=1000))then ((Kq aF.Log aF).bind fun nY=>
               bif (!nY)then (bif (((aF.Times.length:Int):Int)==(aF.Log.length:Int))then ((Mt aF.Times).bind fun uD=>
                   bif uD then ((kL aF.Spent 0 1000000).bind fun wu=>
                     bif wu then (some (decide (((aF.Results.length:Int):Int)<=100)))
                     else (some false))
                   else (some false))
                 else (some false))
               else (some false))
             else (some false))
           else (some false))
         else (some false))
       else (some false))
     else (some false))
   else (some false)).bind fun o2=>
 match o2 with
 |QS=>some QS
theorem aiv{aF:gV}{ae ay dm gy iw iN iV jf:Sv}{R:Bool}(hF:Lu aF=some R):
   Fw.Spec Tryz.prog 58 [(.agg [ae.v,ay.v,dm.v,gy.v,(.int .i64 aF.Source.Version),iw.v,(.int .i64 aF.Cache.Age),(.int .i64 aF.Now),iN.v,iV.v,(.int .i64 aF.Spent),jf.v].toArray)] [bK (aJ 3 aK) ae.v aF.Schema,bK (aJ 89 ma) ay.v aF.Methods,bK (aJ 91 JH) dm.v aF.Rules,bK (aJ 147 m_) gy.v aF.Source.Facts,bK (aJ 248 Fz) iw.v aF.Cache.Entries,bK (aJ 145 Jw) iN.v aF.Log,bK (aJ 3 aK) iV.v aF.Times,bK (aJ 171 (aJ 22 (aJ 3 aK))) jf.v aF.Results] (fun _:Unit=>(.bool R)) (fun _=>[]):=by
 refine LZ (n:=74) Tryz.func58 rfl rfl (rs:=[.tmp 2]) rfl rfl rfl ?_
 intro H0 F0
 unfold Lu at hF
 refine fe (adT rfl (X0 (g:=false) (v:=(.agg [ae.v,ay.v,dm.v,gy.v,(.int .i64 aF.Source.Version),iw.v,(.int .i64 aF.Cache.Age),(.int .i64 aF.Now),iN.v,iV.v,(.int .i64 aF.Spent),jf.v].toArray)) afp.h.sz (.tmp rfl rfl) rfl) (fun k1=>?_))
 refine aI (lD (v:=(.bool false)) (.bool _)) ?_
 refine h_ ?_
 obtain⟨o2,gK,hO3⟩:=bind_some hF
 refine fe (fE (fun f' cs'=>∃(QS:Bool)(g:Fr),QS=o2/\f'=aM g [(2,(.bool QS))]/\aL cs' []) ?_ ?_)
 · replace hF:=gK
   refine aI (kK (off:=0) TF.h (.tmp rfl rfl)) ?_
   refine fq .h (fun hp=>gu (v:=ae.v) ji.h (.tmp rfl rfl) hp.2 rfl rfl) ?_
   refine aI (kK (off:=1) adY.h (.tmp rfl rfl)) ?_
   refine fq .h (fun hp=>gu (v:=ay.v) afs.h (.tmp rfl rfl) hp.2 rfl rfl) ?_
   obtain⟨r4,hx5,hF⟩:=bind_some hF
   refine kE (.rd (.t .h) rfl (.rd (.t (.t .h)) rfl .nil)) (dB at7.h (.cons (.tmp rfl rfl) (.cons (.tmp rfl rfl) .nil)) (@Rw aF.Schema ae aF.Methods ay _ hx5)) (fun _=>?_)
   refine Cm (.bool r4) rfl rfl ?_
   rcases Bool.eq_false_or_eq_true r4 with bI|bI
   · rw[bI]
     try rw[bI]at hF; dsimp only[cond_true,cond_false]at hF
     refine gI (t:=8) rfl rfl rfl ?_
     refine aI (kK (off:=0) TF.h (.tmp rfl rfl)) ?_
     refine gI (t:=8) rfl rfl rfl ?_
     refine fq .h (fun hp=>gu (v:=ae.v) ji.h (.tmp rfl rfl) hp.2 rfl rfl) ?_
     refine gI (t:=8) rfl rfl rfl ?_
     refine aI (kK (off:=2) aos.h (.tmp rfl rfl)) ?_
     refine gI (t:=8) rfl rfl rfl ?_
     refine fq .h (fun hp=>gu (v:=dm.v) atW.h (.tmp rfl rfl) hp.2 rfl rfl) ?_
     refine gI (t:=8) rfl rfl rfl ?_
     obtain⟨r8,bP,hF⟩:=bind_some hF
     refine kE (.rd (.t .h) rfl (.rd (.t (.t (.t .h))) rfl .nil)) (dB aub.h (.cons (.tmp rfl rfl) (.cons (.tmp rfl rfl) .nil)) (@ajz aF.Schema ae aF.Rules dm _ bP)) (fun _=>?_)
     refine aI (eD (b:=true) (u:=(.bool r8)) (v:=(.bool false)) (.tmp rfl rfl) (.tmp rfl rfl) (.bool _)) ?_
     refine Cm (.bool r8) rfl rfl ?_
     rcases Bool.eq_false_or_eq_true r8 with dJ|dJ
     · rw[dJ]
       try rw[dJ]at hF; dsimp only[cond_true,cond_false]at hF
       refine gI (t:=15) rfl rfl rfl ?_
       refine aI (kK (off:=0) TF.h (.tmp rfl rfl)) ?_
       refine gI (t:=15) rfl rfl rfl ?_
       refine fq .h (fun hp=>gu (v:=ae.v) ji.h (.tmp rfl rfl) hp.2 rfl rfl) ?_
       refine gI (t:=15) rfl rfl rfl ?_
       refine aI (kK (off:=3) aot.h (.tmp rfl rfl)) ?_
       refine gI (t:=15) rfl rfl rfl ?_
       refine fq .h (fun hp=>ko (s:=2) (l:=[gy.v,(.int .i64 aF.Source.Version)]) Ug.h Uf.h.sz (.tmp rfl rfl) hp.2 rfl (by decide) (Nat.le_of_ble_eq_true rfl) rfl) ?_
       refine gI (t:=15) rfl rfl rfl ?_
       obtain⟨ig,jr,hF⟩:=bind_some hF
       refine kE (.rd (.t .h) rfl (.rd (.t (.t (.t (.t .h)))) rfl .nil)) (dB aqA.h (.cons (.tmp rfl rfl) (.cons (.tmp rfl rfl) .nil)) (@ajA aF.Schema ae aF.Source gy _ jr)) (fun _=>?_)
       refine aI (eD (b:=true) (u:=(.bool ig)) (v:=(.bool false)) (.tmp rfl rfl) (.tmp rfl rfl) (.bool _)) ?_
       refine Cm (.bool ig) rfl rfl ?_
       rcases Bool.eq_false_or_eq_true ig with jb|jb
       · rw[jb]
         try rw[jb]at hF; dsimp only[cond_true,cond_false]at hF
         refine gI (t:=22) rfl rfl rfl ?_
         refine aI (kK (off:=0) TF.h (.tmp rfl rfl)) ?_
         refine gI (t:=22) rfl rfl rfl ?_
         refine fq .h (fun hp=>gu (v:=ae.v) ji.h (.tmp rfl rfl) hp.2 rfl rfl) ?_
         refine gI (t:=22) rfl rfl rfl ?_
         refine aI (kK (off:=1) adY.h (.tmp rfl rfl)) ?_
         refine gI (t:=22) rfl rfl rfl ?_
         refine fq .h (fun hp=>gu (v:=ay.v) afs.h (.tmp rfl rfl) hp.2 rfl rfl) ?_
         refine gI (t:=22) rfl rfl rfl ?_
         refine aI (kK (off:=5) aov.h (.tmp rfl rfl)) ?_
         refine gI (t:=22) rfl rfl rfl ?_
         refine fq .h (fun hp=>ko (s:=2) (l:=[iw.v,(.int .i64 aF.Cache.Age)]) Ui.h Uh.h.sz (.tmp rfl rfl) hp.2 rfl (by decide) (Nat.le_of_ble_eq_true rfl) rfl) ?_
         refine gI (t:=22) rfl rfl rfl ?_
         obtain⟨r16,iP,hF⟩:=bind_some hF
         refine kE (.rd (.t .h) rfl (.rd (.t (.t .h)) rfl (.rd (.t (.t (.t (.t (.t .h))))) rfl .nil))) (dB aqD.h (.cons (.tmp rfl rfl) (.cons (.tmp rfl rfl) (.cons (.tmp rfl rfl) .nil))) (@akp aF.Schema ae aF.Methods ay aF.Cache iw _ iP)) (fun _=>?_)
         refine aI (eD (b:=true) (u:=(.bool r16)) (v:=(.bool false)) (.tmp rfl rfl) (.tmp rfl rfl) (.bool _)) ?_
         refine Cm (.bool r16) rfl rfl ?_
         rcases Bool.eq_false_or_eq_true r16 with jZ|jZ
         · rw[jZ]
           try rw[jZ]at hF; dsimp only[cond_true,cond_false]at hF
           refine gI (t:=31) rfl rfl rfl ?_
           refine aI (kK (off:=7) aow.h (.tmp rfl rfl)) ?_
           refine gI (t:=31) rfl rfl rfl ?_
           refine fq .h (fun hp=>gu (v:=(.int .i64 aF.Now)) rP.h (.tmp rfl rfl) hp.2 rfl rfl) ?_
           refine gI (t:=31) rfl rfl rfl ?_
           obtain⟨il,kG,hF⟩:=bind_some hF
           refine kE .nil (dB aqE.h (.cons (.tmp rfl rfl) .nil) (@WF aF.Now _ kG)) (fun _=>?_)
           refine aI (eD (b:=true) (u:=(.bool il)) (v:=(.bool false)) (.tmp rfl rfl) (.tmp rfl rfl) (.bool _)) ?_
           refine Cm (.bool il) rfl rfl ?_
           rcases Bool.eq_false_or_eq_true il with j4|j4
           · rw[j4]
             try rw[j4]at hF; dsimp only[cond_true,cond_false]at hF
             refine gI (t:=36) rfl rfl rfl ?_
             refine aI (kK (off:=8) XT.h (.tmp rfl rfl)) ?_
             refine gI (t:=36) rfl rfl rfl ?_
             refine fq .h (fun hp=>gu (v:=iN.v) YC.h (.tmp rfl rfl) hp.2 rfl rfl) ?_
             refine gI (t:=36) rfl rfl rfl ?_
             refine fq (.t (.t (.t (.t (.t (.t .h)))))) (fun hp=>qw (l:=aF.Log.length) Uj.h (.tmp rfl rfl) (Jn hp)) ?_
             refine gI (t:=36) rfl rfl rfl ?_
             refine aI (TJ (i:=(aF.Log.length:Int)) (j:=1000) (.tmp rfl rfl) (.int _ _)) ?_
             refine aI (eD (b:=true) (u:=(.bool (decide (((aF.Log.length:Int):Int)<=1000)))) (v:=(.bool false)) (.tmp rfl rfl) (.tmp rfl rfl) (.bool _)) ?_
             refine Cm (.bool (decide (((aF.Log.length:Int):Int)<=1000))) rfl rfl ?_
             rcases Bool.eq_false_or_eq_true (decide (((aF.Log.length:Int):Int)<=1000))with PP|PP
             · rw[PP]
               try rw[PP]at hF; dsimp only[cond_true,cond_false]at hF
               refine gI (t:=42) rfl rfl rfl ?_
               refine aI (kK (off:=8) XT.h (.tmp rfl rfl)) ?_
               refine gI (t:=42) rfl rfl rfl ?_
               refine fq .h (fun hp=>gu (v:=iN.v) YC.h (.tmp rfl rfl) hp.2 rfl rfl) ?_
               refine gI (t:=42) rfl rfl rfl ?_
               refine aI (uK (fn:=.func 135) (vs:=[]) (us:=[(.pointer (some ⟨k1,0,some 0⟩))]) .nil (.cons (.tmp rfl rfl) .nil)) ?_
               refine gI (t:=42) rfl rfl rfl ?_
               obtain⟨nY,nk,hF⟩:=bind_some hF
               refine kE (.rd (.t (.t (.t (.t (.t (.t .h)))))) rfl (.rd .h rfl (.rd (.t .h) rfl (.rd (.t (.t .h)) rfl (.rd (.t (.t (.t .h))) rfl (.rd (.t (.t (.t (.t .h)))) rfl (.rd (.t (.t (.t (.t (.t .h))))) rfl (.rd (.t (.t (.t (.t (.t (.t .h)))))) rfl (.rd (.t (.t (.t (.t (.t (.t (.t .h))))))) rfl (.rd (.t (.t (.t (.t (.t (.t (.t (.t .h)))))))) rfl .nil)))))))))) (dB aqF.h (.cons (.tmp rfl rfl) (.cons (.tmp rfl rfl) .nil)) (@agO aF.Log iN k1 aF ae ay dm gy iw iN iV jf _ nk)) (fun _=>?_)
               refine gI (t:=42) rfl rfl rfl ?_
               refine aI (NM (b:=nY) (.tmp rfl rfl)) ?_
               refine aI (eD (b:=true) (u:=(.bool (!nY))) (v:=(.bool false)) (.tmp rfl rfl) (.tmp rfl rfl) (.bool _)) ?_
               refine Cm (.bool (!nY)) rfl rfl ?_
               rcases Bool.eq_false_or_eq_true (!nY)with vP|vP
               · rw[vP]
                 try rw[vP]at hF; dsimp only[cond_true,cond_false]at hF
                 refine gI (t:=49) rfl rfl rfl ?_
                 refine aI (kK (off:=9) adZ.h (.tmp rfl rfl)) ?_
                 refine gI (t:=49) rfl rfl rfl ?_
                 refine fq .h (fun hp=>gu (v:=iV.v) ji.h (.tmp rfl rfl) hp.2 rfl rfl) ?_
                 refine gI (t:=49) rfl rfl rfl ?_
                 refine fq (.t (.t (.t (.t (.t (.t (.t .h))))))) (fun hp=>qw (l:=aF.Times.length) dh.h (.tmp rfl rfl) (Jn hp)) ?_
                 refine gI (t:=49) rfl rfl rfl ?_
                 refine aI (kK (off:=8) XT.h (.tmp rfl rfl)) ?_
                 refine gI (t:=49) rfl rfl rfl ?_
                 refine fq .h (fun hp=>gu (v:=iN.v) YC.h (.tmp rfl rfl) hp.2 rfl rfl) ?_
                 refine gI (t:=49) rfl rfl rfl ?_
                 refine fq (.t (.t (.t (.t (.t (.t .h)))))) (fun hp=>qw (l:=aF.Log.length) Uj.h (.tmp rfl rfl) (Jn hp)) ?_
                 refine gI (t:=49) rfl rfl rfl ?_
                 refine aI (Ju (i:=(aF.Times.length:Int)) (j:=(aF.Log.length:Int)) (.tmp rfl rfl) (.tmp rfl rfl)) ?_
                 refine aI (eD (b:=true) (u:=(.bool (((aF.Times.length:Int):Int)==(aF.Log.length:Int)))) (v:=(.bool false)) (.tmp rfl rfl) (.tmp rfl rfl) (.bool _)) ?_
                 refine Cm (.bool (((aF.Times.length:Int):Int)==(aF.Log.length:Int))) rfl rfl ?_
                 rcases Bool.eq_false_or_eq_true (((aF.Times.length:Int):Int)==(aF.Log.length:Int))with vv|vv
                 · rw[vv]
                   try rw[vv]at hF; dsimp only[cond_true,cond_false]at hF
                   refine gI (t:=58) rfl rfl rfl ?_
                   refine aI (kK (off:=9) adZ.h (.tmp rfl rfl)) ?_
                   refine gI (t:=58) rfl rfl rfl ?_
                   refine fq .h (fun hp=>gu (v:=iV.v) ji.h (.tmp rfl rfl) hp.2 rfl rfl) ?_
                   refine gI (t:=58) rfl rfl rfl ?_
                   obtain⟨uD,hx31,hF⟩:=bind_some hF
                   refine kE (.rd (.t (.t (.t (.t (.t (.t (.t .h))))))) rfl .nil) (dB aqH.h (.cons (.tmp rfl rfl) .nil) (@ajC aF.Times iV _ hx31)) (fun _=>?_)
                   refine aI (eD (b:=true) (u:=(.bool uD)) (v:=(.bool false)) (.tmp rfl rfl) (.tmp rfl rfl) (.bool _)) ?_
                   refine Cm (.bool uD) rfl rfl ?_
                   rcases Bool.eq_false_or_eq_true uD with vL|vL
                   · rw[vL]
                     try rw[vL]at hF; dsimp only[cond_true,cond_false]at hF
                     refine gI (t:=63) rfl rfl rfl ?_
                     refine aI (kK (off:=10) aox.h (.tmp rfl rfl)) ?_
                     refine gI (t:=63) rfl rfl rfl ?_
                     refine fq .h (fun hp=>gu (v:=(.int .i64 aF.Spent)) rP.h (.tmp rfl rfl) hp.2 rfl rfl) ?_
                     refine gI (t:=63) rfl rfl rfl ?_
                     obtain⟨wu,qH,hF⟩:=bind_some hF
                     refine kE .nil (dB aua.h (.cons (.tmp rfl rfl) (.cons (.int _ _) (.cons (.int _ _) .nil))) (@l8 aF.Spent 0 1000000 _ qH)) (fun _=>?_)
                     refine aI (eD (b:=true) (u:=(.bool wu)) (v:=(.bool false)) (.tmp rfl rfl) (.tmp rfl rfl) (.bool _)) ?_
                     refine Cm (.bool wu) rfl rfl ?_
                     rcases Bool.eq_false_or_eq_true wu with PQ|PQ
                     · rw[PQ]
                       try rw[PQ]at hF; dsimp only[cond_true,cond_false]at hF
                       refine gI (t:=68) rfl rfl rfl ?_
                       refine aI (kK (off:=11) aoy.h (.tmp rfl rfl)) ?_
                       refine gI (t:=68) rfl rfl rfl ?_
                       refine fq .h (fun hp=>gu (v:=jf.v) atM.h (.tmp rfl rfl) hp.2 rfl rfl) ?_
                       refine gI (t:=68) rfl rfl rfl ?_
                       refine fq (.t (.t (.t (.t (.t (.t (.t (.t .h)))))))) (fun hp=>qw (l:=aF.Results.length) YA.h (.tmp rfl rfl) (Jn hp)) ?_
                       refine gI (t:=68) rfl rfl rfl ?_
                       refine aI (TJ (i:=(aF.Results.length:Int)) (j:=100) (.tmp rfl rfl) (.int _ _)) ?_
                       refine aI (eD (b:=true) (u:=(.bool (decide (((aF.Results.length:Int):Int)<=100)))) (v:=(.bool false)) (.tmp rfl rfl) (.tmp rfl rfl) (.bool _)) ?_
                       refine Ca (.bool (decide (((aF.Results.length:Int):Int)<=100))) rfl rfl ?_
                       refine h_ ?_
                       obtain rfl:=Option.some.inj hF
                       exact⟨_,_,rfl,(gW.cons rfl (gW.nil)).eq,(.sel .nil)⟩
                     rw[PQ]
                     try rw[PQ]at hF; dsimp only[cond_true,cond_false]at hF
                     iterate 4 refine fM (t:=68) rfl rfl rfl ?_
                     refine aI (eD (b:=false) (u:=undef) (v:=(.bool false)) (.tmp rfl rfl) (.tmp rfl rfl) (.bool _)) ?_
                     refine Ca (.bool false) rfl rfl ?_
                     refine h_ ?_
                     obtain rfl:=Option.some.inj hF
                     exact⟨_,_,rfl,(gW.cons rfl (gW.nil)).eq,(.sel .nil)⟩
                   rw[vL]
                   try rw[vL]at hF; dsimp only[cond_true,cond_false]at hF
                   iterate 3 refine fM (t:=63) rfl rfl rfl ?_
                   refine aI (eD (b:=false) (u:=undef) (v:=(.bool false)) (.tmp rfl rfl) (.tmp rfl rfl) (.bool _)) ?_
                   refine Cm (.bool false) rfl rfl ?_
                   iterate 4 refine fM (t:=68) rfl rfl rfl ?_
                   refine aI (eD (b:=false) (u:=undef) (v:=(.bool false)) (.tmp rfl rfl) (.tmp rfl rfl) (.bool _)) ?_
                   refine Ca (.bool false) rfl rfl ?_
                   refine h_ ?_
                   obtain rfl:=Option.some.inj hF
                   exact⟨_,_,rfl,(gW.cons rfl (gW.nil)).eq,(.sel .nil)⟩
                 rw[vv]
                 try rw[vv]at hF; dsimp only[cond_true,cond_false]at hF
                 iterate 3 refine fM (t:=58) rfl rfl rfl ?_
                 refine aI (eD (b:=false) (u:=undef) (v:=(.bool false)) (.tmp rfl rfl) (.tmp rfl rfl) (.bool _)) ?_
                 refine Cm (.bool false) rfl rfl ?_
                 iterate 3 refine fM (t:=63) rfl rfl rfl ?_
                 refine aI (eD (b:=false) (u:=undef) (v:=(.bool false)) (.tmp rfl rfl) (.tmp rfl rfl) (.bool _)) ?_
                 refine Cm (.bool false) rfl rfl ?_
                 iterate 4 refine fM (t:=68) rfl rfl rfl ?_
                 refine aI (eD (b:=false) (u:=undef) (v:=(.bool false)) (.tmp rfl rfl) (.tmp rfl rfl) (.bool _)) ?_
                 refine Ca (.bool false) rfl rfl ?_
                 refine h_ ?_
                 obtain rfl:=Option.some.inj hF
                 exact⟨_,_,rfl,(gW.cons rfl (gW.nil)).eq,(.sel .nil)⟩
               rw[vP]
               try rw[vP]at hF; dsimp only[cond_true,cond_false]at hF
               iterate 7 refine fM (t:=49) rfl rfl rfl ?_
               refine aI (eD (b:=false) (u:=undef) (v:=(.bool false)) (.tmp rfl rfl) (.tmp rfl rfl) (.bool _)) ?_
               refine Cm (.bool false) rfl rfl ?_
               iterate 3 refine fM (t:=58) rfl rfl rfl ?_
               refine aI (eD (b:=false) (u:=undef) (v:=(.bool false)) (.tmp rfl rfl) (.tmp rfl rfl) (.bool _)) ?_
               refine Cm (.bool false) rfl rfl ?_
               iterate 3 refine fM (t:=63) rfl rfl rfl ?_
               refine aI (eD (b:=false) (u:=undef) (v:=(.bool false)) (.tmp rfl rfl) (.tmp rfl rfl) (.bool _)) ?_
               refine Cm (.bool false) rfl rfl ?_
               iterate 4 refine fM (t:=68) rfl rfl rfl ?_
               refine aI (eD (b:=false) (u:=undef) (v:=(.bool false)) (.tmp rfl rfl) (.tmp rfl rfl) (.bool _)) ?_
               refine Ca (.bool false) rfl rfl ?_
               refine h_ ?_
               obtain rfl:=Option.some.inj hF
               exact⟨_,_,rfl,(gW.cons rfl (gW.nil)).eq,(.sel .nil)⟩
             rw[PP]
             try rw[PP]at hF; dsimp only[cond_true,cond_false]at hF
             iterate 5 refine fM (t:=42) rfl rfl rfl ?_
             refine aI (eD (b:=false) (u:=undef) (v:=(.bool false)) (.tmp rfl rfl) (.tmp rfl rfl) (.bool _)) ?_
             refine Cm (.bool false) rfl rfl ?_
             iterate 7 refine fM (t:=49) rfl rfl rfl ?_
             refine aI (eD (b:=false) (u:=undef) (v:=(.bool false)) (.tmp rfl rfl) (.tmp rfl rfl) (.bool _)) ?_
             refine Cm (.bool false) rfl rfl ?_
             iterate 3 refine fM (t:=58) rfl rfl rfl ?_
             refine aI (eD (b:=false) (u:=undef) (v:=(.bool false)) (.tmp rfl rfl) (.tmp rfl rfl) (.bool _)) ?_
             refine Cm (.bool false) rfl rfl ?_
             iterate 3 refine fM (t:=63) rfl rfl rfl ?_
             refine aI (eD (b:=false) (u:=undef) (v:=(.bool false)) (.tmp rfl rfl) (.tmp rfl rfl) (.bool _)) ?_
             refine Cm (.bool false) rfl rfl ?_
             iterate 4 refine fM (t:=68) rfl rfl rfl ?_
             refine aI (eD (b:=false) (u:=undef) (v:=(.bool false)) (.tmp rfl rfl) (.tmp rfl rfl) (.bool _)) ?_
             refine Ca (.bool false) rfl rfl ?_
             refine h_ ?_
             obtain rfl:=Option.some.inj hF
             exact⟨_,_,rfl,(gW.cons rfl (gW.nil)).eq,(.sel .nil)⟩
           rw[j4]
           try rw[j4]at hF; dsimp only[cond_true,cond_false]at hF
           iterate 4 refine fM (t:=36) rfl rfl rfl ?_
           refine aI (eD (b:=false) (u:=undef) (v:=(.bool false)) (.tmp rfl rfl) (.tmp rfl rfl) (.bool _)) ?_
           refine Cm (.bool false) rfl rfl ?_
           iterate 5 refine fM (t:=42) rfl rfl rfl ?_
           refine aI (eD (b:=false) (u:=undef) (v:=(.bool false)) (.tmp rfl rfl) (.tmp rfl rfl) (.bool _)) ?_
           refine Cm (.bool false) rfl rfl ?_
           iterate 7 refine fM (t:=49) rfl rfl rfl ?_
           refine aI (eD (b:=false) (u:=undef) (v:=(.bool false)) (.tmp rfl rfl) (.tmp rfl rfl) (.bool _)) ?_
           refine Cm (.bool false) rfl rfl ?_
           iterate 3 refine fM (t:=58) rfl rfl rfl ?_
           refine aI (eD (b:=false) (u:=undef) (v:=(.bool false)) (.tmp rfl rfl) (.tmp rfl rfl) (.bool _)) ?_
           refine Cm (.bool false) rfl rfl ?_
           iterate 3 refine fM (t:=63) rfl rfl rfl ?_
           refine aI (eD (b:=false) (u:=undef) (v:=(.bool false)) (.tmp rfl rfl) (.tmp rfl rfl) (.bool _)) ?_
           refine Cm (.bool false) rfl rfl ?_
           iterate 4 refine fM (t:=68) rfl rfl rfl ?_
           refine aI (eD (b:=false) (u:=undef) (v:=(.bool false)) (.tmp rfl rfl) (.tmp rfl rfl) (.bool _)) ?_
           refine Ca (.bool false) rfl rfl ?_
           refine h_ ?_
           obtain rfl:=Option.some.inj hF
           exact⟨_,_,rfl,(gW.cons rfl (gW.nil)).eq,(.sel .nil)⟩
         rw[jZ]
         try rw[jZ]at hF; dsimp only[cond_true,cond_false]at hF
         iterate 3 refine fM (t:=31) rfl rfl rfl ?_
         refine aI (eD (b:=false) (u:=undef) (v:=(.bool false)) (.tmp rfl rfl) (.tmp rfl rfl) (.bool _)) ?_
         refine Cm (.bool false) rfl rfl ?_
         iterate 4 refine fM (t:=36) rfl rfl rfl ?_
         refine aI (eD (b:=false) (u:=undef) (v:=(.bool false)) (.tmp rfl rfl) (.tmp rfl rfl) (.bool _)) ?_
         refine Cm (.bool false) rfl rfl ?_
         iterate 5 refine fM (t:=42) rfl rfl rfl ?_
         refine aI (eD (b:=false) (u:=undef) (v:=(.bool false)) (.tmp rfl rfl) (.tmp rfl rfl) (.bool _)) ?_
         refine Cm (.bool false) rfl rfl ?_
         iterate 7 refine fM (t:=49) rfl rfl rfl ?_
         refine aI (eD (b:=false) (u:=undef) (v:=(.bool false)) (.tmp rfl rfl) (.tmp rfl rfl) (.bool _)) ?_
         refine Cm (.bool false) rfl rfl ?_
         iterate 3 refine fM (t:=58) rfl rfl rfl ?_
         refine aI (eD (b:=false) (u:=undef) (v:=(.bool false)) (.tmp rfl rfl) (.tmp rfl rfl) (.bool _)) ?_
         refine Cm (.bool false) rfl rfl ?_
         iterate 3 refine fM (t:=63) rfl rfl rfl ?_
         refine aI (eD (b:=false) (u:=undef) (v:=(.bool false)) (.tmp rfl rfl) (.tmp rfl rfl) (.bool _)) ?_
         refine Cm (.bool false) rfl rfl ?_
         iterate 4 refine fM (t:=68) rfl rfl rfl ?_
         refine aI (eD (b:=false) (u:=undef) (v:=(.bool false)) (.tmp rfl rfl) (.tmp rfl rfl) (.bool _)) ?_
         refine Ca (.bool false) rfl rfl ?_
         refine h_ ?_
         obtain rfl:=Option.some.inj hF
         exact⟨_,_,rfl,(gW.cons rfl (gW.nil)).eq,(.sel .nil)⟩
       rw[jb]
       try rw[jb]at hF; dsimp only[cond_true,cond_false]at hF
       iterate 7 refine fM (t:=22) rfl rfl rfl ?_
       refine aI (eD (b:=false) (u:=undef) (v:=(.bool false)) (.tmp rfl rfl) (.tmp rfl rfl) (.bool _)) ?_
       refine Cm (.bool false) rfl rfl ?_
       iterate 3 refine fM (t:=31) rfl rfl rfl ?_
       refine aI (eD (b:=false) (u:=undef) (v:=(.bool false)) (.tmp rfl rfl) (.tmp rfl rfl) (.bool _)) ?_
       refine Cm (.bool false) rfl rfl ?_
       iterate 4 refine fM (t:=36) rfl rfl rfl ?_
       refine aI (eD (b:=false) (u:=undef) (v:=(.bool false)) (.tmp rfl rfl) (.tmp rfl rfl) (.bool _)) ?_
       refine Cm (.bool false) rfl rfl ?_
       iterate 5 refine fM (t:=42) rfl rfl rfl ?_
       refine aI (eD (b:=false) (u:=undef) (v:=(.bool false)) (.tmp rfl rfl) (.tmp rfl rfl) (.bool _)) ?_
       refine Cm (.bool false) rfl rfl ?_
       iterate 7 refine fM (t:=49) rfl rfl rfl ?_
       refine aI (eD (b:=false) (u:=undef) (v:=(.bool false)) (.tmp rfl rfl) (.tmp rfl rfl) (.bool _)) ?_
       refine Cm (.bool false) rfl rfl ?_
       iterate 3 refine fM (t:=58) rfl rfl rfl ?_
       refine aI (eD (b:=false) (u:=undef) (v:=(.bool false)) (.tmp rfl rfl) (.tmp rfl rfl) (.bool _)) ?_
       refine Cm (.bool false) rfl rfl ?_
       iterate 3 refine fM (t:=63) rfl rfl rfl ?_
       refine aI (eD (b:=false) (u:=undef) (v:=(.bool false)) (.tmp rfl rfl) (.tmp rfl rfl) (.bool _)) ?_
       refine Cm (.bool false) rfl rfl ?_
       iterate 4 refine fM (t:=68) rfl rfl rfl ?_
       refine aI (eD (b:=false) (u:=undef) (v:=(.bool false)) (.tmp rfl rfl) (.tmp rfl rfl) (.bool _)) ?_
       refine Ca (.bool false) rfl rfl ?_
       refine h_ ?_
       obtain rfl:=Option.some.inj hF
       exact⟨_,_,rfl,(gW.cons rfl (gW.nil)).eq,(.sel .nil)⟩
     rw[dJ]
     try rw[dJ]at hF; dsimp only[cond_true,cond_false]at hF
     iterate 5 refine fM (t:=15) rfl rfl rfl ?_
     refine aI (eD (b:=false) (u:=undef) (v:=(.bool false)) (.tmp rfl rfl) (.tmp rfl rfl) (.bool _)) ?_
     refine Cm (.bool false) rfl rfl ?_
     iterate 7 refine fM (t:=22) rfl rfl rfl ?_
     refine aI (eD (b:=false) (u:=undef) (v:=(.bool false)) (.tmp rfl rfl) (.tmp rfl rfl) (.bool _)) ?_
     refine Cm (.bool false) rfl rfl ?_
     iterate 3 refine fM (t:=31) rfl rfl rfl ?_
     refine aI (eD (b:=false) (u:=undef) (v:=(.bool false)) (.tmp rfl rfl) (.tmp rfl rfl) (.bool _)) ?_
     refine Cm (.bool false) rfl rfl ?_
     iterate 4 refine fM (t:=36) rfl rfl rfl ?_
     refine aI (eD (b:=false) (u:=undef) (v:=(.bool false)) (.tmp rfl rfl) (.tmp rfl rfl) (.bool _)) ?_
     refine Cm (.bool false) rfl rfl ?_
     iterate 5 refine fM (t:=42) rfl rfl rfl ?_
     refine aI (eD (b:=false) (u:=undef) (v:=(.bool false)) (.tmp rfl rfl) (.tmp rfl rfl) (.bool _)) ?_
     refine Cm (.bool false) rfl rfl ?_
     iterate 7 refine fM (t:=49) rfl rfl rfl ?_
     refine aI (eD (b:=false) (u:=undef) (v:=(.bool false)) (.tmp rfl rfl) (.tmp rfl rfl) (.bool _)) ?_
     refine Cm (.bool false) rfl rfl ?_
     iterate 3 refine fM (t:=58) rfl rfl rfl ?_
     refine aI (eD (b:=false) (u:=undef) (v:=(.bool false)) (.tmp rfl rfl) (.tmp rfl rfl) (.bool _)) ?_
     refine Cm (.bool false) rfl rfl ?_
     iterate 3 refine fM (t:=63) rfl rfl rfl ?_
     refine aI (eD (b:=false) (u:=undef) (v:=(.bool false)) (.tmp rfl rfl) (.tmp rfl rfl) (.bool _)) ?_
     refine Cm (.bool false) rfl rfl ?_
     iterate 4 refine fM (t:=68) rfl rfl rfl ?_
     refine aI (eD (b:=false) (u:=undef) (v:=(.bool false)) (.tmp rfl rfl) (.tmp rfl rfl) (.bool _)) ?_
     refine Ca (.bool false) rfl rfl ?_
     refine h_ ?_
     obtain rfl:=Option.some.inj hF
     exact⟨_,_,rfl,(gW.cons rfl (gW.nil)).eq,(.sel .nil)⟩
   rw[bI]
   try rw[bI]at hF; dsimp only[cond_true,cond_false]at hF
   iterate 5 refine fM (t:=8) rfl rfl rfl ?_
   refine aI (eD (b:=false) (u:=undef) (v:=(.bool false)) (.tmp rfl rfl) (.tmp rfl rfl) (.bool _)) ?_
   refine Cm (.bool false) rfl rfl ?_
   iterate 5 refine fM (t:=15) rfl rfl rfl ?_
   refine aI (eD (b:=false) (u:=undef) (v:=(.bool false)) (.tmp rfl rfl) (.tmp rfl rfl) (.bool _)) ?_
   refine Cm (.bool false) rfl rfl ?_
   iterate 7 refine fM (t:=22) rfl rfl rfl ?_
   refine aI (eD (b:=false) (u:=undef) (v:=(.bool false)) (.tmp rfl rfl) (.tmp rfl rfl) (.bool _)) ?_
   refine Cm (.bool false) rfl rfl ?_
   iterate 3 refine fM (t:=31) rfl rfl rfl ?_
   refine aI (eD (b:=false) (u:=undef) (v:=(.bool false)) (.tmp rfl rfl) (.tmp rfl rfl) (.bool _)) ?_
   refine Cm (.bool false) rfl rfl ?_
   iterate 4 refine fM (t:=36) rfl rfl rfl ?_
   refine aI (eD (b:=false) (u:=undef) (v:=(.bool false)) (.tmp rfl rfl) (.tmp rfl rfl) (.bool _)) ?_
   refine Cm (.bool false) rfl rfl ?_
   iterate 5 refine fM (t:=42) rfl rfl rfl ?_
   refine aI (eD (b:=false) (u:=undef) (v:=(.bool false)) (.tmp rfl rfl) (.tmp rfl rfl) (.bool _)) ?_
   refine Cm (.bool false) rfl rfl ?_
   iterate 7 refine fM (t:=49) rfl rfl rfl ?_
   refine aI (eD (b:=false) (u:=undef) (v:=(.bool false)) (.tmp rfl rfl) (.tmp rfl rfl) (.bool _)) ?_
   refine Cm (.bool false) rfl rfl ?_
   iterate 3 refine fM (t:=58) rfl rfl rfl ?_
   refine aI (eD (b:=false) (u:=undef) (v:=(.bool false)) (.tmp rfl rfl) (.tmp rfl rfl) (.bool _)) ?_
   refine Cm (.bool false) rfl rfl ?_
   iterate 3 refine fM (t:=63) rfl rfl rfl ?_
   refine aI (eD (b:=false) (u:=undef) (v:=(.bool false)) (.tmp rfl rfl) (.tmp rfl rfl) (.bool _)) ?_
   refine Cm (.bool false) rfl rfl ?_
   iterate 4 refine fM (t:=68) rfl rfl rfl ?_
   refine aI (eD (b:=false) (u:=undef) (v:=(.bool false)) (.tmp rfl rfl) (.tmp rfl rfl) (.bool _)) ?_
   refine Ca (.bool false) rfl rfl ?_
   refine h_ ?_
   obtain rfl:=Option.some.inj hF
   exact⟨_,_,rfl,(gW.cons rfl (gW.nil)).eq,(.sel .nil)⟩
 rintro _ _ ⟨QS,Vu,rfl,rfl,hE⟩
 replace hF:=hO3
 clear hO3
 try dsimp only at hF
 refine bD hE ?_
 refine Ff ?_
 obtain rfl:=Option.some.inj hF
 exact iX () (.tmp rfl rfl .nil) rfl (.sel .nil)
def yX(fu:Int):Option (Bool):=
 (kL fu 10 17).bind fun r1=>
 some r1
theorem IU{fu:Int}{R:Bool}(hF:yX fu=some R):
   Fw.Spec Tryz.prog 245 [(zi fu)] [] (fun _:Unit=>(.bool R)) (fun _=>[]):=by
 refine Se 5 Tryz.func245 [.tmp 2] ?_
 intro H0 F0
 unfold yX at hF
 refine aV ?_
 refine bnd hF fun r1 hx2 hF=>aX (l8 hx2) (fun _=>?_)
 exact ze hF
def Ns(fu:Int):Option (Bool):=
 ((EL fu).bind fun r3=>
   bif r3 then (some true)
   else ((yX fu).bind fun r7=>
     some r7)).bind fun o1=>
 match o1 with
 |c10=>some c10
theorem ak6{fu:Int}{R:Bool}(hF:Ns fu=some R):
   Fw.Spec Tryz.prog 244 [(zi fu)] [] (fun _:Unit=>(.bool R)) (fun _=>[]):=by
 refine Se 9 Tryz.func244 [.tmp 2] ?_
 intro H0 F0
 unfold Ns at hF
 refine bq ?_
 obtain⟨o1,qI,hO2⟩:=bind_some hF
 refine au ?_
 refine fE (fun f' cs'=>∃(c10:Bool)(g:Fr),c10=o1/\f'=aM g [(2,(.bool c10))]/\aL cs' []) ?_ ?_
 · replace hF:=qI
   refine au ?_
   refine bnd hF fun r3 hx4 hF=>aX (RO hx4) (fun _=>?_)
   refine au ?_
   rcases bL r3 with gm|gm
   · rw[gm]
     try rw[gm]at hF; dsimp only[aO,aN]at hF
     exact bO hF
   rw[gm]
   try rw[gm]at hF; dsimp only[aO,aN]at hF
   refine bq ?_
   refine bnd hF fun r7 jy hF=>aX (IU jy) (fun _=>?_)
   exact bO hF
 rintro _ _ ⟨c10,g11,rfl,rfl,hE⟩
 replace hF:=hO2
 try dsimp only at hF
 refine bD hE ?_
 exact ze hF
def Lv(fu:Int):Option (Bool):=
 (Ns fu).bind fun r1=>
 some (!r1)
theorem aiw{fu:Int}{R:Bool}(hF:Lv fu=some R):
   Fw.Spec Tryz.prog 243 [(zi fu)] [] (fun _:Unit=>(.bool R)) (fun _=>[]):=by
 refine Se 6 Tryz.func243 [.tmp 2] ?_
 intro H0 F0
 unfold Lv at hF
 refine aV ?_
 refine bnd hF fun r1 hx2 hF=>aX (ak6 hx2) (fun _=>?_)
 exact ze hF
def Hl:List Int->Nat->Option (Int)
 |[],k4=>some (-1)
 |x6::ax,k4=>(Lv x6).bind fun fI=>
   if fI then (
     some (k4:Int))
   else (
     Hl ax (k4+1))
def Ri(ag:List Int):Option (Int):=
 Hl ag 0
theorem ahp{ag:List Int}{ae:Sv}{R:Int}(hF:Ri ag=some R):
   Fw.Spec Tryz.prog 242 [ae.v,(.func (.func 243) [].toArray [].toArray)] [ah ae ag] (fun _:Unit=>(zi R)) (fun _=>[]):=by
 refine Se 19 Tryz.func242 [.tmp 4] ?_
 intro H0 F0
 unfold Ri at hF
 refine dK ?_
 refine bn (bF (m:=ag.length) (fun m2 f' cs'=>∃(g:Fr)(k4:Nat)(ax:List Int),m2=ax.length/\f'=aM g [(0,ae.v),(1,(.func (.func 243) [].toArray [].toArray)),(7,(zi (ag.length:Int))),(8,(zi (k4:Int)))]/\List.drop k4 ag=ax/\aL cs' [ah ae ag]/\Hl ax k4=some R) ⟨_,0,_,rfl,aA,rfl,az,hF⟩ ?_)
 rintro m2 _ _ ⟨g3,k4,ax,rfl,rfl,hd7,hE,hF⟩
 refine Kb hE ag (fun iK=>?_)
 rcases ax with _|⟨x6,ax⟩
 · have dM:=dn hd7
   rw[Hl]at hF
   refine aU ?_
   refine bR ?_
   exact ze hF
 obtain⟨dM,bP,dL⟩:=bN hd7
 rw[Hl]at hF
 refine aU ?_
 refine bQ ?_
 refine iU ?_
 refine Ai bP (fun k13 j6=>?_)
 refine Al bY ?_
 refine bnd hF fun fI hx16 hF=>kE .nil (oo aqJ.h (.tmp rfl rfl) bZ (aiw hx16)) (fun _=>?_)
 refine au ?_
 refine Ci hF (fun pq hF=>?_) (fun pq hF=>?_)
 · exact ze hF
 refine aV ?_
 rw[wk k4]
 exact⟨_,bG _,_,k4+1,ax,rfl,aA,dL,az,hF⟩
def Q_(ag:List Int):Option (Bool):=
 (Ri ag).bind fun r1=>
 some (decide ((0:Int)<=r1))
theorem ahf{ag:List Int}{ae:Sv}{R:Bool}(hF:Q_ ag=some R):
   Fw.Spec Tryz.prog 176 [ae.v,(.func (.func 243) [].toArray [].toArray)] [ah ae ag] (fun _:Unit=>(.bool R)) (fun _=>[]):=by
 refine Se 9 Tryz.func176 [.tmp 4] ?_
 intro H0 F0
 unfold Q_ at hF
 refine aZ ?_
 refine bnd hF fun r1 hx2 hF=>aX (ahp hx2) (fun _=>?_)
 exact ze hF
def IV(ak:List Int):Option (Bool):=
 (Q_ ak).bind fun r1=>
 some (!r1)
theorem abg{ak:List Int}{ae:Sv}{R:Bool}(hF:IV ak=some R):
   Fw.Spec Tryz.prog 180 [ae.v] [ah ae ak] (fun _:Unit=>(.bool R)) (fun _=>[]):=by
 refine Se 6 Tryz.func180 [.tmp 2] ?_
 intro H0 F0
 unfold IV at hF
 refine aV ?_
 refine bnd hF fun r1 hx2 hF=>aX (ahf hx2) (fun _=>?_)
 exact ze hF
def Nt(ag:List Int)(aa:Atom):Option (Bool):=
 ((yL ag aa.Rel).bind fun r4=>
   bif r4 then ((ix ag aa.Rel).bind fun x8=>
     bif (((aa.Terms.length:Int):Int)==x8)then ((IV aa.Terms).bind fun fI=>
       some fI)
     else (some false))
   else (some false)).bind fun o2=>
 match o2 with
 |c18=>some c18
theorem ak7{ag:List Int}{ae:Sv}{aa:Atom}{aR:Sv}{R:Bool}(hF:Nt ag aa=some R):
   Fw.Spec Tryz.prog 94 [ae.v,(zg [(zi aa.Rel),aR.v])] [ah ae ag,ah aR aa.Terms] (fun _:Unit=>(.bool R)) (fun _=>[]):=by
 refine Se 25 Tryz.func94 [.tmp 4] ?_
 intro H0 F0
 unfold Nt at hF
 refine au ?_
 refine bB (fun k1=>?_)
 refine aW ?_
 obtain⟨o2,gK,hO3⟩:=bind_some hF
 refine dE [0,1,2,3,4,5,6,7,8,9,10,11,12,13,14,15,16,17,18,19,20] [0,0,2,7,15,31,63,127,31,31,543,1823,3871,8191,16383,32767,65535,131071,262143,524287,1048575] [3,18] mixed (by decide+kernel) ?_
 refine mD (fun f' cs'=>∃(c18:Bool)(g:Fr),c18=o2/\f'=aM g [(4,(.bool c18))]/\aL cs' []) ?_ ?_
 · replace hF:=gK
   refine dI ?_
   refine bnd hF fun r4 hx5 hF=>dR (LM hx5) (fun _=>?_)
   refine du ?_
   rcases bL r4 with bI|bI
   · rw[bI]
     try rw[bI]at hF; dsimp only[aO,aN]at hF
     refine Cv ?_
     refine zI hF fun x8 Zy mf hF=>?_
     refine Di mf (fun k12 j13=>?_)
     refine Dl bY ?_
     refine dI ?_
     rcases bL (((aa.Terms.length:Int):Int)==x8)with pg|pg
     · rw[pg]
       try rw[pg]at hF; dsimp only[aO,aN]at hF
       refine bS ?_
       refine bnd hF fun fI hx16 hF=>dR (abg hx16) (fun _=>?_)
       exact eO hF
     rw[pg]
     try rw[pg]at hF; dsimp only[aO,aN]at hF
     exact eO hF
   rw[bI]
   try rw[bI]at hF; dsimp only[aO,aN]at hF
   exact eO hF
 rintro _ _ ⟨c18,g19,rfl,rfl,hE⟩
 replace hF:=hO3
 try dsimp only at hF
 refine bD hE ?_
 exact ze hF
def LQ(aa:Atom)(aH:List Int):Option (Bool):=
 (Nt aH aa).bind fun r2=>
 some (!r2)
theorem aiY{aa:Atom}{ay:Sv}{bM:Nat}{aH:List Int}{fP:Sv}{R:Bool}(hF:LQ aa aH=some R):
   Fw.Spec Tryz.prog 93 [(zg [(zi aa.Rel),ay.v]),(pz bM)] [ah ay aa.Terms,bi bM 22 fP.v,ah fP aH] (fun _:Unit=>(.bool R)) (fun _=>[]):=by
 refine Se 8 Tryz.func93 [.tmp 3] ?_
 intro H0 F0
 unfold LQ at hF
 refine au ?_
 refine bB (fun k1=>?_)
 refine aV ?_
 refine bnd hF fun r2 hx3 hF=>aX (ak7 hx3) (fun _=>?_)
 exact ze hF
def G8(aH:List Int):List Atom->Nat->Option (Int)
 |[],k4=>some (-1)
 |x6::ax,k4=>(LQ x6 aH).bind fun r16=>
   if r16 then (
     some (k4:Int))
   else (
     G8 aH ax (k4+1))
def Q6(ag:List Atom)(aH:List Int):Option (Int):=
 G8 aH ag 0
theorem ag2{ag:List Atom}{ae:Sv}{bM:Nat}{aH:List Int}{fP:Sv}{R:Int}(hF:Q6 ag aH=some R):
   Fw.Spec Tryz.prog 178 [ae.v,(.func (.func 93) [].toArray [(pz bM)].toArray)] [bH ae ag,bi bM 22 fP.v,ah fP aH] (fun _:Unit=>(zi R)) (fun _=>[]):=by
 refine Se 19 Tryz.func178 [.tmp 4] ?_
 intro H0 F0
 unfold Q6 at hF
 refine dK ?_
 refine bn (bF (m:=ag.length) (fun m2 f' cs'=>∃(g:Fr)(k4:Nat)(ax:List Atom),m2=ax.length/\f'=aM g [(0,ae.v),(1,(.func (.func 93) [].toArray [(pz bM)].toArray)),(7,(zi (ag.length:Int))),(8,(zi (k4:Int)))]/\List.drop k4 ag=ax/\aL cs' [bH ae ag,bi bM 22 fP.v,ah fP aH]/\G8 aH ax k4=some R) ⟨_,0,_,rfl,aA,rfl,az,hF⟩ ?_)
 rintro m2 _ _ ⟨g3,k4,ax,rfl,rfl,hd7,hE,hF⟩
 refine Kb hE ag (fun iK=>?_)
 rcases ax with _|⟨x6,ax⟩
 · have dM:=dn hd7
   rw[G8]at hF
   refine aU ?_
   refine bR ?_
   exact ze hF
 obtain⟨dM,bP,dL⟩:=bN hd7
 rw[G8]at hF
 refine aU ?_
 refine bQ ?_
 refine iU ?_
 refine Ai bP (fun k13 j6=>?_)
 refine iM (oV x6) pO (fun jd=>?_)
 refine bnd hF fun r16 iP hF=>kE (.rd .h rfl (.rd .q3 rfl (.rd .q4 rfl .nil))) (oo auc.h (.tmp rfl rfl) bZ (aiY iP)) (fun _=>?_)
 refine au ?_
 refine Ci hF (fun nT hF=>?_) (fun nT hF=>?_)
 · exact ze hF
 refine aV ?_
 rw[wk k4]
 exact⟨_,bG _,_,k4+1,ax,rfl,aA,dL,az,hF⟩
def Kt(ag:List Atom)(aH:List Int):Option (Bool):=
 (Q6 ag aH).bind fun r1=>
 some (decide ((0:Int)<=r1))
theorem agV{ag:List Atom}{ae:Sv}{bM:Nat}{aH:List Int}{fP:Sv}{R:Bool}(hF:Kt ag aH=some R):
   Fw.Spec Tryz.prog 92 [ae.v,(.func (.func 93) [].toArray [(pz bM)].toArray)] [bH ae ag,bi bM 22 fP.v,ah fP aH] (fun _:Unit=>(.bool R)) (fun _=>[]):=by
 refine Se 9 Tryz.func92 [.tmp 4] ?_
 intro H0 F0
 unfold Kt at hF
 refine aZ ?_
 refine bnd hF fun r1 hx2 hF=>aX (ag2 hx2) (fun _=>?_)
 exact ze hF
def KL(bg:List Int):Option (List Int):=
 some (bg.mergeSort fun x y=>decide (x<=y))
theorem aaj{bg:List Int}{ae:Sv}{qa:List Nat}{R:List Int}(hF:KL bg=some R):
   Fw.Spec Tryz.prog 268 [ae.v] [bC qa ae bg] (fun _:List Nat=>(.tuple [].toArray)) (fun p=>[bC p ae R]):=by
 cases hF
 exact al7 dw.h (Go.Proofs.Any.slices_Sort_int_none ady) (Go.Proofs.Any.slices_Sort_int ady)
def KJ(bg:List Int):Option (List Int):=
 some (Lib.compact bg)
theorem aaf{bg:List Int}{ae:Sv}{qa:List Nat}{R:List Int}(hF:KJ bg=some R):
   Fw.Spec Tryz.prog 269 [ae.v] [bC qa ae bg] (fun p:Sv×List Nat=>p.1.v) (fun p=>[bC p.2 p.1 R]):=by
 cases hF
 exact aj6 dw.h alz rfl (Go.Proofs.Any.slices_Compact_int_empty ac1) (Go.Proofs.Any.slices_Compact_int ac1)
def Ba:List Int->Nat->(List Int)->Option ((List Int))
 |[],iB,l6=>some l6
 |lJ::jX,iB,l6=>((yX lJ).bind fun gM=>
     if gM then (
       (app l6 ([lJ]:List Int)).bind fun z52=>
       some z52)
     else (
       some l6)).bind fun wH=>
   match wH with
   |pG=>Ba jX (iB+1) pG
def Bb:List Atom->Nat->(List Int)->Option ((List Int))
 |[],k8,c2=>(KL c2).bind fun dS=>
   (KJ dS).bind fun il=>
   some il
 |dx::fC,k8,c2=>(Ba dx.Terms 0 c2).bind fun sZ=>
   match sZ with
   |wI=>Bb fC (k8+1) wI
def Ru(jG:List Atom):Option ((List Int)):=
 Bb jG 0 ([]:List Int)
theorem ahM{jG:List Atom}{ae:Sv}{R:(List Int)}(hF:Ru jG=some R):
   Fw.Spec Tryz.prog 198 [ae.v,(.func (.func 245) [].toArray [].toArray)] [bH ae jG] (fun p:Sv×List Nat=>p.1.v) (fun p=>[bC p.2 p.1 R]):=by
 refine Se 37 Tryz.func198 [.tmp 4] ?_
 intro H0 F0
 unfold Ru at hF
 refine aU ?_
 refine dQ rfl (cz (g:=true) dh.h dw.h .nil (vs:=[]) rfl rfl rfl (by simp)) (fun k1=>?_)
 refine dP (.cons .h .nil) (cK (Ro:=(aG aK)) (E:=3) (F:=[]) (xs:=([]:List Int)) cB rfl rfl) ?_
 refine di ?_
 refine bn (bF (m:=jG.length) (fun m6 f' cs'=>∃(g:Fr)(k8:Nat)(fC:List Atom)(c2:List Int)(v3:Sv)(F4:List Nat),m6=fC.length/\f'=aM g [(1,(.func (.func 245) [].toArray [].toArray)),(5,v3.v),(11,ae.v),(12,(zi (jG.length:Int))),(13,(zi (k8:Int)))]/\List.drop k8 jG=fC/\aL cs' [bC F4 v3 c2,bH ae jG]/\Bb fC k8 c2=some R) ⟨_,0,_,_,⟨(some ⟨k1,0,none⟩),0,1⟩,(k1::[]),rfl,aA,rfl,az,hF⟩ ?_)
 rintro m6 _ _ ⟨g7,k8,fC,c2,v3,F4,rfl,rfl,gD,hE,hF⟩
 refine Kb hE jG (fun Od=>?_)
 rcases fC with _|⟨dx,fC⟩
 · have vJ:=dn gD
   rw[Bb]at hF
   refine aU ?_
   refine bR ?_
   refine aZ ?_
   refine bnd hF fun dS fV hF=>eZ (aaj fV) (fun p19=>?_)
   refine bq ?_
   refine bnd hF fun il kG hF=>eZ (aaf kG) (fun mq=>?_)
   refine bq ?_
   cases hF
   exact Er (mq.1,mq.2)
 obtain⟨vJ,jr,vK⟩:=bN gD
 rw[Bb]at hF
 refine aU ?_
 refine bQ ?_
 refine au ?_
 obtain⟨sZ,Oi,PR⟩:=bind_some hF
 refine gX (fun f' cs'=>∃(wI:List Int)(v62:Sv)(GL:List Nat)(g:Fr),wI=sZ/\f'=aM g [(1,(.func (.func 245) [].toArray [].toArray)),(5,v62.v),(11,ae.v),(12,(zi (jG.length:Int))),(13,(zi (k8:Int)))]/\aL cs' [bC GL v62 wI,bH ae jG]) ?_ ?_
 · replace hF:=Oi
   refine bn (fe (zH (a:=dx) uh.h ou.h.sz (.tmp rfl rfl) (.tmp rfl rfl) (.t .h) (Int.natCast_nonneg k8) jr (fun k25 j26=>?_)))
   refine iM (oV dx) pO (fun p27=>?_)
   refine dH (fun k28=>?_)
   refine As (zg [(zi dx.Rel),p27.v]) ?_
   refine bf ?_
   refine bn (bF (m:=dx.Terms.length) (fun Dr f' cs'=>∃(g:Fr)(iB:Nat)(jX l6:List Int)(v30:Sv)(AO:List Nat),Dr=jX.length/\f'=aM g [(1,(.func (.func 245) [].toArray [].toArray)),(5,v30.v),(11,ae.v),(12,(zi (jG.length:Int))),(13,(zi (k8:Int))),(18,p27.v),(19,(zi (dx.Terms.length:Int))),(20,(zi (iB:Int)))]/\List.drop iB dx.Terms=jX/\aL cs' [bC AO v30 l6,bH ae jG,ah p27 dx.Terms]/\Ba jX iB l6=some sZ) ⟨_,0,_,_,v3,F4,rfl,aA,rfl,az,hF⟩ ?_)
   rintro Dr _ _ ⟨g34,iB,jX,l6,v30,AO,rfl,rfl,hd38,hE,hF⟩
   refine Kb hE dx.Terms (fun aeX=>?_)
   rcases jX with _|⟨lJ,jX⟩
   · have PM:=dn hd38
     rw[Ba]at hF
     refine aU ?_
     refine bR ?_
     refine aU ?_
     cases hF
     exact⟨_,v30,AO,_,rfl,aA,az⟩
   obtain⟨PM,sG,vF⟩:=bN hd38
   rw[Ba]at hF
   refine aU ?_
   refine bQ ?_
   refine au ?_
   obtain⟨wH,Oh,JY⟩:=bind_some hF
   refine gX (fun f' cs'=>∃(pG:List Int)(v57:Sv)(lY:List Nat)(g:Fr),pG=wH/\f'=aM g [(1,(.func (.func 245) [].toArray [].toArray)),(5,v57.v),(11,ae.v),(12,(zi (jG.length:Int))),(13,(zi (k8:Int))),(18,p27.v),(19,(zi (dx.Terms.length:Int))),(20,(zi (iB:Int)))]/\aL cs' [bC lY v57 pG,bH ae jG,ah p27 dx.Terms]) ?_ ?_
   · replace hF:=Oh
     refine bn (fe (zH (a:=lJ) dh.h dw.h.sz (.tmp rfl rfl) (.tmp rfl rfl) .q2 (Int.natCast_nonneg iB) sG (fun Vv j47=>?_)))
     refine Al bY ?_
     refine aV ?_
     refine bnd hF fun gM iO hF=>kE .nil (oo aqK.h (.tmp rfl rfl) bZ (IU iO)) (fun _=>?_)
     refine au ?_
     refine Ci hF (fun Pj hF=>?_) (fun Pj hF=>?_)
     · refine bq ?_
       refine dQ rfl (cz (g:=true) dh.h dw.h bZ (vs:=[(zi lJ)]) rfl rfl rfl (by intro v hv; simp at hv; rcases hv with rfl<;>rfl)) (fun wo=>?_)
       refine dP (.cons .h .nil) (cK (Ro:=(aG aK)) (E:=3) (F:=([]++[])) (xs:=([lJ]:List Int)) (gq (jF (fun _=>rfl)) cB dz) rfl rfl) ?_
       refine bnd hF fun z52 vG hF=>dZ (.cons .q2 (.cons .h .nil)) (fT (Ro:=(aG aK)) dh.h kF dw.h rfl rfl rfl (.tmp rfl rfl) (.tmp rfl rfl) vG iF) (fun p54=>?_)
       refine aW ?_
       cases hF
       exact⟨_,p54.1,p54.2,_,rfl,aA,az⟩
     refine au ?_
     cases hF
     exact⟨_,v30,AO,_,rfl,aA,az⟩
   rintro _ _ ⟨pG,v57,lY,g60,rfl,rfl,hE⟩
   replace hF:=JY
   try dsimp only at hF
   refine bD hE ?_
   refine aU ?_
   rw[wk iB]
   exact⟨_,bG _,_,iB+1,jX,_,v57,lY,rfl,aA,vF,az,hF⟩
 rintro _ _ ⟨wI,v62,GL,g65,rfl,rfl,hE⟩
 replace hF:=PR
 try dsimp only at hF
 refine bD hE ?_
 refine aU ?_
 rw[wk k8]
 exact⟨_,bG _,_,k8+1,fC,_,v62,GL,rfl,aA,vK,az,hF⟩
def Jj(ai:Query):Option ((List Int)):=
 (Ru ai.Atoms).bind fun r2=>
 some r2
theorem abY{ai:Query}{ae ay:Sv}{R:(List Int)}(hF:Jj ai=some R):
   Fw.Spec Tryz.prog 181 [(zg [ae.v,ay.v])] [ah ae ai.Head,bH ay ai.Atoms] (fun p:Sv×List Nat=>p.1.v) (fun p=>[bC p.2 p.1 R]):=by
 refine Se 6 Tryz.func181 [.tmp 2] ?_
 intro H0 F0
 unfold Jj at hF
 refine au ?_
 refine bB (fun k1=>?_)
 refine aV ?_
 refine bnd hF fun r2 hx3 hF=>eZ (ahM hx3) (fun p4=>?_)
 refine bq ?_
 cases hF
 exact Er (p4.1,p4.2)
def Hq(fQ:Int):List Int->Nat->Option (Int)
 |[],k4=>some (-1)
 |x6::ax,k4=>if ((fQ:Int)==x6)then (
     some (k4:Int))
   else (
     Hq fQ ax (k4+1))
def Hu(ag:List Int)(fQ:Int):Option (Int):=
 Hq fQ ag 0
theorem aah{ag:List Int}{ae:Sv}{fQ R:Int}(hF:Hu ag fQ=some R):
   Fw.Spec Tryz.prog 246 [ae.v,(zi fQ)] [ah ae ag] (fun _:Unit=>(zi R)) (fun _=>[]):=by
 refine Se 19 Tryz.func246 [.tmp 4] ?_
 intro H0 F0
 unfold Hu at hF
 refine dK ?_
 refine bn (bF (m:=ag.length) (fun m2 f' cs'=>∃(g:Fr)(k4:Nat)(ax:List Int),m2=ax.length/\f'=aM g [(0,ae.v),(1,(zi fQ)),(7,(zi (ag.length:Int))),(8,(zi (k4:Int)))]/\List.drop k4 ag=ax/\aL cs' [ah ae ag]/\Hq fQ ax k4=some R) ⟨_,0,_,rfl,aA,rfl,az,hF⟩ ?_)
 rintro m2 _ _ ⟨g3,k4,ax,rfl,rfl,hd7,hE,hF⟩
 refine Kb hE ag (fun iK=>?_)
 rcases ax with _|⟨x6,ax⟩
 · have dM:=dn hd7
   rw[Hq]at hF
   refine aU ?_
   refine bR ?_
   exact ze hF
 obtain⟨dM,bP,dL⟩:=bN hd7
 rw[Hq]at hF
 refine aU ?_
 refine bQ ?_
 refine iU ?_
 refine Ai bP (fun k13 j6=>?_)
 refine Al bY ?_
 refine aW ?_
 refine Ci hF (fun z_ hF=>?_) (fun z_ hF=>?_)
 · exact ze hF
 refine aV ?_
 rw[wk k4]
 exact⟨_,bG _,_,k4+1,ax,rfl,aA,dL,az,hF⟩
def Dz(ag:List Int)(fQ:Int):Option (Bool):=
 (Hu ag fQ).bind fun r1=>
 some (decide ((0:Int)<=r1))
theorem VL{ag:List Int}{ae:Sv}{fQ:Int}{R:Bool}(hF:Dz ag fQ=some R):
   Fw.Spec Tryz.prog 183 [ae.v,(zi fQ)] [ah ae ag] (fun _:Unit=>(.bool R)) (fun _=>[]):=by
 refine Se 9 Tryz.func183 [.tmp 4] ?_
 intro H0 F0
 unfold Dz at hF
 refine aZ ?_
 refine bnd hF fun r1 hx2 hF=>aX (aah hx2) (fun _=>?_)
 exact ze hF
def Ez(fu:Int)(aH:List Int):Option (Bool):=
 (Dz aH fu).bind fun r1=>
 some (!r1)
theorem aiZ{fu:Int}{bM:Nat}{aH:List Int}{fP:Sv}{R:Bool}(hF:Ez fu aH=some R):
   Fw.Spec Tryz.prog 182 [(zi fu),(pz bM)] [bi bM 22 fP.v,ah fP aH] (fun _:Unit=>(.bool R)) (fun _=>[]):=by
 refine Se 8 Tryz.func182 [.tmp 3] ?_
 intro H0 F0
 unfold Ez at hF
 refine aZ ?_
 refine bnd hF fun r1 hx2 hF=>aX (VL hx2) (fun _=>?_)
 exact ze hF
def Dv(aH:List Int):List Int->Nat->Option (Int)
 |[],k4=>some (-1)
 |x6::ax,k4=>(Ez x6 aH).bind fun fI=>
   if fI then (
     some (k4:Int))
   else (
     Dv aH ax (k4+1))
def KD(ag:List Int)(aH:List Int):Option (Int):=
 Dv aH ag 0
theorem ahq{ag:List Int}{ae:Sv}{bM:Nat}{aH:List Int}{fP:Sv}{R:Int}(hF:KD ag aH=some R):
   Fw.Spec Tryz.prog 242 [ae.v,(.func (.func 182) [].toArray [(pz bM)].toArray)] [ah ae ag,bi bM 22 fP.v,ah fP aH] (fun _:Unit=>(zi R)) (fun _=>[]):=by
 refine Se 19 Tryz.func242 [.tmp 4] ?_
 intro H0 F0
 unfold KD at hF
 refine dK ?_
 refine bn (bF (m:=ag.length) (fun m2 f' cs'=>∃(g:Fr)(k4:Nat)(ax:List Int),m2=ax.length/\f'=aM g [(0,ae.v),(1,(.func (.func 182) [].toArray [(pz bM)].toArray)),(7,(zi (ag.length:Int))),(8,(zi (k4:Int)))]/\List.drop k4 ag=ax/\aL cs' [ah ae ag,bi bM 22 fP.v,ah fP aH]/\Dv aH ax k4=some R) ⟨_,0,_,rfl,aA,rfl,az,hF⟩ ?_)
 rintro m2 _ _ ⟨g3,k4,ax,rfl,rfl,hd7,hE,hF⟩
 refine Kb hE ag (fun iK=>?_)
 rcases ax with _|⟨x6,ax⟩
 · have dM:=dn hd7
   rw[Dv]at hF
   refine aU ?_
   refine bR ?_
   exact ze hF
 obtain⟨dM,bP,dL⟩:=bN hd7
 rw[Dv]at hF
 refine aU ?_
 refine bQ ?_
 refine iU ?_
 refine Ai bP (fun k13 j6=>?_)
 refine Al bY ?_
 refine bnd hF fun fI hx16 hF=>kE (.rd .q2 rfl (.rd .q3 rfl .nil)) (oo aqL.h (.tmp rfl rfl) bZ (aiZ hx16)) (fun _=>?_)
 refine au ?_
 refine Ci hF (fun pq hF=>?_) (fun pq hF=>?_)
 · exact ze hF
 refine aV ?_
 rw[wk k4]
 exact⟨_,bG _,_,k4+1,ax,rfl,aA,dL,az,hF⟩
def Dw(ag:List Int)(aH:List Int):Option (Bool):=
 (KD ag aH).bind fun r1=>
 some (decide ((0:Int)<=r1))
theorem ahj{ag:List Int}{ae:Sv}{bM:Nat}{aH:List Int}{fP:Sv}{R:Bool}(hF:Dw ag aH=some R):
   Fw.Spec Tryz.prog 176 [ae.v,(.func (.func 182) [].toArray [(pz bM)].toArray)] [ah ae ag,bi bM 22 fP.v,ah fP aH] (fun _:Unit=>(.bool R)) (fun _=>[]):=by
 refine Se 9 Tryz.func176 [.tmp 4] ?_
 intro H0 F0
 unfold Dw at hF
 refine aZ ?_
 refine bnd hF fun r1 hx2 hF=>aX (ahq hx2) (fun _=>?_)
 exact ze hF
def EM(ai:Query):Option (Bool):=
 (Jj ai).bind fun r2=>
 (bif (decide (((ai.Head.length:Int):Int)<=3))then ((Dw ai.Head r2).bind fun qf=>
     some (!qf))
   else (some false)).bind fun o8=>
 match o8 with
 |c14=>some c14
theorem abx{ai:Query}{ae ay:Sv}{R:Bool}(hF:EM ai=some R):
   Fw.Spec Tryz.prog 95 [(zg [ae.v,ay.v])] [ah ae ai.Head,bH ay ai.Atoms] (fun _:Unit=>(.bool R)) (fun _=>[]):=by
 refine Se 17 Tryz.func95 [.tmp 2] ?_
 intro H0 F0
 unfold EM at hF
 refine au ?_
 refine bB (fun k1=>?_)
 refine aU ?_
 refine bnd hF fun r2 hx3 hF=>eZ (abY hx3) (fun p4=>?_)
 refine dH (fun k5=>?_)
 refine As p4.1.v ?_
 refine au ?_
 refine rZ .h adg ?_
 refine rZ (.t .h) bU ?_
 obtain⟨o8,avI,hO9⟩:=bind_some hF
 refine au ?_
 refine fE (fun f' cs'=>∃(c14:Bool)(g:Fr),c14=o8/\f'=aM g [(2,(.bool c14))]/\aL cs' []) ?_ ?_
 · replace hF:=avI
   refine aV ?_
   rcases bL (decide (((ai.Head.length:Int):Int)<=3))with lU|lU
   · rw[lU]
     try rw[lU]at hF; dsimp only[aO,aN]at hF
     refine aV ?_
     refine aI (uK (fn:=.func 182) (vs:=[]) (us:=[(pz k5)]) .nil bZ) ?_
     refine au ?_
     refine bnd hF fun qf qD hF=>aX (ahj qD) (fun _=>?_)
     exact bO hF
   rw[lU]
   try rw[lU]at hF; dsimp only[aO,aN]at hF
   exact bO hF
 rintro _ _ ⟨c14,g15,rfl,rfl,hE⟩
 replace hF:=hO9
 try dsimp only at hF
 refine bD hE ?_
 exact ze hF
def yG(ag:List Int)(ai:Query):Option (Bool):=
 ((yC ag).bind fun r5=>
   bif r5 then ((kL (ai.Atoms.length:Int) 1 4).bind fun r9=>
     bif r9 then ((Kt ai.Atoms ag).bind fun ik=>
       bif (!ik)then ((EM ai).bind fun dS=>
         some dS)
       else (some false))
     else (some false))
   else (some false)).bind fun o3=>
 match o3 with
 |c20=>some c20
theorem Lx{ag:List Int}{ae:Sv}{ai:Query}{aC aR:Sv}{R:Bool}(hF:yG ag ai=some R):
   Fw.Spec Tryz.prog 38 [ae.v,(zg [aC.v,aR.v])] [ah ae ag,ah aC ai.Head,bH aR ai.Atoms] (fun _:Unit=>(.bool R)) (fun _=>[]):=by
 refine Se 24 Tryz.func38 [.tmp 4] ?_
 intro H0 F0
 unfold yG at hF
 refine au ?_
 refine bB (fun k1=>?_)
 refine bB (fun k2=>?_)
 refine aW ?_
 obtain⟨o3,vI,hO4⟩:=bind_some hF
 refine au ?_
 refine fE (fun f' cs'=>∃(c20:Bool)(g:Fr),c20=o3/\f'=aM g [(4,(.bool c20))]/\aL cs' []) ?_ ?_
 · replace hF:=vI
   refine au ?_
   refine bnd hF fun r5 hx6 hF=>aX (Lc hx6) (fun _=>?_)
   refine au ?_
   rcases bL r5 with fD|fD
   · rw[fD]
     try rw[fD]at hF; dsimp only[aO,aN]at hF
     refine bf ?_
     refine bnd hF fun r9 eX hF=>aX (l8 eX) (fun _=>?_)
     refine aW ?_
     rcases bL r9 with lV|lV
     · rw[lV]
       try rw[lV]at hF; dsimp only[aO,aN]at hF
       refine aV ?_
       refine aI (uK (fn:=.func 93) (vs:=[]) (us:=[(pz k1)]) .nil bZ) ?_
       refine au ?_
       refine bnd hF fun ik iy hF=>aX (agV iy) (fun _=>?_)
       refine aU ?_
       rcases bL (!ik)with pu|pu
       · rw[pu]
         try rw[pu]at hF; dsimp only[aO,aN]at hF
         refine bq ?_
         refine bnd hF fun dS fV hF=>aX (abx fV) (fun _=>?_)
         exact bO hF
       rw[pu]
       try rw[pu]at hF; dsimp only[aO,aN]at hF
       exact bO hF
     rw[lV]
     try rw[lV]at hF; dsimp only[aO,aN]at hF
     exact bO hF
   rw[fD]
   try rw[fD]at hF; dsimp only[aO,aN]at hF
   exact bO hF
 rintro _ _ ⟨c20,g21,rfl,rfl,hE⟩
 replace hF:=hO4
 try dsimp only at hF
 refine bD hE ?_
 exact ze hF
def Mv(ag:List Int)(ak:List Method)(ai:Query):Option (Bool):=
 ((BF ag ak).bind fun r4=>
   bif r4 then ((yG ag ai).bind fun r8=>
     some r8)
   else (some false)).bind fun o2=>
 match o2 with
 |c11=>some c11
theorem ajD{ag:List Int}{ae:Sv}{ak:List Method}{aC:Sv}{ai:Query}{bJ eP:Sv}{R:Bool}(hF:Mv ag ak ai=some R):
   Fw.Spec Tryz.prog 138 [ae.v,aC.v,(zg [bJ.v,eP.v])] [ah ae ag,dD aC ak,ah bJ ai.Head,bH eP ai.Atoms] (fun _:Unit=>(.bool R)) (fun _=>[]):=by
 refine Se 15 Tryz.func138 [.tmp 6] ?_
 intro H0 F0
 unfold Mv at hF
 refine au ?_
 refine bB (fun k1=>?_)
 refine aW ?_
 obtain⟨o2,gK,hO3⟩:=bind_some hF
 refine au ?_
 refine fE (fun f' cs'=>∃(c11:Bool)(g:Fr),c11=o2/\f'=aM g [(6,(.bool c11))]/\aL cs' []) ?_ ?_
 · replace hF:=gK
   refine aW ?_
   refine bnd hF fun r4 hx5 hF=>aX (Rw hx5) (fun _=>?_)
   refine au ?_
   rcases bL r4 with bI|bI
   · rw[bI]
     try rw[bI]at hF; dsimp only[aO,aN]at hF
     refine aV ?_
     refine bnd hF fun r8 bP hF=>aX (Lx bP) (fun _=>?_)
     exact bO hF
   rw[bI]
   try rw[bI]at hF; dsimp only[aO,aN]at hF
   exact bO hF
 rintro _ _ ⟨c11,g12,rfl,rfl,hE⟩
 replace hF:=hO3
 try dsimp only at hF
 refine bD hE ?_
 exact ze hF
def Rc(ag:List Method):Option ((List Method)):=
 (app ([]:List Method) ag).bind fun z5=>
 some z5
theorem ahm{ag:List Method}{ae:Sv}{R:(List Method)}(hF:Rc ag=some R):
   Fw.Spec Tryz.prog 220 [ae.v] [dD ae ag] (fun p:Sv×List Nat=>p.1.v) (fun p=>[FQ p.2 p.1 R]):=by
 refine Se 8 Tryz.func220 [.tmp 2] ?_
 intro H0 F0
 unfold Rc at hF
 refine aZ ?_
 refine Xx (xs:=ag) ug.h (.tmp rfl rfl) .h Xi (fun bn1 hn2=>?_)
 refine au ?_
 refine Cc (fun hb3=>?_) (fun hb3=>?_)
 · have hnil:=hn2 hb3
   replace hF:some []=some R:=by rw[hnil]at hF; simpa[app]using hF
   refine aU ?_
   cases hF
   exact iX (⟨none,0,0⟩,[]) (.tmp rfl rfl .nil) rfl (.conv .nil (iD (Ro:=(aG ma)) (E:=89)) (.cons .nil) (.sel (.cons .h .nil)))
 refine aW ?_
 refine dQ rfl (cz (g:=true) ug.h sD.h .nil (vs:=[]) rfl rfl rfl (by simp)) (fun k4=>?_)
 refine dP (.cons .h .nil) (cK (Ro:=(aG ma)) (E:=89) (F:=[]) (xs:=([]:List Method)) cB rfl rfl) ?_
 refine au ?_
 refine bnd hF fun z5 hx6 hF=>dZ (.cons .h (.rd .h rfl .nil)) (fT (Ro:=(aG ma)) ug.h YD sD.h rfl rfl rfl (.tmp rfl rfl) (.tmp rfl rfl) hx6 qp) (fun p7=>?_)
 refine bq ?_
 cases hF
 exact Er (p7.1,p7.2)
def Ec(r1:(List Method)):Nat->(List Method)->Int->Option ((List Method))
 |0,_,_=>none
 |GM+1,qV,c37=>if (decide ((c37:Int)<(r1.length:Int)))then (
     ((ix qV c37).bind fun GN=>
       if ((GN.Limit:Int)!=0)then (
         (ix qV c37).bind fun Kh=>
         (some (qV.set (c37).toNat {Kh with Rel:=(-1)})).bind fun z64=>
         some z64)
       else (
         some qV)).bind fun o46=>
     match o46 with
     |pJ=>Ec r1 GM pJ (IntKind.i64.wrap (c37+1)))
   else (
     some qV)
def LU(ak:List Method):Option ((List Method)):=
 (Rc ak).bind fun r1=>
 Ec r1 (((r1.length:Int)-0).toNat+2) r1 0
theorem ai0{ak:List Method}{ae:Sv}{R:(List Method)}(hF:LU ak=some R):
   Fw.Spec Tryz.prog 139 [ae.v] [dD ae ak] (fun p:Sv×List Nat=>p.1.v) (fun p=>[FQ p.2 p.1 R]):=by
 refine Se 24 Tryz.func139 [.tmp 2] ?_
 intro H0 F0
 unfold LU at hF
 refine aV ?_
 refine bnd hF fun r1 hx2 hF=>eZ (ahm hx2) (fun p3=>?_)
 refine di ?_
 refine bn (bF (m:=(((r1.length:Int)-0).toNat+2)) (fun GM f' cs'=>∃(g:Fr)(qV:List Method)(c37:Int)(AJ:List Nat),f'=aM g [(3,p3.1.v),(8,p3.1.v),(9,(zi (r1.length:Int))),(10,(zi c37))]/\aL cs' [FQ AJ p3.1 qV]/\Ec r1 GM qV c37=some R) ⟨_,_,_,p3.2,aA,az,hF⟩ ?_)
 rintro GM _ _ ⟨Vu,qV,c37,AJ,rfl,hE,hF⟩
 refine bD hE ?_
 rcases GM with _|GM
 · rw[Ec]at hF
   exact absurd hF (by simp)
 rw[Ec]at hF
 refine aU ?_
 refine Ci hF (fun YQ hF=>?_) (fun YQ hF=>?_)
 · refine au ?_
   obtain⟨o46,asj,avJ⟩:=bind_some hF
   refine gX (fun f' cs'=>∃(pJ:List Method)(g:Fr),pJ=o46/\f'=aM g [(3,p3.1.v),(8,p3.1.v),(9,(zi (r1.length:Int))),(10,(zi c37))]/\aL cs' [FQ AJ p3.1 pJ]) ?_ ?_
   · replace hF:=asj
     refine bn (fe (Cm (zi c37) rfl rfl ?_))
     refine bnd hF fun GN JN hF=>?_
     have avK:=Fg JN
     obtain⟨aC6,Cx⟩:=yO JN
     refine mY ug.h sD.h.sz (.tmp rfl rfl) (.tmp rfl rfl) .h avK (fun k48 avL=>?_)
     refine anr (uL GN) atO.h sD.h.sz rfl (.tmp rfl rfl) .h avL Cx wQ (fun p55=>?_)
     refine dH (fun k56=>?_)
     refine au ?_
     refine As (zg [(zi GN.Rel),p55.v,(zi GN.Limit),(zi GN.Cost),(zi GN.Quota)]) ?_
     refine aZ ?_
     refine Ci hF (fun FX hF=>?_) (fun FX hF=>?_)
     · refine bq ?_
       refine bnd hF fun Kh Gd hF=>?_
       have avM:=Fg Gd
       obtain⟨aC7,Za⟩:=yO Gd
       refine mY ug.h sD.h.sz (.tmp rfl rfl) (.tmp rfl rfl) .q2 avM (fun k57 avN=>?_)
       refine au ?_
       refine bnd hF fun z64 zZ hF=>?_
       replace zZ:=Option.some.inj zZ
       refine dZ (.cons .q2 .nil) (amC (Ro:=(aG ma)) (i:=c37) dw.h.sz rfl (.tmp rfl rfl) (.int _ _) avN Za rfl rfl amM (anC (d:=(-1)))) (fun _=>?_)
       rw[zZ]
       exact bO hF
     exact bO hF
   rintro _ _ ⟨pJ,g68,rfl,rfl,hE⟩
   replace hF:=avJ
   try dsimp only at hF
   refine bD hE ?_
   refine aU ?_
   exact⟨GM,bG _,_,_,_,AJ,aA,az,hF⟩
 refine dK ?_
 cases hF
 exact Er (p3.1,AJ)
def AY:List Int->Nat->(List Int)->Option ((List Int))
 |[],iB,l6=>some l6
 |lJ::jX,iB,l6=>((EL lJ).bind fun gM=>
     if gM then (
       (app l6 ([lJ]:List Int)).bind fun z52=>
       some z52)
     else (
       some l6)).bind fun wH=>
   match wH with
   |pG=>AY jX (iB+1) pG
def AZ:List Atom->Nat->(List Int)->Option ((List Int))
 |[],k8,c2=>(KL c2).bind fun dS=>
   (KJ dS).bind fun il=>
   some il
 |dx::fC,k8,c2=>(AY dx.Terms 0 c2).bind fun sZ=>
   match sZ with
   |wI=>AZ fC (k8+1) wI
def Rq(jG:List Atom):Option ((List Int)):=
 AZ jG 0 ([]:List Int)
theorem ahC{jG:List Atom}{ae:Sv}{R:(List Int)}(hF:Rq jG=some R):
   Fw.Spec Tryz.prog 198 [ae.v,(.func (.func 199) [].toArray [].toArray)] [bH ae jG] (fun p:Sv×List Nat=>p.1.v) (fun p=>[bC p.2 p.1 R]):=by
 refine Se 37 Tryz.func198 [.tmp 4] ?_
 intro H0 F0
 unfold Rq at hF
 refine aU ?_
 refine dQ rfl (cz (g:=true) dh.h dw.h .nil (vs:=[]) rfl rfl rfl (by simp)) (fun k1=>?_)
 refine dP (.cons .h .nil) (cK (Ro:=(aG aK)) (E:=3) (F:=[]) (xs:=([]:List Int)) cB rfl rfl) ?_
 refine di ?_
 refine bn (bF (m:=jG.length) (fun m6 f' cs'=>∃(g:Fr)(k8:Nat)(fC:List Atom)(c2:List Int)(v3:Sv)(F4:List Nat),m6=fC.length/\f'=aM g [(1,(.func (.func 199) [].toArray [].toArray)),(5,v3.v),(11,ae.v),(12,(zi (jG.length:Int))),(13,(zi (k8:Int)))]/\List.drop k8 jG=fC/\aL cs' [bC F4 v3 c2,bH ae jG]/\AZ fC k8 c2=some R) ⟨_,0,_,_,⟨(some ⟨k1,0,none⟩),0,1⟩,(k1::[]),rfl,aA,rfl,az,hF⟩ ?_)
 rintro m6 _ _ ⟨g7,k8,fC,c2,v3,F4,rfl,rfl,gD,hE,hF⟩
 refine Kb hE jG (fun Od=>?_)
 rcases fC with _|⟨dx,fC⟩
 · have vJ:=dn gD
   rw[AZ]at hF
   refine aU ?_
   refine bR ?_
   refine aZ ?_
   refine bnd hF fun dS fV hF=>eZ (aaj fV) (fun p19=>?_)
   refine bq ?_
   refine bnd hF fun il kG hF=>eZ (aaf kG) (fun mq=>?_)
   refine bq ?_
   cases hF
   exact Er (mq.1,mq.2)
 obtain⟨vJ,jr,vK⟩:=bN gD
 rw[AZ]at hF
 refine aU ?_
 refine bQ ?_
 refine au ?_
 obtain⟨sZ,Oi,PR⟩:=bind_some hF
 refine gX (fun f' cs'=>∃(wI:List Int)(v62:Sv)(GL:List Nat)(g:Fr),wI=sZ/\f'=aM g [(1,(.func (.func 199) [].toArray [].toArray)),(5,v62.v),(11,ae.v),(12,(zi (jG.length:Int))),(13,(zi (k8:Int)))]/\aL cs' [bC GL v62 wI,bH ae jG]) ?_ ?_
 · replace hF:=Oi
   refine bn (fe (zH (a:=dx) uh.h ou.h.sz (.tmp rfl rfl) (.tmp rfl rfl) (.t .h) (Int.natCast_nonneg k8) jr (fun k25 j26=>?_)))
   refine iM (oV dx) pO (fun p27=>?_)
   refine dH (fun k28=>?_)
   refine As (zg [(zi dx.Rel),p27.v]) ?_
   refine bf ?_
   refine bn (bF (m:=dx.Terms.length) (fun Dr f' cs'=>∃(g:Fr)(iB:Nat)(jX l6:List Int)(v30:Sv)(AO:List Nat),Dr=jX.length/\f'=aM g [(1,(.func (.func 199) [].toArray [].toArray)),(5,v30.v),(11,ae.v),(12,(zi (jG.length:Int))),(13,(zi (k8:Int))),(18,p27.v),(19,(zi (dx.Terms.length:Int))),(20,(zi (iB:Int)))]/\List.drop iB dx.Terms=jX/\aL cs' [bC AO v30 l6,bH ae jG,ah p27 dx.Terms]/\AY jX iB l6=some sZ) ⟨_,0,_,_,v3,F4,rfl,aA,rfl,az,hF⟩ ?_)
   rintro Dr _ _ ⟨g34,iB,jX,l6,v30,AO,rfl,rfl,hd38,hE,hF⟩
   refine Kb hE dx.Terms (fun aeX=>?_)
   rcases jX with _|⟨lJ,jX⟩
   · have PM:=dn hd38
     rw[AY]at hF
     refine aU ?_
     refine bR ?_
     refine aU ?_
     cases hF
     exact⟨_,v30,AO,_,rfl,aA,az⟩
   obtain⟨PM,sG,vF⟩:=bN hd38
   rw[AY]at hF
   refine aU ?_
   refine bQ ?_
   refine au ?_
   obtain⟨wH,Oh,JY⟩:=bind_some hF
   refine gX (fun f' cs'=>∃(pG:List Int)(v57:Sv)(lY:List Nat)(g:Fr),pG=wH/\f'=aM g [(1,(.func (.func 199) [].toArray [].toArray)),(5,v57.v),(11,ae.v),(12,(zi (jG.length:Int))),(13,(zi (k8:Int))),(18,p27.v),(19,(zi (dx.Terms.length:Int))),(20,(zi (iB:Int)))]/\aL cs' [bC lY v57 pG,bH ae jG,ah p27 dx.Terms]) ?_ ?_
   · replace hF:=Oh
     refine bn (fe (zH (a:=lJ) dh.h dw.h.sz (.tmp rfl rfl) (.tmp rfl rfl) .q2 (Int.natCast_nonneg iB) sG (fun Vv j47=>?_)))
     refine Al bY ?_
     refine aV ?_
     refine bnd hF fun gM iO hF=>kE .nil (oo aqC.h (.tmp rfl rfl) bZ (RO iO)) (fun _=>?_)
     refine au ?_
     refine Ci hF (fun Pj hF=>?_) (fun Pj hF=>?_)
     · refine bq ?_
       refine dQ rfl (cz (g:=true) dh.h dw.h bZ (vs:=[(zi lJ)]) rfl rfl rfl (by intro v hv; simp at hv; rcases hv with rfl<;>rfl)) (fun wo=>?_)
       refine dP (.cons .h .nil) (cK (Ro:=(aG aK)) (E:=3) (F:=([]++[])) (xs:=([lJ]:List Int)) (gq (jF (fun _=>rfl)) cB dz) rfl rfl) ?_
       refine bnd hF fun z52 vG hF=>dZ (.cons .q2 (.cons .h .nil)) (fT (Ro:=(aG aK)) dh.h kF dw.h rfl rfl rfl (.tmp rfl rfl) (.tmp rfl rfl) vG iF) (fun p54=>?_)
       refine aW ?_
       cases hF
       exact⟨_,p54.1,p54.2,_,rfl,aA,az⟩
     refine au ?_
     cases hF
     exact⟨_,v30,AO,_,rfl,aA,az⟩
   rintro _ _ ⟨pG,v57,lY,g60,rfl,rfl,hE⟩
   replace hF:=JY
   try dsimp only at hF
   refine bD hE ?_
   refine aU ?_
   rw[wk iB]
   exact⟨_,bG _,_,iB+1,jX,_,v57,lY,rfl,aA,vF,az,hF⟩
 rintro _ _ ⟨wI,v62,GL,g65,rfl,rfl,hE⟩
 replace hF:=PR
 try dsimp only at hF
 refine bD hE ?_
 refine aU ?_
 rw[wk k8]
 exact⟨_,bG _,_,k8+1,fC,_,v62,GL,rfl,aA,vK,az,hF⟩
def Ie(ai:Query):Option ((List Int)):=
 (Rq ai.Atoms).bind fun r2=>
 some r2
theorem aaH{ai:Query}{ae ay:Sv}{R:(List Int)}(hF:Ie ai=some R):
   Fw.Spec Tryz.prog 107 [(zg [ae.v,ay.v])] [ah ae ai.Head,bH ay ai.Atoms] (fun p:Sv×List Nat=>p.1.v) (fun p=>[bC p.2 p.1 R]):=by
 refine Se 6 Tryz.func107 [.tmp 2] ?_
 intro H0 F0
 unfold Ie at hF
 refine au ?_
 refine bB (fun k1=>?_)
 refine aV ?_
 refine bnd hF fun r2 hx3 hF=>eZ (ahC hx3) (fun p4=>?_)
 refine bq ?_
 cases hF
 exact Er (p4.1,p4.2)
def Rm(fF:Int):Option (List Int):=
 if 0<=fF/\fF<4294967296 then some []else none
theorem ahx{fF:Int}{R:List Int}(hF:Rm fF=some R):
   Fw.Spec Tryz.prog 249 [(.slice none 0 0),.int .i64 fF] [] (fun p:Sv×List Nat=>p.1.v) (fun p=>[aQ (aP 3 (aG aK)) p.2 p.1.v R]):=by
 unfold Rm at hF
 split at hF
 · rename_i h
   obtain⟨h0,h1⟩:=h
   cases hF
   obtain⟨q,rfl⟩:∃q:Nat,fF=(q:Int):=⟨fF.toNat,by omega⟩
   have w0:IntKind.i64.wrap ((0:Int)-((0:Nat):Int))=0:=by decide
   have w1:IntKind.i64.wrap ((q:Int)-0)=(q:Int):=by rw[fU (by omega) (by omega)]; omega
   refine LZ (n:=27) Tryz.func249 rfl rfl (rs:=[.tmp 4]) rfl rfl rfl ?_
   intro H0 F0
   iterate 8 refine au ?_
   refine rY (b:=(decide ((q:Int)<0))) (.tmp rfl rfl) (fun hb=>absurd hb (by simp only[decide_eq_true_eq]; omega)) (fun _=>?_)
   iterate 5 refine au ?_
   refine aI (ac0 dh.h (.tmp rfl rfl)) ?_
   refine au ?_
   refine aI (qw (l:=0) dh.h (.tmp rfl rfl) ⟨none,0,rfl⟩) ?_
   refine au ?_
   rw[w0]
   refine au ?_
   rw[w1]
   iterate 6 refine au ?_
   refine rY (b:=(decide ((0:Int)<(q:Int)))) (.tmp rfl rfl) (fun hb=>?_) (fun hb=>?_)
   · have hq:0<q:=by simp only[decide_eq_true_eq]at hb; omega
     iterate 3 refine au ?_
     refine aI (ac0 dh.h (.tmp rfl rfl)) ?_
     refine aI (aj8 dh.h dw.h.sz (.tmp rfl rfl) (.tmp rfl rfl)) ?_
     refine au ?_
     refine dZ .nil (al9 (Ro:=(aG aK)) (E:=3) dh.h Vn dw.h rfl rfl rfl (by exact .tmp rfl rfl) (by exact .tmp rfl rfl) hq (by omega)) (fun k=>?_)
     refine au ?_
     refine aI (qw (l:=0) dh.h (.tmp rfl rfl) ⟨none,0,rfl⟩) ?_
     refine alE (i:=((0:Nat):Int)) dh.h dw.h.sz (by exact .tmp rfl rfl) (.inr rfl) (by exact .tmp rfl rfl) .h rfl (by omega) (by omega) (by omega) ?_
     iterate 7 refine au ?_
     exact iX (⟨some ⟨k,0,none⟩,0,2⟩,[k]) (.tmp rfl rfl .nil) rfl (.sel (.cons .h .nil))
   · iterate 6 refine au ?_
     exact iX (⟨none,0,0⟩,[]) (.tmp rfl rfl .nil) rfl (.conv .nil (iD (Ro:=(aG aK)) (E:=3)) (.cons .nil) (.sel (.cons .h .nil)))
 · simp at hF
def Dy:List (List Int)->Nat->(List Int)->Option ((List Int))
 |[],k23,c17=>some c17
 |x25::jW,k23,c17=>(app c17 x25).bind fun z35=>
   Dy jW (k23+1) z35
def AX(mr:List (List Int)):List (List Int)->Nat->Int->Option ((List Int))
 |[],k5,c1=>(Rm c1).bind fun jw=>
   Dy mr 0 jw
 |x7::bz,k5,c1=>(if (decide (((IntKind.i64.wrap (c1+(x7.length:Int))):Int)<0))then (
       none)
     else (
       some ())).bind fun GQ=>
   match GQ with
   |_=>AX mr bz (k5+1) (IntKind.i64.wrap (c1+(x7.length:Int)))
def Ht(mr:List (List Int)):Option ((List Int)):=
 AX mr mr 0 0
theorem aag{mr:List (List Int)}{ae:Sv}{R:(List Int)}(hF:Ht mr=some R):
   Fw.Spec Tryz.prog 186 [ae.v] [bK (aJ 22 (aJ 3 aK)) ae.v mr] (fun p:Sv×List Nat=>p.1.v) (fun p=>[bC p.2 p.1 R]):=by
 refine Se 36 Tryz.func186 [.tmp 2] ?_
 intro H0 F0
 unfold Ht at hF
 refine Cs ?_
 refine bn (bF (m:=mr.length) (fun m3 f' cs'=>∃(g:Fr)(k5:Nat)(bz:List (List Int))(c1:Int),m3=bz.length/\f'=aM g [(0,ae.v),(3,(zi c1)),(9,ae.v),(10,(zi (mr.length:Int))),(11,(zi (k5:Int)))]/\List.drop k5 mr=bz/\aL cs' [bK (aJ 22 (aJ 3 aK)) ae.v mr]/\AX mr bz k5 c1=some R) ⟨_,0,_,_,rfl,aA,rfl,az,hF⟩ ?_)
 rintro m3 _ _ ⟨g4,k5,bz,c1,rfl,rfl,gL,hE,hF⟩
 refine Kb hE mr (fun qz=>?_)
 rcases bz with _|⟨x7,bz⟩
 · have jP:=dn gL
   rw[AX]at hF
   refine aU ?_
   refine bR ?_
   refine aZ ?_
   refine bnd hF fun jw jS hF=>eZ (ahx jS) (fun p16=>?_)
   refine di ?_
   refine bn (bF (m:=mr.length) (fun m21 f' cs'=>∃(g:Fr)(k23:Nat)(jW:List (List Int))(c17:List Int)(v18:Sv)(F19:List Nat),m21=jW.length/\f'=aM g [(6,v18.v),(25,ae.v),(26,(zi (mr.length:Int))),(27,(zi (k23:Int)))]/\List.drop k23 mr=jW/\aL cs' [bC F19 v18 c17,bK (aJ 22 (aJ 3 aK)) ae.v mr]/\Dy jW k23 c17=some R) ⟨_,0,_,_,p16.1,p16.2,rfl,aA,rfl,az,hF⟩ ?_)
   rintro m21 _ _ ⟨g22,k23,jW,c17,v18,F19,rfl,rfl,xJ,hE,hF⟩
   refine Kb hE mr (fun aeO=>?_)
   rcases jW with _|⟨x25,jW⟩
   · have OX:=dn xJ
     rw[Dy]at hF
     refine aU ?_
     refine bR ?_
     refine dK ?_
     cases hF
     exact Er (v18,F19)
   obtain⟨OX,hx28,hd29⟩:=bN xJ
   rw[Dy]at hF
   refine aU ?_
   refine bQ ?_
   refine bq ?_
   refine Ai hx28 (fun kI j33=>?_)
   refine r_ (R':=(aJ 3 aK)) ji.h (.tmp rfl rfl) .h Js (fun w34=>?_)
   refine aV ?_
   refine bnd hF fun z35 uk hF=>dZ (.cons .q2 (.rd .h rfl .nil)) (fT (Ro:=(aG aK)) dh.h kF dw.h rfl rfl rfl (.tmp rfl rfl) (.tmp rfl rfl) uk qp) (fun p37=>?_)
   refine aZ ?_
   rw[wk k23]
   exact⟨_,bG _,_,k23+1,jW,_,p37.1,p37.2,rfl,aA,hd29,az,hF⟩
 obtain⟨jP,eX,gD⟩:=bN gL
 rw[AX]at hF
 refine aU ?_
 refine bQ ?_
 refine au ?_
 obtain⟨GQ,Yn,ZA⟩:=bind_some hF
 refine gX (fun f' cs'=>∃(g:Fr),GQ=()/\f'=aM g [(0,ae.v),(3,(zi (IntKind.i64.wrap (c1+(x7.length:Int))))),(9,ae.v),(10,(zi (mr.length:Int))),(11,(zi (k5:Int)))]/\aL cs' [bK (aJ 22 (aJ 3 aK)) ae.v mr]) ?_ ?_
 · replace hF:=Yn
   refine bn (fe (zH (a:=x7) NU.h uf.h.sz (.tmp rfl rfl) (.tmp rfl rfl) .h (Int.natCast_nonneg k5) eX (fun qh Ka=>?_)))
   refine r_ (R':=(aJ 3 aK)) ji.h (.tmp rfl rfl) .h Js (fun w43=>?_)
   refine aq9 ?_
   refine Ci hF (fun zY hF=>?_) (fun zY hF=>?_)
   · exact absurd hF (by simp)
   refine au ?_
   cases hF
   exact⟨_,rfl,aA,az⟩
 rintro _ _ ⟨g46,rfl,rfl,hE⟩
 replace hF:=ZA
 try dsimp only at hF
 refine bD hE ?_
 refine aU ?_
 rw[wk k5]
 exact⟨_,bG _,_,k5+1,bz,_,rfl,aA,gD,az,hF⟩
def DZ(aj:aY)(fu:Int):Option (Int):=
 (jT (decide (0<=(if (aj.Values.length:Int)<(aj.Vars.length:Int)then (aj.Values.length:Int)else (aj.Vars.length:Int)))&&decide ((if (aj.Values.length:Int)<(aj.Vars.length:Int)then (aj.Values.length:Int)else (aj.Vars.length:Int))<=(aj.Vars.length:Int)))).bind fun u3=>
 (Hu (aj.Vars.take ((if (aj.Values.length:Int)<(aj.Vars.length:Int)then (aj.Values.length:Int)else (aj.Vars.length:Int))).toNat) fu).bind fun r6=>
 some r6
theorem aaA{aj:aY}{ae ay:Sv}{fu R:Int}(hF:DZ aj fu=some R):
   Fw.Spec Tryz.prog 270 [(zg [ae.v,ay.v]),(zi fu)] [ah ae aj.Vars,ah ay aj.Values] (fun _:Unit=>(zi R)) (fun _=>[]):=by
 refine Se 17 Tryz.func270 [.tmp 4] ?_
 intro H0 F0
 unfold DZ at hF
 refine au ?_
 refine bB (fun k1=>?_)
 refine oC ?_
 refine aI (aph (i:=(aj.Vars.length:Int)) (j:=(aj.Values.length:Int)) (.tmp rfl rfl) (.tmp rfl rfl)) ?_
 refine bnd hF fun u3 hx5 hF=>?_
 have hc2:=ru hx5
 simp only[Bool.and_eq_true,decide_eq_true_eq]at hc2
 refine aly dh.h dw.h.sz (.tmp rfl rfl) (.tmp rfl rfl) (.t .h) hc2.1 hc2.2 (fun w4=>?_)
 refine au ?_
 refine bnd hF fun r6 hx7 hF=>aX (aah hx7) (fun _=>?_)
 exact ze hF
def wS(aj:aY)(nK:Int):Option (Int):=
 (yX nK).bind fun r2=>
 if (!r2)then (
   some nK)
 else (
   (DZ aj nK).bind fun r5=>
   if (decide ((r5:Int)<0))then (
     some (-1))
   else (
     (ix aj.Values r5).bind fun x8=>
     some x8))
theorem RQ{aj:aY}{ae ay:Sv}{nK R:Int}(hF:wS aj nK=some R):
   Fw.Spec Tryz.prog 200 [(zg [ae.v,ay.v]),(zi nK)] [ah ae aj.Vars,ah ay aj.Values] (fun _:Unit=>(zi R)) (fun _=>[]):=by
 refine Se 20 Tryz.func200 [.tmp 4] ?_
 intro H0 F0
 unfold wS at hF
 refine au ?_
 refine bB (fun k1=>?_)
 refine aV ?_
 refine bnd hF fun r2 hx3 hF=>aX (IU hx3) (fun _=>?_)
 refine aW ?_
 refine Ci hF (fun avO hF=>?_) (fun avO hF=>?_)
 · exact ze hF
 refine aU ?_
 refine bnd hF fun r5 hx6 hF=>aX (aaA hx6) (fun _=>?_)
 refine bf ?_
 refine Ci hF (fun PK hF=>?_) (fun PK hF=>?_)
 · exact ze hF
 refine aV ?_
 refine zI hF fun x8 Zy mf hF=>?_
 refine Ai mf (fun k12 j13=>?_)
 refine Al bY ?_
 exact ze hF
def BL(aa:Atom)(aj:aY):List Int->Nat->(List Int)->Option (Fact)
 |[],AP,qg=>some (⟨aa.Rel,qg⟩:Fact)
 |GR::zC,AP,qg=>(wS aj GR).bind fun n_=>
   (app qg ([n_]:List Int)).bind fun z48=>
   BL aa aj zC (AP+1) z48
def Jk(aa:Atom)(aj:aY):Option (Fact):=
 BL aa aj aa.Terms 0 ([]:List Int)
theorem ak8{aa:Atom}{ay:Sv}{aj:aY}{aC aR:Sv}{R:Fact}(hF:Jk aa aj=some R):
   Fw.Spec Tryz.prog 248 [(zg [(zi aa.Rel),ay.v]),(zg [aC.v,aR.v])] [ah ay aa.Terms,ah aC aj.Vars,ah aR aj.Values] (fun p:Sv×List Nat=>(zg [(zi R.Rel),p.1.v])) (fun p=>[bC p.2 p.1 R.Values]):=by
 refine Se 29 Tryz.func248 [.cell 4 147] ?_
 intro H0 F0
 unfold Jk at hF
 refine au ?_
 refine bB (fun k1=>?_)
 refine bB (fun k2=>?_)
 refine dH (fun k3=>?_)
 refine aU ?_
 refine dQ rfl (cz (g:=true) dh.h dw.h .nil (vs:=[]) rfl rfl rfl (by simp)) (fun k4=>?_)
 refine dP (.cons .h .nil) (cK (Ro:=(aG aK)) (E:=3) (F:=[]) (xs:=([]:List Int)) cB rfl rfl) ?_
 refine aI (jm fB.h rfl (vs:=[(zi aa.Rel),(.slice (some ⟨k4,0,none⟩) 0 1)]) bZ (cells:=[(zi aa.Rel),(.slice (some ⟨k4,0,none⟩) 0 1)]) rfl) ?_
 refine dH (fun k5=>?_)
 refine As (zg [(zi aa.Rel),(.slice (some ⟨k4,0,none⟩) 0 1)]) ?_
 refine di ?_
 refine bn (bF (m:=aa.Terms.length) (fun m31 f' cs'=>∃(g:Fr)(AP:Nat)(zC qg:List Int)(v28:Sv)(F29:List Nat),m31=zC.length/\f'=aM g [(3,(pz k2)),(4,(pz k3)),(5,(pz k5)),(13,ay.v),(14,(zi (aa.Terms.length:Int))),(15,(zi (AP:Int)))]/\List.drop AP aa.Terms=zC/\aL cs' [bi k2 136 (zg [aC.v,aR.v]),ah aC aj.Vars,ah aR aj.Values,b_ k3 147 (.agg ([(zi 0),(.slice none 0 0)]:List Value).toArray),b_ k5 147 (zg [(zi aa.Rel),v28.v]),bC F29 v28 qg,ah ay aa.Terms]/\BL aa aj zC AP qg=some R) ⟨_,0,_,_,⟨(some ⟨k4,0,none⟩),0,1⟩,(k4::[]),rfl,aA,rfl,az,hF⟩ ?_)
 rintro m31 _ _ ⟨g32,AP,zC,qg,v28,F29,rfl,rfl,UR,hE,hF⟩
 refine Kb hE aa.Terms (fun aAc=>?_)
 rcases zC with _|⟨GR,zC⟩
 · have avP:=dn UR
   rw[BL]at hF
   refine aU ?_
   refine bR ?_
   refine aZ ?_
   refine As (zg [(zi aa.Rel),v28.v]) ?_
   refine aW ?_
   cases hF
   exact Er (v28,F29)
 obtain⟨avP,hx38,hd39⟩:=bN UR
 rw[BL]at hF
 refine aU ?_
 refine bQ ?_
 refine bq ?_
 refine Ai hx38 (fun k42 j43=>?_)
 refine Al bY ?_
 refine aW ?_
 refine oW [0,1,2,3,4,5,6,7,8] [0,1,0,0,12,28,63,127,255] [4,6,8] mixed (by decide+kernel) ?_
 refine du ?_
 refine fA rfl .no .q5 (fun ha hp=>gu (v:=v28.v) ji.h (EN ha (.tmp rfl rfl) rfl) hp.2 rfl rfl) ?_
 refine bS ?_
 refine bnd hF fun n_ FW hF=>XQ rfl rfl .no (.rd .q2 rfl (.rd .q3 rfl .nil)) (.own .q5 (fun _ h=>h) .nil) (fun ha=>dB X8.h (.cons (EN ha (.tmp rfl rfl) rfl) (.cons (EN ha (.tmp rfl rfl) rfl) .nil)) (RQ FW)) (fun _=>?_)
 refine jI rfl .no rfl (fun ha=>cz (g:=true) (len:=1) (parts:=[(0,.tmp 23)]) dh.h dw.h (.cons (EN ha (.tmp rfl rfl) rfl) .nil) (vs:=[(zi n_)]) rfl rfl rfl (by intro v hv; simp at hv; rcases hv with rfl<;>rfl)) (fun k47=>?_)
 refine jO (.cons .h .nil) (cK (Ro:=(aG aK)) (E:=3) (F:=([]++[])) (xs:=([n_]:List Int)) (gq (jF (fun _=>rfl)) cB dz) rfl rfl) ?_
 refine bnd hF fun z48 iO hF=>eU rfl rfl .no (.cons .q7 (.cons .h .nil)) (.dep rfl (.dep rfl .nil)) (fun ha=>fT (Ro:=(aG aK)) dh.h kF dw.h rfl rfl rfl (EN ha (.tmp rfl rfl) rfl) (EN ha (.tmp rfl rfl) rfl) iO iF) (fun p50=>?_)
 refine du ?_
 refine eU rfl rfl .no (.cons .q6 .nil) (.dep rfl (.dep rfl .nil)) (fun ha=>kg (e':=(zg [(zi aa.Rel),p50.1.v])) uf.h.sz (EN ha (.tmp rfl rfl) rfl) (EN ha (.tmp rfl rfl) rfl) rfl rfl rfl rfl rfl) (fun _=>?_)
 refine du ?_
 refine aU ?_
 rw[wk AP]
 exact⟨_,bG _,_,AP+1,zC,_,p50.1,p50.2,rfl,aA,hd39,az,hF⟩
def LV(bg:Fact)(aH:Fact):Option (Bool):=
 (D_ bg aH).bind fun r2=>
 some ((r2:Int)==0)
theorem ai1{bg:Fact}{ay:Sv}{bM:Nat}{aH:Fact}{fo:Sv}{R:Bool}(hF:LV bg aH=some R):
   Fw.Spec Tryz.prog 294 [(zg [(zi bg.Rel),ay.v]),(pz bM)] [ah ay bg.Values,bi bM 147 (zg [(zi aH.Rel),fo.v]),ah fo aH.Values] (fun _:Unit=>(.bool R)) (fun _=>[]):=by
 refine Se 8 Tryz.func294 [.tmp 3] ?_
 intro H0 F0
 unfold LV at hF
 refine au ?_
 refine bB (fun k1=>?_)
 refine aV ?_
 refine bnd hF fun r2 hx3 hF=>aX (VR hx3) (fun _=>?_)
 exact ze hF
def G9(aH:Fact):List Fact->Nat->Option (Int)
 |[],k4=>some (-1)
 |x6::ax,k4=>(LV x6 aH).bind fun r16=>
   if r16 then (
     some (k4:Int))
   else (
     G9 aH ax (k4+1))
def Q7(ag:List Fact)(aH:Fact):Option (Int):=
 G9 aH ag 0
theorem ag5{ag:List Fact}{ae:Sv}{bM:Nat}{aH:Fact}{fo:Sv}{R:Int}(hF:Q7 ag aH=some R):
   Fw.Spec Tryz.prog 258 [ae.v,(.func (.func 294) [].toArray [(pz bM)].toArray)] [dY ae ag,bi bM 147 (zg [(zi aH.Rel),fo.v]),ah fo aH.Values] (fun _:Unit=>(zi R)) (fun _=>[]):=by
 refine Se 19 Tryz.func258 [.tmp 4] ?_
 intro H0 F0
 unfold Q7 at hF
 refine dK ?_
 refine bn (bF (m:=ag.length) (fun m2 f' cs'=>∃(g:Fr)(k4:Nat)(ax:List Fact),m2=ax.length/\f'=aM g [(0,ae.v),(1,(.func (.func 294) [].toArray [(pz bM)].toArray)),(7,(zi (ag.length:Int))),(8,(zi (k4:Int)))]/\List.drop k4 ag=ax/\aL cs' [dY ae ag,bi bM 147 (zg [(zi aH.Rel),fo.v]),ah fo aH.Values]/\G9 aH ax k4=some R) ⟨_,0,_,rfl,aA,rfl,az,hF⟩ ?_)
 rintro m2 _ _ ⟨g3,k4,ax,rfl,rfl,hd7,hE,hF⟩
 refine Kb hE ag (fun iK=>?_)
 rcases ax with _|⟨x6,ax⟩
 · have dM:=dn hd7
   rw[G9]at hF
   refine aU ?_
   refine bR ?_
   exact ze hF
 obtain⟨dM,bP,dL⟩:=bN hd7
 rw[G9]at hF
 refine aU ?_
 refine bQ ?_
 refine iU ?_
 refine Ai bP (fun k13 j6=>?_)
 refine iM (oh x6) oU (fun jd=>?_)
 refine bnd hF fun r16 iP hF=>kE (.rd .h rfl (.rd .q3 rfl (.rd .q4 rfl .nil))) (oo aqR.h (.tmp rfl rfl) bZ (ai1 iP)) (fun _=>?_)
 refine au ?_
 refine Ci hF (fun nT hF=>?_) (fun nT hF=>?_)
 · exact ze hF
 refine aV ?_
 rw[wk k4]
 exact⟨_,bG _,_,k4+1,ax,rfl,aA,dL,az,hF⟩
def Ku(ag:List Fact)(aH:Fact):Option (Bool):=
 (Q7 ag aH).bind fun r1=>
 some (decide ((0:Int)<=r1))
theorem agW{ag:List Fact}{ae:Sv}{bM:Nat}{aH:Fact}{fo:Sv}{R:Bool}(hF:Ku ag aH=some R):
   Fw.Spec Tryz.prog 293 [ae.v,(.func (.func 294) [].toArray [(pz bM)].toArray)] [dY ae ag,bi bM 147 (zg [(zi aH.Rel),fo.v]),ah fo aH.Values] (fun _:Unit=>(.bool R)) (fun _=>[]):=by
 refine Se 9 Tryz.func293 [.tmp 4] ?_
 intro H0 F0
 unfold Ku at hF
 refine aZ ?_
 refine bnd hF fun r1 hx2 hF=>aX (ag5 hx2) (fun _=>?_)
 exact ze hF
def MW(ak:List Fact)(bu:Fact):Option (Bool):=
 (Ku ak bu).bind fun r2=>
 some r2
theorem akq{ak:List Fact}{ae:Sv}{bu:Fact}{aR:Sv}{R:Bool}(hF:MW ak bu=some R):
   Fw.Spec Tryz.prog 257 [ae.v,(zg [(zi bu.Rel),aR.v])] [dY ae ak,ah aR bu.Values] (fun _:Unit=>(.bool R)) (fun _=>[]):=by
 refine Se 8 Tryz.func257 [.tmp 4] ?_
 intro H0 F0
 unfold MW at hF
 refine au ?_
 refine bB (fun k1=>?_)
 refine aU ?_
 refine aI (uK (fn:=.func 294) (vs:=[]) (us:=[(pz k1)]) .nil bZ) ?_
 refine bnd hF fun r2 hx3 hF=>aX (agW hx3) (fun _=>?_)
 exact ze hF
def MX(bg:Fact)(aH:Fact):Option (Bool):=
 (D_ bg aH).bind fun r2=>
 some (decide ((0:Int)<r2))
theorem akr{bg:Fact}{ay:Sv}{bM:Nat}{aH:Fact}{fo:Sv}{R:Bool}(hF:MX bg aH=some R):
   Fw.Spec Tryz.prog 259 [(zg [(zi bg.Rel),ay.v]),(pz bM)] [ah ay bg.Values,bi bM 147 (zg [(zi aH.Rel),fo.v]),ah fo aH.Values] (fun _:Unit=>(.bool R)) (fun _=>[]):=by
 refine Se 8 Tryz.func259 [.tmp 3] ?_
 intro H0 F0
 unfold MX at hF
 refine au ?_
 refine bB (fun k1=>?_)
 refine aV ?_
 refine bnd hF fun r2 hx3 hF=>aX (VR hx3) (fun _=>?_)
 exact ze hF
def G_(aH:Fact):List Fact->Nat->Option (Int)
 |[],k4=>some (-1)
 |x6::ax,k4=>(MX x6 aH).bind fun r16=>
   if r16 then (
     some (k4:Int))
   else (
     G_ aH ax (k4+1))
def Q8(ag:List Fact)(aH:Fact):Option (Int):=
 G_ aH ag 0
theorem ag6{ag:List Fact}{ae:Sv}{bM:Nat}{aH:Fact}{fo:Sv}{R:Int}(hF:Q8 ag aH=some R):
   Fw.Spec Tryz.prog 258 [ae.v,(.func (.func 259) [].toArray [(pz bM)].toArray)] [dY ae ag,bi bM 147 (zg [(zi aH.Rel),fo.v]),ah fo aH.Values] (fun _:Unit=>(zi R)) (fun _=>[]):=by
 refine Se 19 Tryz.func258 [.tmp 4] ?_
 intro H0 F0
 unfold Q8 at hF
 refine dK ?_
 refine bn (bF (m:=ag.length) (fun m2 f' cs'=>∃(g:Fr)(k4:Nat)(ax:List Fact),m2=ax.length/\f'=aM g [(0,ae.v),(1,(.func (.func 259) [].toArray [(pz bM)].toArray)),(7,(zi (ag.length:Int))),(8,(zi (k4:Int)))]/\List.drop k4 ag=ax/\aL cs' [dY ae ag,bi bM 147 (zg [(zi aH.Rel),fo.v]),ah fo aH.Values]/\G_ aH ax k4=some R) ⟨_,0,_,rfl,aA,rfl,az,hF⟩ ?_)
 rintro m2 _ _ ⟨g3,k4,ax,rfl,rfl,hd7,hE,hF⟩
 refine Kb hE ag (fun iK=>?_)
 rcases ax with _|⟨x6,ax⟩
 · have dM:=dn hd7
   rw[G_]at hF
   refine aU ?_
   refine bR ?_
   exact ze hF
 obtain⟨dM,bP,dL⟩:=bN hd7
 rw[G_]at hF
 refine aU ?_
 refine bQ ?_
 refine iU ?_
 refine Ai bP (fun k13 j6=>?_)
 refine iM (oh x6) oU (fun jd=>?_)
 refine bnd hF fun r16 iP hF=>kE (.rd .h rfl (.rd .q3 rfl (.rd .q4 rfl .nil))) (oo aqS.h (.tmp rfl rfl) bZ (akr iP)) (fun _=>?_)
 refine au ?_
 refine Ci hF (fun nT hF=>?_) (fun nT hF=>?_)
 · exact ze hF
 refine aV ?_
 rw[wk k4]
 exact⟨_,bG _,_,k4+1,ax,rfl,aA,dL,az,hF⟩
def Ho(ag:List Fact)(kT:Int)(fQ:List Fact):Option (List Fact):=
 match fQ with
 |[a]=>if 0<=kT/\kT.toNat<=ag.length/\ag.length+1<4294967296 then some (ag.take kT.toNat++a::ag.drop kT.toNat)else none
 |_=>none
set_option maxHeartbeats 4000000 in
theorem ahr(es:List Value)(e:Value)(v u:Sv)(F F2:List Nat)(i:Nat)(hi:i<=es.length)(hb:es.length+1<4294967296):Fw.Spec Tryz.prog 261 [v.v,.int .i64 (i:Int),u.v] [aQ (aP 147 (aG (fZ 2))) F v.v es,aQ (aP 147 (aG (fZ 2))) F2 u.v [e]] (fun q:Sv×List Nat=>q.1.v) (fun q=>[aQ (aP 147 (aG (fZ 2))) q.2 q.1.v (es.take i++e::es.drop i)]):=by
 refine LZ (n:=95) Tryz.func261 rfl rfl (rs:=[.tmp 6]) rfl rfl rfl ?_
 intro H0 F0
 refine fe ?_
 refine aI (lD (v:=(.slice none 0 0)) EV.nilSlice) ?_
 refine h_ ?_
 refine fe ?_
 refine aI (eG (v:=v.v) (.tmp rfl rfl)) ?_
 refine aI (eG (v:=(.int .i64 (i:Int))) (.tmp rfl rfl)) ?_
 refine dZ (.cons .h .nil) (alD gz.h fB.h.sz (.tmp rfl rfl) (.tmp rfl rfl) hi) (fun w0=>?_)
 refine h_ ?_
 refine fe ?_
 refine aI (eG (v:=u.v) (.tmp rfl rfl)) ?_
 refine fq (.t .h) (fun hp=>qw (l:=1) gz.h (.tmp rfl rfl) (ER hp)) ?_
 refine aI (lD (v:=(.int .i64 ((1:Nat):Int))) (.tmp rfl rfl)) ?_
 refine h_ ?_
 refine qC ?_
 refine fe ?_
 refine aI (eG (v:=(.int .i64 ((1:Nat):Int))) (.tmp rfl rfl)) ?_
 refine aI (Ju (i:=((1:Nat):Int)) (j:=0) (.tmp rfl rfl) (.int _ _)) ?_
 refine h_ ?_
 refine rY (b:=(((1:Nat):Int)==0)) (.tmp rfl rfl) (fun hb0=>absurd hb0 (by decide)) (fun _=>?_)
 refine EY ?_
 refine fe ?_
 refine aI (eG (v:=v.v) (.tmp rfl rfl)) ?_
 refine fq .h (fun hp=>qw (l:=es.length) gz.h (.tmp rfl rfl) (ER hp)) ?_
 refine aI (lD (v:=(.int .i64 (es.length:Int))) (.tmp rfl rfl)) ?_
 refine h_ ?_
 refine qC ?_
 refine fe ?_
 refine aI (eG (v:=(.int .i64 (i:Int))) (.tmp rfl rfl)) ?_
 refine aI (eG (v:=(.int .i64 (es.length:Int))) (.tmp rfl rfl)) ?_
 refine aI (Ju (i:=(i:Int)) (j:=(es.length:Int)) (.tmp rfl rfl) (.tmp rfl rfl)) ?_
 refine h_ ?_
 refine rY (b:=((i:Int)==(es.length:Int))) (.tmp rfl rfl) (fun hb1=>?_) (fun hb1=>?_)
 · have hie:i=es.length:=by simp only[beq_iff_eq]at hb1; omega
   refine fe ?_
   refine aI (eG (v:=v.v) (.tmp rfl rfl)) ?_
   refine aI (eG (v:=u.v) (.tmp rfl rfl)) ?_
   refine dZ (.cons .h (.cons .h .nil)) (fT (Ro:=(aG (fZ 2))) gz.h FP fB.h rfl rfl rfl (.tmp rfl rfl) (.tmp rfl rfl) (o5 (xs:=es) (ys:=[e]) (by simpa using hb)) iF) (fun p=>?_)
   refine aI (lD (v:=p.1.v) (.tmp rfl rfl)) ?_
   refine h_ ?_
   refine Ff ?_
   rw[hie,List.take_length,List.drop_length]
   exact iX p (.tmp rfl rfl .nil) rfl (.sel (.cons .h .nil))
 refine EY ?_
 have hlt:i<es.length:=by simp at hb1; omega
 refine Tx .h (Xk (by intro h; rw[h]at hlt; simp at hlt)) (fun hv=>?_)
 obtain⟨k0,m0,rfl,hm0⟩:=hv
 refine Tx (.t .h) (Xk (by simp)) (fun hu=>?_)
 obtain⟨k1,m1,rfl,hm1⟩:=hu
 refine apC (t:=0) (k:=k0) (l:=es.length) (m:=m0) rfl rfl hm0 (by omega) .h rfl (fun c hc=>?_)
 have w1:IntKind.i64.wrap ((es.length:Int)+((1:Nat):Int))=((es.length+1:Nat):Int):=by rw[fU (by omega) (by omega)]; rfl
 have w2:IntKind.i64.wrap ((i:Int)+((1:Nat):Int))=((i+1:Nat):Int):=by rw[fU (by omega) (by omega)]; rfl
 have w3:IntKind.i64.wrap (((es.length+1:Nat):Int)-(i:Int))=((es.length+1-i:Nat):Int):=by rw[fU (by omega) (by omega)]; omega
 have hel:(es.take i++e::es.drop i).length=es.length+1:=anz hi
 refine qC ?_
 refine fe ?_
 refine aI (eG (v:=(.int .i64 (es.length:Int))) (.tmp rfl rfl)) ?_
 refine aI (eG (v:=(.int .i64 ((1:Nat):Int))) (.tmp rfl rfl)) ?_
 refine aI (tX (i:=(es.length:Int)) (j:=((1:Nat):Int)) (.tmp rfl rfl) (.tmp rfl rfl)) ?_
 rw[w1]
 refine aI (eG (v:=(.slice (some ⟨k0,0,none⟩) es.length (c+3))) (.tmp rfl rfl)) ?_
 refine fq .h (fun hp=>aol gz.h hp rfl (.tmp rfl rfl)) ?_
 refine aI (XZ (i:=((es.length+1:Nat):Int)) (j:=(c:Int)) (.tmp rfl rfl) (.tmp rfl rfl)) ?_
 refine h_ ?_
 refine rY (b:=(decide ((c:Int)<((es.length+1:Nat):Int)))) (.tmp rfl rfl) (fun hb2=>?_) (fun hb2=>?_)
 · have hcl:c<es.length+1:=by simp only[decide_eq_true_eq]at hb2; omega
   refine fe ?_
   refine aI (eG (v:=(.slice (some ⟨k0,0,none⟩) es.length (c+3))) (.tmp rfl rfl)) ?_
   refine aI (eG (v:=(.int .i64 (i:Int))) (.tmp rfl rfl)) ?_
   refine fq .h (fun hp=>abK (j:=i) gz.h fB.h.sz hp rfl (.tmp rfl rfl) (.tmp rfl rfl) (by omega)) ?_
   refine aI (eG (v:=(.int .i64 (es.length:Int))) (.tmp rfl rfl)) ?_
   refine aI (eG (v:=(.int .i64 ((1:Nat):Int))) (.tmp rfl rfl)) ?_
   refine aI (tX (i:=(es.length:Int)) (j:=((1:Nat):Int)) (.tmp rfl rfl) (.tmp rfl rfl)) ?_
   rw[w1]
   refine aI (eG (v:=(.int .i64 (i:Int))) (.tmp rfl rfl)) ?_
   refine aI (XX (i:=((es.length+1:Nat):Int)) (j:=(i:Int)) (.tmp rfl rfl) (.tmp rfl rfl)) ?_
   rw[w3]
   refine su (.cons .h .nil) (aj7 (c:=c) (q:=es.length+1-i) gz.h Vn fB.h rfl rfl rfl rfl rfl rfl (.tmp rfl rfl) (.tmp rfl rfl) (by omega) (by omega) (by omega) (by omega)) (fun k2=>?_)
   rw[show i+(es.length+1-i)=es.length+1 from by omega]
   refine aI (lD (v:=(.slice (some ⟨k2,0,none⟩) (es.length+1) 2)) (.tmp rfl rfl)) ?_
   refine h_ ?_
   refine fe ?_
   refine aI (eG (v:=(.slice (some ⟨k2,0,none⟩) (es.length+1) 2)) (.tmp rfl rfl)) ?_
   refine aI (eG (v:=(.int .i64 (i:Int))) (.tmp rfl rfl)) ?_
   refine fq .h (fun hp=>BM (j:=i) gz.h fB.h.sz hp rfl (.tmp rfl rfl) (.tmp rfl rfl) (by omega)) ?_
   refine aI (eG (v:=(.slice (some ⟨k1,0,none⟩) 1 m1)) (.tmp rfl rfl)) ?_
   refine su (.cons .h (.cons (.t .h) .nil)) (Xy (m1:=0) (m2:=m1) (ia:=i) (ja:=0) (ld:=es.length+1-i) (ls:=1) (es2:=[e]) (es':=es.take i++e::List.replicate (es.length-i) (.agg [(.int .i64 0),(.slice none 0 0)].toArray)) gz.h fB.h.sz rfl rfl rfl (by exact .tmp rfl rfl) (by exact .tmp rfl rfl) (by omega) (by omega) (by rw[List.length_singleton]; omega) (by simp; omega) (aom (e:=e) (z:=(.agg [(.int .i64 0),(.slice none 0 0)].toArray)) hlt) (by simp; omega)) (fun _=>?_)
   refine h_ ?_
   refine dE [0,1,2,3,4,5,6,7,8] [0,0,0,6,15,0,0,96,255] [8] mixed (by decide+kernel) ?_
   refine dX rfl .no (fun ha=>eG (v:=(.slice (some ⟨k2,0,none⟩) (es.length+1) 2)) (EN ha (.tmp rfl rfl) rfl)) ?_
   refine dX rfl .no (fun ha=>eG (v:=(.int .i64 (i:Int))) (EN ha (.tmp rfl rfl) rfl)) ?_
   refine dX rfl .no (fun ha=>eG (v:=(.int .i64 ((1:Nat):Int))) (EN ha (.tmp rfl rfl) rfl)) ?_
   refine dX rfl .no (fun ha=>tX (i:=(i:Int)) (j:=((1:Nat):Int)) (EN ha (.tmp rfl rfl) rfl) (EN ha (.tmp rfl rfl) rfl)) ?_
   rw[w2]
   refine fA rfl .no .h (fun ha hp=>BM (j:=i+1) gz.h fB.h.sz hp rfl (EN ha (.tmp rfl rfl) rfl) (EN ha (.tmp rfl rfl) rfl) (by omega)) ?_
   refine dX rfl .no (fun ha=>eG (v:=(.slice (some ⟨k0,0,none⟩) es.length (c+3))) (EN ha (.tmp rfl rfl) rfl)) ?_
   refine dX rfl .no (fun ha=>eG (v:=(.int .i64 (i:Int))) (EN ha (.tmp rfl rfl) rfl)) ?_
   refine fA rfl .no (.t (.t .h)) (fun ha hp=>BM (j:=i) gz.h fB.h.sz hp rfl (EN ha (.tmp rfl rfl) rfl) (EN ha (.tmp rfl rfl) rfl) (by omega)) ?_
   refine uS rfl rfl .no (.cons .h (.cons (.t .h) .nil)) (.dep rfl (.dep rfl .nil)) (fun ha=>Xy gz.h fB.h.sz rfl rfl rfl (EN ha (.tmp rfl rfl) rfl) (EN ha (.tmp rfl rfl) rfl) (by omega) (by omega) (by omega) (by simp; omega) (aon (e:=e) (z:=(.agg [(.int .i64 0),(.slice none 0 0)].toArray)) hlt) (by omega)) (fun _=>?_)
   refine X5 ?_
   refine fe ?_
   refine aI (eG (v:=(.slice (some ⟨k2,0,none⟩) (es.length+1) 2)) (.tmp rfl rfl)) ?_
   refine aI (lD (v:=(.slice (some ⟨k2,0,none⟩) (es.length+1) 2)) (.tmp rfl rfl)) ?_
   refine h_ ?_
   refine Ff ?_
   rw[hel]
   exact iX (⟨some ⟨k2,0,none⟩,es.length+1,2⟩,[k2]) (.tmp rfl rfl .nil) rfl (.sel (.cons .h .nil))
 refine EY ?_
 have hcl:es.length+1<=c:=by simp only[decide_eq_false_iff_not]at hb2; omega
 refine fe ?_
 refine aI (eG (v:=(.slice (some ⟨k0,0,none⟩) es.length (c+3))) (.tmp rfl rfl)) ?_
 refine aI (eG (v:=(.int .i64 (es.length:Int))) (.tmp rfl rfl)) ?_
 refine aI (eG (v:=(.int .i64 ((1:Nat):Int))) (.tmp rfl rfl)) ?_
 refine aI (tX (i:=(es.length:Int)) (j:=((1:Nat):Int)) (.tmp rfl rfl) (.tmp rfl rfl)) ?_
 rw[w1]
 refine fq .h (fun hp=>abK (j:=es.length+1) gz.h fB.h.sz hp rfl (.tmp rfl rfl) (.tmp rfl rfl) hcl) ?_
 refine aI (lD (v:=(.slice (some ⟨k0,0,none⟩) (es.length+1) (c+3))) (.tmp rfl rfl)) ?_
 refine h_ ?_
 refine qC ?_
 refine fe ?_
 refine aI (eG (v:=(.slice (some ⟨k1,0,none⟩) 1 m1)) (.tmp rfl rfl)) ?_
 refine aI (eG (v:=(.slice (some ⟨k0,0,none⟩) (es.length+1) (c+3))) (.tmp rfl rfl)) ?_
 refine aI (eG (v:=(.int .i64 (i:Int))) (.tmp rfl rfl)) ?_
 refine aI (eG (v:=(.int .i64 ((1:Nat):Int))) (.tmp rfl rfl)) ?_
 refine aI (tX (i:=(i:Int)) (j:=((1:Nat):Int)) (.tmp rfl rfl) (.tmp rfl rfl)) ?_
 rw[w2]
 refine fq .h (fun hp=>BM (j:=i+1) gz.h fB.h.sz hp rfl (.tmp rfl rfl) (.tmp rfl rfl) (by omega)) ?_
 refine su (.cons (.t .h) (.cons .h .nil)) (alC gz.h fB.h.sz rfl aoz rfl rfl (.tmp rfl rfl) (.tmp rfl rfl) (by omega) (by omega)) (fun _=>?_)
 refine aI (NM (b:=false) (.tmp rfl rfl)) ?_
 refine h_ ?_
 refine rY (b:=(!false)) (.tmp rfl rfl) (fun _=>?_) (fun h=>absurd h (by decide))
 refine dE [0,1,2,3,4,5,6,7,8] [0,0,0,6,15,0,0,96,255] [8] mixed (by decide+kernel) ?_
 refine dX rfl .no (fun ha=>eG (v:=(.slice (some ⟨k0,0,none⟩) (es.length+1) (c+3))) (EN ha (.tmp rfl rfl) rfl)) ?_
 refine dX rfl .no (fun ha=>eG (v:=(.int .i64 (i:Int))) (EN ha (.tmp rfl rfl) rfl)) ?_
 refine dX rfl .no (fun ha=>eG (v:=(.int .i64 ((1:Nat):Int))) (EN ha (.tmp rfl rfl) rfl)) ?_
 refine dX rfl .no (fun ha=>tX (i:=(i:Int)) (j:=((1:Nat):Int)) (EN ha (.tmp rfl rfl) rfl) (EN ha (.tmp rfl rfl) rfl)) ?_
 rw[w2]
 refine fA rfl .no (.t .h) (fun ha hp=>BM (j:=i+1) gz.h fB.h.sz hp rfl (EN ha (.tmp rfl rfl) rfl) (EN ha (.tmp rfl rfl) rfl) (by omega)) ?_
 refine dX rfl .no (fun ha=>eG (v:=(.slice (some ⟨k0,0,none⟩) (es.length+1) (c+3))) (EN ha (.tmp rfl rfl) rfl)) ?_
 refine dX rfl .no (fun ha=>eG (v:=(.int .i64 (i:Int))) (EN ha (.tmp rfl rfl) rfl)) ?_
 refine fA rfl .no (.t .h) (fun ha hp=>BM (j:=i) gz.h fB.h.sz hp rfl (EN ha (.tmp rfl rfl) rfl) (EN ha (.tmp rfl rfl) rfl) (by omega)) ?_
 refine eU rfl rfl .no (.cons (.t .h) .nil) (.dep rfl (.dep rfl .nil)) (fun ha=>anx gz.h fB.h.sz rfl rfl (EN ha (.tmp rfl rfl) rfl) (EN ha (.tmp rfl rfl) rfl) (by omega) (by omega) (by omega) (by omega) (aoo hlt) (by simp; omega)) (fun _=>?_)
 refine X5 ?_
 refine fe ?_
 refine aI (eG (v:=(.slice (some ⟨k0,0,none⟩) (es.length+1) (c+3))) (.tmp rfl rfl)) ?_
 refine aI (eG (v:=(.int .i64 (i:Int))) (.tmp rfl rfl)) ?_
 refine fq .h (fun hp=>BM (j:=i) gz.h fB.h.sz hp rfl (.tmp rfl rfl) (.tmp rfl rfl) (by omega)) ?_
 refine aI (eG (v:=(.slice (some ⟨k1,0,none⟩) 1 m1)) (.tmp rfl rfl)) ?_
 refine su (.cons .h (.cons .h .nil)) (Xy (m1:=0) (m2:=m1) (ia:=i) (ja:=0) (ld:=es.length+1-i) (ls:=1) (es2:=[e]) (es':=es.take i++e::es.drop i) gz.h fB.h.sz rfl rfl rfl (by exact .tmp rfl rfl) (by exact .tmp rfl rfl) (by omega) (by omega) (by rw[List.length_singleton]; omega) (by simp; omega) (aoq (e:=e) hlt) (by omega)) (fun _=>?_)
 refine h_ ?_
 refine fe ?_
 refine aI (eG (v:=(.slice (some ⟨k0,0,none⟩) (es.length+1) (c+3))) (.tmp rfl rfl)) ?_
 refine aI (lD (v:=(.slice (some ⟨k0,0,none⟩) (es.length+1) (c+3))) (.tmp rfl rfl)) ?_
 refine h_ ?_
 refine anw (t:=6) (k:=k0) (l:=es.length+1) (c:=c) rfl rfl ?_
 refine Ff ?_
 rw[hel]
 exact iX (⟨some ⟨k0,0,none⟩,es.length+1,2⟩,F) (.tmp rfl rfl .nil) rfl (.sel (.cons .h .nil))
theorem aad{ag:List Fact}{ae:Sv}{qa:List Nat}{kT:Int}{fQ:List Fact}{bJ:Sv}{avQ:List Nat}{R:List Fact}(hF:Ho ag kT fQ=some R):
   Fw.Spec Tryz.prog 261 [ae.v,.int .i64 kT,bJ.v] [aQ (aP 147 iT) qa ae.v ag,aQ (aP 147 iT) avQ bJ.v fQ] (fun p:Sv×List Nat=>p.1.v) (fun p=>[aQ (aP 147 iT) p.2 p.1.v R]):=by
 unfold Ho at hF
 rcases fQ with _|⟨a,_|⟨_,_⟩⟩
 · simp at hF
 · dsimp only at hF
   split at hF
   · rename_i h
     obtain⟨h0,h1,h2⟩:=h
     obtain⟨i,rfl⟩:∃i:Nat,kT=(i:Int):=⟨kT.toNat,by omega⟩
     cases hF
     rw[Int.toNat_natCast]at h1 ⊢
     exact al8 (s:=2) fun es e Fa Fb hl=>ahr es e ae bJ Fa Fb i (by omega) (by omega)
   · simp at hF
 · simp at hF
def NB(ak:List Fact)(bu:Fact):Option ((List Fact)):=
 (MW ak bu).bind fun r2=>
 if r2 then (
   some ak)
 else (
   (Q8 ak bu).bind fun r5=>
   if (decide ((r5:Int)<0))then (
     (EI bu).bind fun r8=>
     (Ho ak (ak.length:Int) ([r8]:List Fact)).bind fun ig=>
     some ig)
   else (
     (EI bu).bind fun fI=>
     (Ho ak r5 ([fI]:List Fact)).bind fun Dj=>
     some Dj))
theorem alF{ak:List Fact}{ae:Sv}{qa:List Nat}{bu:Fact}{aR:Sv}{R:(List Fact)}(hF:NB ak bu=some R):
   Fw.Spec Tryz.prog 194 [ae.v,(zg [(zi bu.Rel),aR.v])] [nO qa ae ak,ah aR bu.Values] (fun p:Sv×List Nat=>p.1.v) (fun p=>[nO p.2 p.1 R]):=by
 refine Se 23 Tryz.func194 [.tmp 4] ?_
 intro H0 F0
 unfold NB at hF
 refine au ?_
 refine bB (fun k1=>?_)
 refine aZ ?_
 refine bnd hF fun r2 hx3 hF=>dZ (.cons (.t .h) (.rd (.t .h) rfl .nil)) (lF bU (fun _=>.nil) (dB aqQ.h bZ (@akq ak ae bu aR _ hx3))) (fun _=>?_)
 refine au ?_
 refine Ci hF (fun Ab hF=>?_) (fun Ab hF=>?_)
 · refine aV ?_
   cases hF
   exact Er (ae,qa)
 refine bq ?_
 refine aI (uK (fn:=.func 259) (vs:=[]) (us:=[(pz k1)]) .nil bZ) ?_
 refine bnd hF fun r5 hx6 hF=>dZ (.cons .h (.rd .h rfl (.rd (.t .h) rfl .nil))) (lF bU (fun _=>.nil) (dB aeH.h bZ (@ag6 ak ae k1 bu aR _ hx6))) (fun _=>?_)
 refine bf ?_
 refine Ci hF (fun lg hF=>?_) (fun lg hF=>?_)
 · refine dK ?_
   refine bnd hF fun r8 bP hF=>eZ (Wh bP) (fun og=>?_)
   refine dQ rfl (cz (g:=true) gz.h fB.h bZ (vs:=[(zg [(zi r8.Rel),og.1.v])]) rfl rfl rfl (by intro v hv; simp at hv; rcases hv with rfl<;>rfl)) (fun k11=>?_)
   refine dP (.cons .h (.cons .h .nil)) (cK (Ro:=iT) (E:=147) (F:=(og.2++[])) (xs:=([r8]:List Fact)) (gq Cr cB dz) rfl rfl) ?_
   refine bnd hF fun ig jr hF=>eZ (@aad _ _ _ _ _ (⟨(some ⟨k11,0,none⟩),1,1⟩) _ _ jr) (fun Dq=>?_)
   refine bq ?_
   cases hF
   exact Er (Dq.1,Dq.2)
 refine aV ?_
 refine bnd hF fun fI hx16 hF=>eZ (Wh hx16) (fun p17=>?_)
 refine dQ rfl (cz (g:=true) gz.h fB.h bZ (vs:=[(zg [(zi fI.Rel),p17.1.v])]) rfl rfl rfl (by intro v hv; simp at hv; rcases hv with rfl<;>rfl)) (fun k18=>?_)
 refine dP (.cons .h (.cons .h .nil)) (cK (Ro:=iT) (E:=147) (F:=(p17.2++[])) (xs:=([fI]:List Fact)) (gq Cr cB dz) rfl rfl) ?_
 refine bnd hF fun Dj lT hF=>eZ (@aad _ _ _ _ _ (⟨(some ⟨k18,0,none⟩),1,1⟩) _ _ lT) (fun qi=>?_)
 refine bq ?_
 cases hF
 exact Er (qi.1,qi.2)
def EA(pQ:List Int):Nat->Int->Option (Int)
 |0,_=>none
 |GU+1,Dt=>(Dz pQ Dt).bind fun r98=>
   if r98 then (
     EA pQ GU (IntKind.i64.wrap (Dt+1)))
   else (
     some Dt)
def EB(jE:List Int)(kU:List Int):List Atom->Nat->(List Fact)->Option ((List Fact)×aY×Bool)
 |[],Ad,Gg=>some (Gg,(⟨jE,kU⟩:aY),true)
 |UT::yY,Ad,Gg=>(Jk UT (⟨jE,kU⟩:aY)).bind fun agi=>
   (NB Gg agi).bind fun agj=>
   EB jE kU yY (Ad+1) agj
def EC(ai:Query)(pQ:List Int)(r4:(List Int))(fuel:Nat):Nat->(List Int)->(List Int)->Int->Int->Option ((List Fact)×aY×Bool)
 |0,_,_,_,_=>none
 |GV+1,jE,kU,QT,xZ=>if (decide ((xZ:Int)<(r4.length:Int)))then (
     (((ix r4 xZ).bind fun x83=>
       (EA pQ fuel QT).bind fun VF=>
       match VF with
       |Ae=>(EL Ae).bind fun agk=>
         if (!agk)then (
           some (.inl ([],(⟨[],[]⟩:aY),false)))
         else (
           (app jE ([x83]:List Int)).bind fun agl=>
           (app kU ([Ae]:List Int)).bind fun agm=>
           some (.inr (agl,agm,(IntKind.i64.wrap (Ae+1)))))):Option (Sum ((List Fact)×aY×Bool) ((List Int)×(List Int)×Int))).bind fun o78=>
     match o78 with
     | .inl r=>some r
     | .inr (c116,c119,sI)=>EC ai pQ r4 fuel GV c116 c119 sI (IntKind.i64.wrap (xZ+1)))
   else (
     EB jE kU ai.Atoms 0 ([]:List Fact))
def Nu(fuel:Nat)(ai:Query)(pQ:List Int):Option ((List Fact)×aY×Bool):=
 (Jj ai).bind fun r4=>
 EC ai pQ r4 fuel (((r4.length:Int)-0).toNat+2) ([]:List Int) ([]:List Int) 0 0
theorem ak9{fuel:Nat}{ai:Query}{ae ay:Sv}{pQ:List Int}{aC:Sv}{R:(List Fact)×aY×Bool}(hF:Nu fuel ai pQ=some R):
   Fw.Spec Tryz.prog 185 [(zg [ae.v,ay.v]),aC.v] [ah ae ai.Head,bH ay ai.Atoms,ah aC pQ] (fun p:Sv×List Nat×Sv×List Nat×Sv×List Nat=>(.tuple [p.1.v,(zg [p.2.2.1.v,p.2.2.2.2.1.v]),(.bool R.2.2)].toArray)) (fun p=>[nO p.2.1 p.1 R.1,bC p.2.2.2.1 p.2.2.1 R.2.1.Vars,bC p.2.2.2.2.2 p.2.2.2.2.1 R.2.1.Values]):=by
 refine Se 62 Tryz.func185 [.tmp 4,.cell 5 136,.tmp 6] ?_
 intro H0 F0
 unfold Nu at hF
 refine au ?_
 refine bB (fun k1=>?_)
 refine au ?_
 refine dH (fun k2=>?_)
 refine bq ?_
 refine aI (jm dV.h rfl (vs:=[]) .nil (cells:=[(.slice none 0 0),(.slice none 0 0)]) rfl) ?_
 refine dH (fun k3=>?_)
 refine As (.agg ([(.slice none 0 0),(.slice none 0 0)]:List Value).toArray) ?_
 refine bf ?_
 refine bnd hF fun r4 hx5 hF=>eZ (abY hx5) (fun p6=>?_)
 refine bq ?_
 refine bn (bF (m:=(((r4.length:Int)-0).toNat+2)) (fun GV f' cs'=>∃(g:Fr)(jE kU:List Int)(QT xZ:Int)(v63:Sv)(rU:List Nat)(v66:Sv)(wJ:List Nat),f'=aM g [(1,aC.v),(2,(pz k1)),(5,(pz k2)),(7,(pz k3)),(8,(zi QT)),(16,p6.1.v),(17,(zi (r4.length:Int))),(18,(zi xZ))]/\aL cs' [ah aC pQ,bi k1 39 (zg [ae.v,ay.v]),ah ae ai.Head,bH ay ai.Atoms,b_ k2 136 (.agg ([(.slice none 0 0),(.slice none 0 0)]:List Value).toArray),b_ k3 136 (zg [v63.v,v66.v]),bC rU v63 jE,bC wJ v66 kU,bC p6.2 p6.1 r4]/\EC ai pQ r4 fuel GV jE kU QT xZ=some R) ⟨_,_,_,_,_,⟨none,0,0⟩,[],⟨none,0,0⟩,[],aA,(.conv .nil (iD (Ro:=(aG aK)) (E:=3)) (.cons .nil) (.conv .nil (iD (Ro:=(aG aK)) (E:=3)) (.cons .nil) az)),hF⟩ ?_)
 rintro GV _ _ ⟨g71,jE,kU,QT,xZ,v63,rU,v66,wJ,rfl,hE,hF⟩
 refine bD hE ?_
 rcases GV with _|GV
 · rw[EC]at hF
   exact absurd hF (by simp)
 rw[EC]at hF
 refine aU ?_
 refine Ci hF (fun asl hF=>?_) (fun asl hF=>?_)
 · refine au ?_
   obtain⟨o78,asn,agn⟩:=bind_some hF
   refine gX (fun f' cs'=>∃(c116 c119:List Int)(sI:Int)(v117:Sv)(ZB:List Nat)(UU:Sv)(ZC:List Nat)(g:Fr),o78= .inr (c116,c119,sI)/\f'=aM g [(1,aC.v),(2,(pz k1)),(5,(pz k2)),(7,(pz k3)),(8,(zi sI)),(16,p6.1.v),(17,(zi (r4.length:Int))),(18,(zi xZ))]/\aL cs' [ah aC pQ,bi k1 39 (zg [ae.v,ay.v]),ah ae ai.Head,bH ay ai.Atoms,b_ k2 136 (.agg ([(.slice none 0 0),(.slice none 0 0)]:List Value).toArray),b_ k3 136 (zg [v117.v,UU.v]),bC ZB v117 c116,bC ZC UU c119,bC p6.2 p6.1 r4]) ?_ ?_
   · replace hF:=asn
     refine bn (fe ?_)
     refine bnd hF fun x83 agp hF=>?_
     have avR:=Fg agp
     obtain⟨aC8,UJ⟩:=yO agp
     refine mY dh.h dw.h.sz (.tmp rfl rfl) (.tmp rfl rfl) .q8 avR (fun rV avS=>?_)
     refine NR (w:=(zi x83)) rP.h (.tmp rfl rfl) .q8 avS UJ TQ ?_
     refine aW ?_
     obtain⟨VF,aso,avT⟩:=bind_some hF
     refine gX (fun f' cs'=>∃(Ae:Int)(g:Fr),Ae=VF/\f'=aM g [(1,aC.v),(2,(pz k1)),(5,(pz k2)),(7,(pz k3)),(8,(zi Ae)),(10,(zi x83)),(16,p6.1.v),(17,(zi (r4.length:Int))),(18,(zi xZ))]/\aL cs' [ah aC pQ,bi k1 39 (zg [ae.v,ay.v]),ah ae ai.Head,bH ay ai.Atoms,b_ k2 136 (.agg ([(.slice none 0 0),(.slice none 0 0)]:List Value).toArray),b_ k3 136 (zg [v63.v,v66.v]),bC rU v63 jE,bC wJ v66 kU,bC p6.2 p6.1 r4]) ?_ ?_
     · replace hF:=aso
       refine bn (bF (m:=fuel) (fun GU f' cs'=>∃(g:Fr)(Dt:Int),f'=aM g [(1,aC.v),(2,(pz k1)),(5,(pz k2)),(7,(pz k3)),(8,(zi Dt)),(10,(zi x83)),(16,p6.1.v),(17,(zi (r4.length:Int))),(18,(zi xZ))]/\aL cs' [ah aC pQ,bi k1 39 (zg [ae.v,ay.v]),ah ae ai.Head,bH ay ai.Atoms,b_ k2 136 (.agg ([(.slice none 0 0),(.slice none 0 0)]:List Value).toArray),b_ k3 136 (zg [v63.v,v66.v]),bC rU v63 jE,bC wJ v66 kU,bC p6.2 p6.1 r4]/\EA pQ GU Dt=some VF) ⟨_,_,aA,az,hF⟩ ?_)
       rintro GU _ _ ⟨g91,Dt,rfl,hE,hF⟩
       refine bD hE ?_
       rcases GU with _|GU
       · rw[EA]at hF
         exact absurd hF (by simp)
       rw[EA]at hF
       refine aU ?_
       refine bnd hF fun r98 hx99 hF=>aX (VL hx99) (fun _=>?_)
       refine au ?_
       refine Ci hF (fun asq hF=>?_) (fun asq hF=>?_)
       · refine au ?_
         refine bn (EJ (Cm (zi Dt) rfl rfl ?_))
         refine bq ?_
         exact⟨GU,bG _,_,_,aA,az,hF⟩
       exact bO hF
     rintro _ _ ⟨Ae,aC9,rfl,rfl,hE⟩
     replace hF:=avT
     try dsimp only at hF
     refine bD hE ?_
     refine bq ?_
     refine bnd hF fun agk hx104 hF=>aX (RO hx104) (fun _=>?_)
     refine aW ?_
     refine Ci hF (fun Yo hF=>?_) (fun Yo hF=>?_)
     · refine au ?_
       refine aI (jm dV.h rfl (vs:=[]) .nil (cells:=[(.slice none 0 0),(.slice none 0 0)]) rfl) ?_
       refine au ?_
       refine As (.agg ([(.slice none 0 0),(.slice none 0 0)]:List Value).toArray) ?_
       refine bq ?_
       cases hF
       replace hF:=agn
       try dsimp only at hF
       cases hF
       exact iX (⟨none,0,0⟩,[],⟨none,0,0⟩,[],⟨none,0,0⟩,[]) (.tmp rfl rfl (.cellA rfl rfl .h rfl ku.h dV.h.sz rfl rfl (.tmp rfl rfl .nil))) rfl (.conv .nil (iD (Ro:=iT) (E:=147)) (.cons .nil) (.conv .nil (iD (Ro:=(aG aK)) (E:=3)) (.cons .nil) (.conv .nil (iD (Ro:=(aG aK)) (E:=3)) (.cons .nil) (.sel (.cons .q2 (.cons (.t .h) (.cons .h .nil)))))))
     refine au ?_
     refine dE [0,1,2,3,5,6,7,8,4,10,9,11,12,13] [0,1,0,4,15,0,32,0,128,511,127,2047,4095,8191] [4,9,11,13] mixed (by decide+kernel) ?_
     refine du ?_
     refine fA rfl .no .q5 (fun ha hp=>gu (v:=v63.v) ji.h (EN ha (.tmp rfl rfl) rfl) hp.2 rfl rfl) ?_
     refine du ?_
     refine jI rfl .no rfl (fun ha=>cz (g:=true) (len:=1) (parts:=[(0,.tmp 33)]) dh.h dw.h (.cons (EN ha (.tmp rfl rfl) rfl) .nil) (vs:=[(zi x83)]) rfl rfl rfl (by intro v hv; simp at hv; rcases hv with rfl<;>rfl)) (fun aC_=>?_)
     refine jO (.cons .h .nil) (cK (Ro:=(aG aK)) (E:=3) (F:=([]++[])) (xs:=([x83]:List Int)) (gq (jF (fun _=>rfl)) cB dz) rfl rfl) ?_
     refine du ?_
     refine fA rfl .no .q6 (fun ha hp=>gu (v:=v66.v) ji.h (EN ha (.tmp rfl rfl) rfl) hp.2 rfl rfl) ?_
     refine du ?_
     refine jI rfl .no rfl (fun ha=>cz (g:=true) (len:=1) (parts:=[(0,.tmp 38)]) dh.h dw.h (.cons (EN ha (.tmp rfl rfl) rfl) .nil) (vs:=[(zi Ae)]) rfl rfl rfl (by intro v hv; simp at hv; rcases hv with rfl<;>rfl)) (fun aC'=>?_)
     refine jO (.cons .h .nil) (cK (Ro:=(aG aK)) (E:=3) (F:=([]++[])) (xs:=([Ae]:List Int)) (gq (jF (fun _=>rfl)) cB dz) rfl rfl) ?_
     refine bnd hF fun agl Oc hF=>eU rfl rfl .no (.cons .q8 (.cons (.t .h) .nil)) (.own .h (by simp[aQ]) (.own .q6 (fun _ h=>h) (.dep rfl (.dep rfl .nil)))) (fun ha=>fT (Ro:=(aG aK)) dh.h kF dw.h rfl rfl rfl (EN ha (.tmp rfl rfl) rfl) (EN ha (.tmp rfl rfl) rfl) Oc iF) (fun UV=>?_)
     refine du ?_
     refine bnd hF fun agm hx112 hF=>eU rfl rfl .no (.cons .q8 (.cons (.t .h) .nil)) (.dep rfl (.dep rfl (.dep rfl (.dep rfl .nil)))) (fun ha=>fT (Ro:=(aG aK)) dh.h kF dw.h rfl rfl rfl (EN ha (.tmp rfl rfl) rfl) (EN ha (.tmp rfl rfl) rfl) hx112 iF) (fun ZE=>?_)
     refine eU rfl rfl .no (.cons .q7 .nil) (.dep rfl (.dep rfl (.dep rfl (.dep rfl .nil)))) (fun ha=>kg (e':=(zg [UV.1.v,v66.v])) uf.h.sz (EN ha (.tmp rfl rfl) rfl) (EN ha (.tmp rfl rfl) rfl) rfl rfl rfl rfl rfl) (fun _=>?_)
     refine du ?_
     refine eU rfl rfl .no (.cons .h .nil) (.dep rfl (.dep rfl (.dep rfl (.dep rfl .nil)))) (fun ha=>kg (e':=(zg [UV.1.v,ZE.1.v])) uf.h.sz (EN ha (.tmp rfl rfl) rfl) (EN ha (.tmp rfl rfl) rfl) rfl rfl rfl rfl rfl) (fun _=>?_)
     refine du ?_
     refine aV ?_
     cases hF
     exact⟨_,_,_,UV.1,UV.2,ZE.1,ZE.2,_,rfl,aA,az⟩
   rintro _ _ ⟨c116,c119,sI,v117,ZB,UU,ZC,aDa,rfl,rfl,hE⟩
   replace hF:=agn
   try dsimp only at hF
   refine bD hE ?_
   refine aU ?_
   exact⟨GV,bG _,_,_,_,_,_,v117,ZB,UU,ZC,aA,az,hF⟩
 refine aV ?_
 refine dQ rfl (cz (g:=true) gz.h fB.h .nil (vs:=[]) rfl rfl rfl (by simp)) (fun agq=>?_)
 refine dP (.cons .h .nil) (cK (Ro:=iT) (E:=147) (F:=[]) (xs:=([]:List Fact)) cB rfl rfl) ?_
 refine dK ?_
 refine bn (bF (m:=ai.Atoms.length) (fun ags f' cs'=>∃(g:Fr)(Ad:Nat)(yY:List Atom)(Gg:List Fact)(UW:Sv)(ZF:List Nat),ags=yY.length/\f'=aM g [(5,(pz k2)),(7,(pz k3)),(11,UW.v),(48,ay.v),(49,(zi (ai.Atoms.length:Int))),(50,(zi (Ad:Int)))]/\List.drop Ad ai.Atoms=yY/\aL cs' [b_ k2 136 (.agg ([(.slice none 0 0),(.slice none 0 0)]:List Value).toArray),b_ k3 136 (zg [v63.v,v66.v]),bC rU v63 jE,bC wJ v66 kU,nO ZF UW Gg,bH ay ai.Atoms]/\EB jE kU yY Ad Gg=some R) ⟨_,0,_,_,⟨(some ⟨agq,0,none⟩),0,1⟩,(agq::[]),rfl,aA,rfl,az,hF⟩ ?_)
 rintro ags _ _ ⟨aDb,Ad,yY,Gg,UW,ZF,rfl,rfl,T9,hE,hF⟩
 refine Kb hE ai.Atoms (fun axW=>?_)
 rcases yY with _|⟨UT,yY⟩
 · have asr:=dn T9
   rw[EB]at hF
   refine aU ?_
   refine bR ?_
   refine aU ?_
   refine dE [0,1,2,3,4] [0,0,1,7,15] [3] mixed (by decide+kernel) ?_
   refine du ?_
   refine fA rfl .no (.t .h) (fun ha hp=>lC ku.h dV.h.sz rfl (EN ha (.tmp rfl rfl) rfl) hp.2 rfl) ?_
   refine du ?_
   refine eU rfl rfl .no (.cons .h .nil) (.dep rfl .nil) (fun ha=>kg (e':=(zg [v63.v,v66.v])) (v:=(zg [v63.v,v66.v])) dV.h.sz (EN ha (.tmp rfl rfl) rfl) (EN ha (.tmp rfl rfl) rfl) rfl rfl rfl rfl rfl) (fun _=>?_)
   refine bS ?_
   refine au ?_
   cases hF
   exact iX (UW,ZF,v63,rU,v66,wJ) (.tmp rfl rfl (.cellA rfl rfl .h rfl ku.h dV.h.sz rfl rfl (.tmp rfl rfl .nil))) rfl (.sel (.cons .q4 (.cons .q2 (.cons .q2 .nil))))
 obtain⟨asr,Ym,ass⟩:=bN T9
 rw[EB]at hF
 refine aU ?_
 refine bQ ?_
 refine bq ?_
 refine Ai Ym (fun JV avU=>?_)
 refine iM (oV UT) pO (fun avV=>?_)
 refine dH (fun aDc=>?_)
 refine As (zg [(zi UT.Rel),avV.v]) ?_
 refine aV ?_
 refine bnd hF fun agi ast hF=>Yx (.cons .q6 (.cons .q5 (.rd (.t .h) rfl .nil))) (mV (pre:=_) (.cons bU (.cons bU .nil)) (fun _=>(.cons .nil)) (zk (.rd .q2 rfl (.rd .h rfl (.rd (.t .h) rfl .nil))) (dB aqO.h bZ (ak8 ast)))) (fun aDd=>?_)
 refine aps .q2 bU ?_
 refine bnd hF fun agj asu hF=>eZ (alF asu) (fun agt=>?_)
 refine aZ ?_
 rw[wk Ad]
 exact⟨_,bG _,_,Ad+1,yY,_,agt.1,agt.2,rfl,aA,ass,az,hF⟩
def BG(aj:aY):List Int->Nat->(List Int)->Option ((List Int))
 |[],k10,c4=>some c4
 |lv::nL,k10,c4=>(wS aj lv).bind fun l5=>
   (app c4 ([l5]:List Int)).bind fun z25=>
   BG aj nL (k10+1) z25
def I6(ai:Query)(aj:aY):Option ((List Int)):=
 BG aj ai.Head 0 ([]:List Int)
theorem aby{ai:Query}{ae ay:Sv}{aj:aY}{aC aR:Sv}{R:(List Int)}(hF:I6 ai aj=some R):
   Fw.Spec Tryz.prog 108 [(zg [ae.v,ay.v]),(zg [aC.v,aR.v])] [ah ae ai.Head,bH ay ai.Atoms,ah aC aj.Vars,ah aR aj.Values] (fun p:Sv×List Nat=>p.1.v) (fun p=>[bC p.2 p.1 R]):=by
 refine Se 24 Tryz.func108 [.tmp 4] ?_
 intro H0 F0
 unfold I6 at hF
 refine au ?_
 refine bB (fun k1=>?_)
 refine bB (fun k2=>?_)
 refine bq ?_
 refine dQ rfl (cz (g:=true) dh.h dw.h .nil (vs:=[]) rfl rfl rfl (by simp)) (fun k3=>?_)
 refine dP (.cons .h .nil) (cK (Ro:=(aG aK)) (E:=3) (F:=[]) (xs:=([]:List Int)) cB rfl rfl) ?_
 refine dK ?_
 refine bn (bF (m:=ai.Head.length) (fun m8 f' cs'=>∃(g:Fr)(k10:Nat)(nL c4:List Int)(v5:Sv)(F6:List Nat),m8=nL.length/\f'=aM g [(3,(pz k2)),(5,v5.v),(10,ae.v),(11,(zi (ai.Head.length:Int))),(12,(zi (k10:Int)))]/\List.drop k10 ai.Head=nL/\aL cs' [bi k2 136 (zg [aC.v,aR.v]),ah aC aj.Vars,ah aR aj.Values,bC F6 v5 c4,ah ae ai.Head]/\BG aj nL k10 c4=some R) ⟨_,0,_,_,⟨(some ⟨k3,0,none⟩),0,1⟩,(k3::[]),rfl,aA,rfl,az,hF⟩ ?_)
 rintro m8 _ _ ⟨g9,k10,nL,c4,v5,F6,rfl,rfl,Ps,hE,hF⟩
 refine Kb hE ai.Head (fun arM=>?_)
 rcases nL with _|⟨lv,nL⟩
 · have Y5:=dn Ps
   rw[BG]at hF
   refine aU ?_
   refine bR ?_
   refine dK ?_
   cases hF
   exact Er (v5,F6)
 obtain⟨Y5,jS,JP⟩:=bN Ps
 rw[BG]at hF
 refine aU ?_
 refine bQ ?_
 refine bq ?_
 refine Ai jS (fun k19 Ke=>?_)
 refine Al bY ?_
 refine aZ ?_
 refine bnd hF fun l5 sJ hF=>aX (RQ sJ) (fun _=>?_)
 refine dQ rfl (cz (g:=true) dh.h dw.h bZ (vs:=[(zi l5)]) rfl rfl rfl (by intro v hv; simp at hv; rcases hv with rfl<;>rfl)) (fun k24=>?_)
 refine dP (.cons .h .nil) (cK (Ro:=(aG aK)) (E:=3) (F:=([]++[])) (xs:=([l5]:List Int)) (gq (jF (fun _=>rfl)) cB dz) rfl rfl) ?_
 refine bnd hF fun z25 nk hF=>dZ (.cons .q5 (.cons .h .nil)) (fT (Ro:=(aG aK)) dh.h kF dw.h rfl rfl rfl (.tmp rfl rfl) (.tmp rfl rfl) nk iF) (fun p27=>?_)
 refine aZ ?_
 rw[wk k10]
 exact⟨_,bG _,_,k10+1,nL,_,p27.1,p27.2,rfl,aA,JP,az,hF⟩
def RG(aj:aY):Option (aY):=
 (x_ aj.Vars).bind fun r3=>
 (x_ aj.Values).bind fun r6=>
 some (⟨r3,r6⟩:aY)
theorem aia{aj:aY}{ae ay:Sv}{R:aY}(hF:RG aj=some R):
   Fw.Spec Tryz.prog 327 [(zg [ae.v,ay.v])] [ah ae aj.Vars,ah ay aj.Values] (fun p:Sv×List Nat×Sv×List Nat=>(zg [p.1.v,p.2.2.1.v])) (fun p=>[bC p.2.1 p.1 R.Vars,bC p.2.2.2 p.2.2.1 R.Values]):=by
 refine Se 10 Tryz.func327 [.cell 2 136] ?_
 intro H0 F0
 unfold RG at hF
 refine au ?_
 refine bB (fun k1=>?_)
 refine dH (fun k2=>?_)
 refine au ?_
 refine dE [0,1,3,4,2,5,6,7] [0,1,3,0,8,31,63,127] [2,5,7] mixed (by decide+kernel) ?_
 refine o9 ?_
 refine bnd hF fun r3 hx4 hF=>Aw (KG hx4) (fun p5=>?_)
 refine bnd hF fun r6 hx7 hF=>Aw (KG hx7) (fun p8=>?_)
 refine dX rfl .no (fun ha=>jm dV.h rfl (vs:=[p5.1.v,p8.1.v]) (.cons (EN ha (.tmp rfl rfl) rfl) (.cons (EN ha (.tmp rfl rfl) rfl) .nil)) (cells:=[p5.1.v,p8.1.v]) rfl) ?_
 refine eU rfl rfl .no (.cons .q2 .nil) .nil (fun ha=>kg (e':=(zg [p5.1.v,p8.1.v])) (v:=(zg [p5.1.v,p8.1.v])) dV.h.sz (EN ha (.tmp rfl rfl) rfl) (EN ha (.tmp rfl rfl) rfl) rfl rfl rfl rfl rfl) (fun _=>?_)
 refine du ?_
 refine au ?_
 cases hF
 exact Er (p5.1,p5.2,p8.1,p8.2)
def Ed(bu:Fact):List Int->Nat->(List Int)->(List Int)->Option (aY×Bool)
 |[],pM,c80,wK=>some ((⟨c80,wK⟩:aY),true)
 |x91::zD,pM,c80,wK=>((((yX x91).bind fun ZG=>
       bif ZG then ((DZ (⟨c80,wK⟩:aY) x91).bind fun agu=>
         some (decide ((agu:Int)<0)))
       else (some false)).bind fun ZH=>
     match ZH with
     |PS=>if PS then (
         (ix bu.Values (pM:Int)).bind fun x113=>
         (app c80 ([x91]:List Int)).bind fun ZI=>
         (app wK ([x113]:List Int)).bind fun ZJ=>
         (ix bu.Values (pM:Int)).bind fun agv=>
         (wS (⟨ZI,ZJ⟩:aY) x91).bind fun agw=>
         if ((agw:Int)!=agv)then (
           some (.inl ((⟨[],[]⟩:aY),false)))
         else (
           some (.inr (ZI,ZJ))))
       else (
         (ix bu.Values (pM:Int)).bind fun agx=>
         (wS (⟨c80,wK⟩:aY) x91).bind fun agy=>
         if ((agy:Int)!=agx)then (
           some (.inl ((⟨[],[]⟩:aY),false)))
         else (
           some (.inr (c80,wK))))):Option (Sum (aY×Bool) ((List Int)×(List Int)))).bind fun o98=>
   match o98 with
   | .inl r=>some r
   | .inr (c148,PT)=>Ed bu zD (pM+1) c148 PT
def LW(aj:aY)(aa:Atom)(bu:Fact):Option (aY×Bool):=
 if (((aa.Rel:Int)!=bu.Rel)||((((aa.Terms.length:Int):Int)!=(bu.Values.length:Int))||(((aj.Vars.length:Int):Int)!=(aj.Values.length:Int))))then (
   some ((⟨[],[]⟩:aY),false))
 else (
   (RG aj).bind fun r8=>
   Ed bu aa.Terms 0 r8.Vars r8.Values)
theorem ai2{aj:aY}{ae ay:Sv}{aa:Atom}{aR:Sv}{bu:Fact}{eP:Sv}{R:aY×Bool}(hF:LW aj aa bu=some R):
   Fw.Spec Tryz.prog 308 [(zg [ae.v,ay.v]),(zg [(zi aa.Rel),aR.v]),(zg [(zi bu.Rel),eP.v])] [ah ae aj.Vars,ah ay aj.Values,ah aR aa.Terms,ah eP bu.Values] (fun p:Sv×List Nat×Sv×List Nat=>(.tuple [(zg [p.1.v,p.2.2.1.v]),(.bool R.2)].toArray)) (fun p=>[bC p.2.1 p.1 R.1.Vars,bC p.2.2.2 p.2.2.1 R.1.Values]):=by
 refine Se 81 Tryz.func308 [.cell 6 136,.tmp 7] ?_
 intro H0 F0
 unfold LW at hF
 refine au ?_
 refine bB (fun k1=>?_)
 refine bB (fun k2=>?_)
 refine bB (fun k3=>?_)
 refine dH (fun k4=>?_)
 refine aU ?_
 refine fE (fun f' cs'=>∃(g:Fr),f'=aM g [(3,(pz k1)),(4,(pz k2)),(5,(pz k3)),(6,(pz k4)),(33,(.bool (((aa.Rel:Int)!=bu.Rel)||((((aa.Terms.length:Int):Int)!=(bu.Values.length:Int))||(((aj.Vars.length:Int):Int)!=(aj.Values.length:Int))))))]/\aL cs' [bi k1 136 (zg [ae.v,ay.v]),ah ae aj.Vars,ah ay aj.Values,bi k2 123 (zg [(zi aa.Rel),aR.v]),ah aR aa.Terms,bi k3 147 (zg [(zi bu.Rel),eP.v]),ah eP bu.Values,b_ k4 136 (.agg ([(.slice none 0 0),(.slice none 0 0)]:List Value).toArray)]) ?_ ?_
 · refine aZ ?_
   rcases bL ((aa.Rel:Int)!=bu.Rel)with hg5|hg5
   · rw[hg5]
     try rw[hg5]at hF; dsimp only[aO,aN]at hF
     refine aeM ?_
     exact⟨_,aA,az⟩
   rw[hg5]
   try rw[hg5]at hF; dsimp only[aO,aN]at hF
   refine N_ ?_
   rcases bL (((aa.Terms.length:Int):Int)!=(bu.Values.length:Int))with gm|gm
   · rw[gm]
     try rw[gm]at hF; dsimp only[aO,aN]at hF
     refine dK ?_
     exact⟨_,aA,az⟩
   rw[gm]
   try rw[gm]at hF; dsimp only[aO,aN]at hF
   refine N_ ?_
   exact⟨_,aA,az⟩
 rintro _ _ ⟨g7,rfl,hE⟩
 refine bD hE ?_
 refine Ci hF (fun asv hF=>?_) (fun asv hF=>?_)
 · refine au ?_
   refine aI (jm dV.h rfl (vs:=[]) .nil (cells:=[(.slice none 0 0),(.slice none 0 0)]) rfl) ?_
   refine As (.agg ([(.slice none 0 0),(.slice none 0 0)]:List Value).toArray) ?_
   refine bq ?_
   cases hF
   exact iX (⟨none,0,0⟩,[],⟨none,0,0⟩,[]) (.cellA rfl rfl .h rfl ku.h dV.h.sz rfl rfl (.tmp rfl rfl .nil)) rfl (.conv .nil (iD (Ro:=(aG aK)) (E:=3)) (.cons .nil) (.conv .nil (iD (Ro:=(aG aK)) (E:=3)) (.cons .nil) (.sel (.cons (.t .h) (.cons .h .nil)))))
 refine bq ?_
 refine bnd hF fun r8 bP hF=>Dg (aia bP) (fun og=>?_)
 refine dH (fun k11=>?_)
 refine As (zg [og.1.v,og.2.2.1.v]) ?_
 refine di ?_
 refine bn (bF (m:=aa.Terms.length) (fun m87 f' cs'=>∃(g:Fr)(pM:Nat)(zD c80 wK:List Int)(v81:Sv)(QU:List Nat)(v84:Sv)(QV:List Nat),m87=zD.length/\f'=aM g [(5,(pz k3)),(6,(pz k4)),(8,(pz k11)),(38,aR.v),(39,(zi (aa.Terms.length:Int))),(40,(zi (pM:Int)))]/\List.drop pM aa.Terms=zD/\aL cs' [bi k3 147 (zg [(zi bu.Rel),eP.v]),ah eP bu.Values,b_ k4 136 (.agg ([(.slice none 0 0),(.slice none 0 0)]:List Value).toArray),b_ k11 136 (zg [v81.v,v84.v]),bC QU v81 c80,bC QV v84 wK,ah aR aa.Terms]/\Ed bu zD pM c80 wK=some R) ⟨_,0,_,_,_,og.1,og.2.1,og.2.2.1,og.2.2.2,rfl,aA,rfl,az,hF⟩ ?_)
 rintro m87 _ _ ⟨g88,pM,zD,c80,wK,v81,QU,v84,QV,rfl,rfl,agz,hE,hF⟩
 refine Kb hE aa.Terms (fun aAd=>?_)
 rcases zD with _|⟨x91,zD⟩
 · have avW:=dn agz
   rw[Ed]at hF
   refine aU ?_
   refine bR ?_
   refine aZ ?_
   refine As (zg [v81.v,v84.v]) ?_
   refine bq ?_
   cases hF
   exact iX (v81,QU,v84,QV) (.cellA rfl rfl .h rfl ku.h dV.h.sz rfl rfl (.tmp rfl rfl .nil)) rfl (.sel (.cons .q4 (.cons .q4 .nil)))
 obtain⟨avW,Y_,hd95⟩:=bN agz
 rw[Ed]at hF
 refine aU ?_
 refine bQ ?_
 refine au ?_
 obtain⟨o98,asw,ZK⟩:=bind_some hF
 refine gX (fun f' cs'=>∃(c148 PT:List Int)(UX:Sv)(ZL:List Nat)(v152:Sv)(ZM:List Nat)(g:Fr),o98= .inr (c148,PT)/\f'=aM g [(5,(pz k3)),(6,(pz k4)),(8,(pz k11)),(38,aR.v),(39,(zi (aa.Terms.length:Int))),(40,(zi (pM:Int)))]/\aL cs' [bi k3 147 (zg [(zi bu.Rel),eP.v]),ah eP bu.Values,b_ k4 136 (.agg ([(.slice none 0 0),(.slice none 0 0)]:List Value).toArray),b_ k11 136 (zg [UX.v,v152.v]),bC ZL UX c148,bC ZM v152 PT,ah aR aa.Terms]) ?_ ?_
 · replace hF:=asw
   refine bn (fe (Cm (zi (pM:Int)) rfl rfl ?_))
   refine Ai Y_ (fun au_ aDe=>?_)
   refine Al bY ?_
   refine aU ?_
   obtain⟨ZH,ao1,asx⟩:=bind_some hF
   refine au ?_
   refine fE (fun f' cs'=>∃(PS:Bool)(g:Fr),PS=ZH/\f'=aM g [(5,(pz k3)),(6,(pz k4)),(8,(pz k11)),(9,(zi (pM:Int))),(10,(zi x91)),(38,aR.v),(39,(zi (aa.Terms.length:Int))),(40,(zi (pM:Int))),(52,(.bool PS))]/\aL cs' [bi k3 147 (zg [(zi bu.Rel),eP.v]),ah eP bu.Values,b_ k4 136 (.agg ([(.slice none 0 0),(.slice none 0 0)]:List Value).toArray),b_ k11 136 (zg [v81.v,v84.v]),bC QU v81 c80,bC QV v84 wK,ah aR aa.Terms]) ?_ ?_
   · replace hF:=ao1
     refine au ?_
     refine bnd hF fun ZG asy hF=>aX (IU asy) (fun _=>?_)
     refine au ?_
     rcases bL ZG with Oj|Oj
     · rw[Oj]
       try rw[Oj]at hF; dsimp only[aO,aN]at hF
       refine aV ?_
       refine bnd hF fun agu Oc hF=>su (.cons .q6 (.cons .q5 .nil)) (mV (pre:=[]) (.cons bU (.cons bU .nil)) (fun _=>.nil) (dB aqP.h bZ (aaA Oc))) (fun _=>?_)
       exact bO hF
     rw[Oj]
     try rw[Oj]at hF; dsimp only[aO,aN]at hF
     exact bO hF
   rintro _ _ ⟨PS,aDf,rfl,rfl,hE⟩
   replace hF:=asx
   try dsimp only at hF
   refine bD hE ?_
   refine Ci hF (fun asz hF=>?_) (fun asz hF=>?_)
   · refine oW [0,1,2,3,5,6,7,8,9,10,11,12,4,14,13,15,16,17] [0,1,0,4,15,0,32,0,128,0,896,1920,3968,8191,127,32767,65535,131071] [4,13,15,17] mixed (by decide+kernel) ?_
     refine du ?_
     refine fA rfl .no .q3 (fun ha hp=>gu (v:=v81.v) ji.h (EN ha (.tmp rfl rfl) rfl) hp.2 rfl rfl) ?_
     refine du ?_
     refine jI rfl .no rfl (fun ha=>cz (g:=true) (len:=1) (parts:=[(0,.tmp 55)]) dh.h dw.h (.cons (EN ha (.tmp rfl rfl) rfl) .nil) (vs:=[(zi x91)]) rfl rfl rfl (by intro v hv; simp at hv; rcases hv with rfl<;>rfl)) (fun ava=>?_)
     refine jO (.cons .h .nil) (cK (Ro:=(aG aK)) (E:=3) (F:=([]++[])) (xs:=([x91]:List Int)) (gq (jF (fun _=>rfl)) cB dz) rfl rfl) ?_
     refine du ?_
     refine fA rfl .no .q4 (fun ha hp=>gu (v:=v84.v) ji.h (EN ha (.tmp rfl rfl) rfl) hp.2 rfl rfl) ?_
     refine dI ?_
     refine zI hF fun x113 aAe Yk hF=>?_
     refine Di Yk (fun aDg aDh=>?_)
     refine Dl bY ?_
     refine jI rfl .no rfl (fun ha=>cz (g:=true) (len:=1) (parts:=[(0,.tmp 64)]) dh.h dw.h (.cons (EN ha (.tmp rfl rfl) rfl) .nil) (vs:=[(zi x113)]) rfl rfl rfl (by intro v hv; simp at hv; rcases hv with rfl<;>rfl)) (fun aDi=>?_)
     refine jO (.cons .h .nil) (cK (Ro:=(aG aK)) (E:=3) (F:=([]++[])) (xs:=([x113]:List Int)) (gq (jF (fun _=>rfl)) cB dz) rfl rfl) ?_
     refine bnd hF fun ZI T_ hF=>eU rfl rfl .no (.cons .q7 (.cons .q2 .nil)) (.own .h (by simp[aQ]) (.own .q5 (fun _ h=>h) (.dep rfl (.dep rfl .nil)))) (fun ha=>fT (Ro:=(aG aK)) dh.h kF dw.h rfl rfl rfl (EN ha (.tmp rfl rfl) rfl) (EN ha (.tmp rfl rfl) rfl) T_ iF) (fun UY=>?_)
     refine du ?_
     refine bnd hF fun ZJ Yj hF=>eU rfl rfl .no (.cons .q7 (.cons (.t .h) .nil)) (.dep rfl (.dep rfl (.dep rfl (.dep rfl .nil)))) (fun ha=>fT (Ro:=(aG aK)) dh.h kF dw.h rfl rfl rfl (EN ha (.tmp rfl rfl) rfl) (EN ha (.tmp rfl rfl) rfl) Yj iF) (fun ZN=>?_)
     refine eU rfl rfl .no (.cons .q6 .nil) (.dep rfl (.dep rfl (.dep rfl (.dep rfl .nil)))) (fun ha=>kg (e':=(zg [UY.1.v,v84.v])) uf.h.sz (EN ha (.tmp rfl rfl) rfl) (EN ha (.tmp rfl rfl) rfl) rfl rfl rfl rfl rfl) (fun _=>?_)
     refine du ?_
     refine eU rfl rfl .no (.cons .h .nil) (.dep rfl (.dep rfl (.dep rfl (.dep rfl .nil)))) (fun ha=>kg (e':=(zg [UY.1.v,ZN.1.v])) uf.h.sz (EN ha (.tmp rfl rfl) rfl) (EN ha (.tmp rfl rfl) rfl) rfl rfl rfl rfl rfl) (fun _=>?_)
     refine du ?_
     refine dE [0,1,3,4,5,6,7,2,8] [0,0,3,0,8,0,56,120,255] [2] mixed (by decide+kernel) ?_
     refine fA rfl .no .h (fun ha hp=>lC ku.h dV.h.sz rfl (EN ha (.tmp rfl rfl) rfl) hp.2 rfl) ?_
     refine o9 ?_
     refine zI hF fun agv aAf asA hF=>?_
     refine Di asA (fun aDj aDk=>?_)
     refine Dl bY ?_
     refine bnd hF fun agw Yh hF=>uS rfl rfl .no (.cons .q2 (.cons .q2 .nil)) (.dep rfl .nil) (fun ha=>mV (pre:=[]) (.cons bU (.cons bU .nil)) (fun _=>.nil) (dB X8.h (.cons (EN ha (.tmp rfl rfl) rfl) (.cons (EN ha (.tmp rfl rfl) rfl) .nil)) (RQ Yh))) (fun _=>?_)
     refine bS ?_
     refine Ci hF (fun asB hF=>?_) (fun asB hF=>?_)
     · refine au ?_
       refine aI (jm dV.h rfl (vs:=[]) .nil (cells:=[(.slice none 0 0),(.slice none 0 0)]) rfl) ?_
       refine As (.agg ([(.slice none 0 0),(.slice none 0 0)]:List Value).toArray) ?_
       refine bq ?_
       cases hF
       replace hF:=ZK
       try dsimp only at hF
       cases hF
       exact iX (⟨none,0,0⟩,[],⟨none,0,0⟩,[]) (.cellA rfl rfl .h rfl ku.h dV.h.sz rfl rfl (.tmp rfl rfl .nil)) rfl (.conv .nil (iD (Ro:=(aG aK)) (E:=3)) (.cons .nil) (.conv .nil (iD (Ro:=(aG aK)) (E:=3)) (.cons .nil) (.sel (.cons (.t .h) (.cons .h .nil)))))
     refine au ?_
     cases hF
     exact⟨_,_,UY.1,UY.2,ZN.1,ZN.2,_,rfl,aA,az⟩
   refine au ?_
   refine dE [0,1,3,4,5,6,7,2,8] [0,0,3,0,8,0,56,120,255] [2] mixed (by decide+kernel) ?_
   refine fA rfl .no .q3 (fun ha hp=>lC ku.h dV.h.sz rfl (EN ha (.tmp rfl rfl) rfl) hp.2 rfl) ?_
   refine o9 ?_
   refine zI hF fun agx aAg asC hF=>?_
   refine Di asC (fun JV avU=>?_)
   refine Dl bY ?_
   refine bnd hF fun agy asD hF=>uS rfl rfl .no (.cons .q6 (.cons .q5 .nil)) (.dep rfl .nil) (fun ha=>mV (pre:=[]) (.cons bU (.cons bU .nil)) (fun _=>.nil) (dB X8.h (.cons (EN ha (.tmp rfl rfl) rfl) (.cons (EN ha (.tmp rfl rfl) rfl) .nil)) (RQ asD))) (fun _=>?_)
   refine bS ?_
   refine Ci hF (fun asE hF=>?_) (fun asE hF=>?_)
   · refine au ?_
     refine aI (jm dV.h rfl (vs:=[]) .nil (cells:=[(.slice none 0 0),(.slice none 0 0)]) rfl) ?_
     refine As (.agg ([(.slice none 0 0),(.slice none 0 0)]:List Value).toArray) ?_
     refine bq ?_
     cases hF
     replace hF:=ZK
     try dsimp only at hF
     cases hF
     exact iX (⟨none,0,0⟩,[],⟨none,0,0⟩,[]) (.cellA rfl rfl .h rfl ku.h dV.h.sz rfl rfl (.tmp rfl rfl .nil)) rfl (.conv .nil (iD (Ro:=(aG aK)) (E:=3)) (.cons .nil) (.conv .nil (iD (Ro:=(aG aK)) (E:=3)) (.cons .nil) (.sel (.cons (.t .h) (.cons .h .nil)))))
   refine au ?_
   cases hF
   exact⟨_,_,v81,QU,v84,QV,_,rfl,aA,az⟩
 rintro _ _ ⟨c148,PT,UX,ZL,v152,ZM,aDl,rfl,rfl,hE⟩
 replace hF:=ZK
 try dsimp only at hF
 refine bD hE ?_
 refine aU ?_
 rw[wk pM]
 exact⟨_,bG _,_,pM+1,zD,_,_,UX,ZL,v152,ZM,rfl,aA,hd95,az,hF⟩
def Bv(aa:Atom)(eB:aY):List Fact->Nat->(List aY)->Option ((List aY))
 |[],pI,c24=>some c24
 |x32::zF,pI,c24=>((LW eB aa x32).bind fun GX=>
     if GX.2 then (
       (app c24 ([GX.1]:List aY)).bind fun z50=>
       some z50)
     else (
       some c24)).bind fun GQ=>
   match GQ with
   |QW=>Bv aa eB zF (pI+1) QW
def Bw(aa:Atom)(dW:List Fact):List aY->Nat->(List aY)->Option ((List aY))
 |[],k9,c3=>some c3
 |eB::dU,k9,c3=>(Bv aa eB dW 0 c3).bind fun kJ=>
   match kJ with
   |c59=>Bw aa dW dU (k9+1) c59
def Sl(ql:List aY)(aa:Atom)(dW:List Fact):Option ((List aY)):=
 Bw aa dW ql 0 ([]:List aY)
theorem ajE{ql:List aY}{ae:Sv}{aa:Atom}{aR:Sv}{dW:List Fact}{bJ:Sv}{R:(List aY)}(hF:Sl ql aa dW=some R):
   Fw.Spec Tryz.prog 288 [ae.v,(zg [(zi aa.Rel),aR.v]),bJ.v] [tY ae ql,ah aR aa.Terms,dY bJ dW] (fun p:Sv×List Nat=>p.1.v) (fun p=>[rE p.2 p.1 R]):=by
 refine Se 42 Tryz.func288 [.tmp 6] ?_
 intro H0 F0
 unfold Sl at hF
 refine au ?_
 refine bB (fun k1=>?_)
 refine bq ?_
 refine dQ rfl (cz (g:=true) zM.h dV.h .nil (vs:=[]) rfl rfl rfl (by simp)) (fun k2=>?_)
 refine dP (.cons .h .nil) (cK (Ro:=qx) (E:=136) (F:=[]) (xs:=([]:List aY)) cB rfl rfl) ?_
 refine di ?_
 refine bn (bF (m:=ql.length) (fun m7 f' cs'=>∃(g:Fr)(k9:Nat)(dU c3:List aY)(v4:Sv)(F5:List Nat),m7=dU.length/\f'=aM g [(2,bJ.v),(4,(pz k1)),(7,v4.v),(15,ae.v),(16,(zi (ql.length:Int))),(17,(zi (k9:Int)))]/\List.drop k9 ql=dU/\aL cs' [dY bJ dW,bi k1 123 (zg [(zi aa.Rel),aR.v]),ah aR aa.Terms,rE F5 v4 c3,tY ae ql]/\Bw aa dW dU k9 c3=some R) ⟨_,0,_,_,⟨(some ⟨k2,0,none⟩),0,1⟩,(k2::[]),rfl,aA,rfl,az,hF⟩ ?_)
 rintro m7 _ _ ⟨g8,k9,dU,c3,v4,F5,rfl,rfl,lI,hE,hF⟩
 refine Kb hE ql (fun Jy=>?_)
 rcases dU with _|⟨eB,dU⟩
 · have sH:=dn lI
   rw[Bw]at hF
   refine aU ?_
   refine bR ?_
   refine dK ?_
   cases hF
   exact Er (v4,F5)
 obtain⟨sH,iy,qb⟩:=bN lI
 rw[Bw]at hF
 refine aU ?_
 refine bQ ?_
 refine au ?_
 obtain⟨kJ,uZ,vD⟩:=bind_some hF
 refine gX (fun f' cs'=>∃(c59:List aY)(v60:Sv)(Gw:List Nat)(g:Fr),c59=kJ/\f'=aM g [(2,bJ.v),(4,(pz k1)),(7,v60.v),(15,ae.v),(16,(zi (ql.length:Int))),(17,(zi (k9:Int)))]/\aL cs' [dY bJ dW,bi k1 123 (zg [(zi aa.Rel),aR.v]),ah aR aa.Terms,rE Gw v60 c59,tY ae ql]) ?_ ?_
 · replace hF:=uZ
   refine bn (fe (zH (a:=eB) zM.h dV.h.sz (.tmp rfl rfl) (.tmp rfl rfl) .q4 (Int.natCast_nonneg k9) iy (fun k20 pF=>?_)))
   refine zT (Iz eB) LJ (fun mq=>?_)
   refine dH (fun k23=>?_)
   refine As (zg [mq.1.v,mq.2.v]) ?_
   refine aZ ?_
   refine bn (bF (m:=dW.length) (fun m28 f' cs'=>∃(g:Fr)(pI:Nat)(zF:List Fact)(c24:List aY)(v25:Sv)(VG:List Nat),m28=zF.length/\f'=aM g [(2,bJ.v),(4,(pz k1)),(7,v25.v),(9,(pz k23)),(15,ae.v),(16,(zi (ql.length:Int))),(17,(zi (k9:Int))),(21,bJ.v),(22,(zi (dW.length:Int))),(23,(zi (pI:Int)))]/\List.drop pI dW=zF/\aL cs' [dY bJ dW,bi k1 123 (zg [(zi aa.Rel),aR.v]),ah aR aa.Terms,rE VG v25 c24,b_ k23 136 (zg [mq.1.v,mq.2.v]),ah mq.1 eB.Vars,ah mq.2 eB.Values,tY ae ql]/\Bv aa eB zF pI c24=some kJ) ⟨_,0,_,_,v4,F5,rfl,aA,rfl,az,hF⟩ ?_)
   rintro m28 _ _ ⟨g29,pI,zF,c24,v25,VG,rfl,rfl,JK,hE,hF⟩
   refine Kb hE dW (fun aAh=>?_)
   rcases zF with _|⟨x32,zF⟩
   · have avX:=dn JK
     rw[Bv]at hF
     refine aU ?_
     refine bR ?_
     refine aU ?_
     cases hF
     exact⟨_,v25,VG,_,rfl,aA,az⟩
   obtain⟨avX,qH,UR⟩:=bN JK
   rw[Bv]at hF
   refine aU ?_
   refine bQ ?_
   refine au ?_
   obtain⟨GQ,Yn,ZA⟩:=bind_some hF
   refine gX (fun f' cs'=>∃(QW:List aY)(v55:Sv)(F56:List Nat)(g:Fr),QW=GQ/\f'=aM g [(2,bJ.v),(4,(pz k1)),(7,v55.v),(9,(pz k23)),(15,ae.v),(16,(zi (ql.length:Int))),(17,(zi (k9:Int))),(21,bJ.v),(22,(zi (dW.length:Int))),(23,(zi (pI:Int)))]/\aL cs' [dY bJ dW,bi k1 123 (zg [(zi aa.Rel),aR.v]),ah aR aa.Terms,rE F56 v55 QW,b_ k23 136 (zg [mq.1.v,mq.2.v]),ah mq.1 eB.Vars,ah mq.2 eB.Values,tY ae ql]) ?_ ?_
   · replace hF:=Yn
     refine bn (fe (zH (a:=x32) gz.h fB.h.sz (.tmp rfl rfl) (.tmp rfl rfl) .h (Int.natCast_nonneg pI) qH (fun qh Ka=>?_)))
     refine iM (oh x32) oU (fun p43=>?_)
     refine dH (fun Vs=>?_)
     refine As (zg [(zi x32.Rel),p43.v]) ?_
     refine aV ?_
     refine bnd hF fun GX Ac hF=>Dg (ai2 Ac) (fun p47=>?_)
     refine au ?_
     refine zx ?_
     refine zx ?_
     refine dH (fun k48=>?_)
     refine As (zg [p47.1.v,p47.2.2.1.v]) ?_
     refine aV ?_
     refine Ci hF (fun Zu hF=>?_) (fun Zu hF=>?_)
     · refine bq ?_
       refine dQ rfl (cz (g:=true) zM.h dV.h bZ (vs:=[(zg [p47.1.v,p47.2.2.1.v])]) rfl rfl rfl (by intro v hv; simp at hv; rcases hv with rfl<;>rfl)) (fun Vw=>?_)
       refine dP (.cons .h (.cons (.t .h) (.cons (.t .h) .nil))) (cK (Ro:=qx) (E:=136) (F:=((p47.2.1++p47.2.2.2)++[])) (xs:=([GX.1]:List aY)) (gq TS cB dz) rfl rfl) ?_
       refine bnd hF fun z50 ZO hF=>dZ (.cons .q8 (.cons .h .nil)) (fT (Ro:=qx) zM.h aeD dV.h rfl rfl rfl (.tmp rfl rfl) (.tmp rfl rfl) ZO iF) (fun p52=>?_)
       refine aW ?_
       cases hF
       exact⟨_,p52.1,p52.2,_,rfl,aA,az⟩
     refine au ?_
     cases hF
     exact⟨_,v25,VG,_,rfl,aA,az⟩
   rintro _ _ ⟨QW,v55,F56,g58,rfl,rfl,hE⟩
   replace hF:=ZA
   try dsimp only at hF
   refine bD hE ?_
   refine aU ?_
   rw[wk pI]
   exact⟨_,bG _,_,pI+1,zF,_,v55,F56,rfl,aA,UR,az,hF⟩
 rintro _ _ ⟨c59,v60,Gw,g63,rfl,rfl,hE⟩
 replace hF:=vD
 try dsimp only at hF
 refine bD hE ?_
 refine aU ?_
 rw[wk k9]
 exact⟨_,bG _,_,k9+1,dU,_,v60,Gw,rfl,aA,qb,az,hF⟩
end Go.Proofs.YtdmapdjncfkhhaaGreatDoor
