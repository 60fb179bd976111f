/-
  Functions of the program as Lean functions, and that the calls return what these say: part 2. No conditions.
-/
import Derived.Shelf.Sort.Plain
import Derived.Shelf.Slices.In.SortNone
import Derived.Shelf.Slices.CompactI
import Derived.Shelf.Strings.OnBuilder
import Derived.Shelf.Strconv.Itoa3
import Derived.Test.YtdmapdjncfkhhaaGreatDoorPlanLineG0
import Derived.KernelRfl
set_option maxRecDepth 100000
set_option maxHeartbeats 1000000
set_option linter.unusedVariables false
namespace Go.Proofs.YtdmapdjncfkhhaaGreatDoor
open Go Go.Fw

def EH(ak:List Int)(bg:Int):Nat->(List Int)->Bool->Int->Option ((List Int))
 |0,_,_,_=>none
 |m10+1,c5,c8,c9=>if (decide ((c9:Int)<(ak.length:Int)))then (
     ((bif (!c8)then ((ix ak c9).bind fun oO=>
           some (decide ((bg:Int)<oO)))
         else (some false)).bind fun sU=>
       match sU with
       |ww=>if ww then (
           (app c5 ([bg]:List Int)).bind fun z32=>
           (ix ak c9).bind fun x38=>
           (app z32 ([x38]:List Int)).bind fun z43=>
           some (z43,true))
         else (
           (ix ak c9).bind fun QG=>
           (app c5 ([QG]:List Int)).bind fun z54=>
           some (z54,c8))).bind fun kJ=>
     match kJ with
     |(c59,jE)=>EH ak bg m10 c59 jE (IntKind.i64.wrap (c9+1)))
   else (
     if (!c8)then (
       (app c5 ([bg]:List Int)).bind fun z65=>
       some z65)
     else (
       some c5))
def E5(ak:List Int)(bg:Int):Option ((List Int)):=
 (xc ak bg).bind fun r1=>
 if r1 then (
   some ak)
 else (
   EH ak bg (((ak.length:Int)-0).toNat+2) ([]:List Int) false 0)
theorem WQ{ak:List Int}{ae:Sv}{qa:List Nat}{bg:Int}{R:(List Int)}(hF:E5 ak bg=some R):
   Fw.Spec Tryz.prog 152 [ae.v,(zi bg)] [bC qa ae ak] (fun p:Sv×List Nat=>p.1.v) (fun p=>[bC p.2 p.1 R]):=by
 refine Se 47 Tryz.func152 [.tmp 4] ?_
 intro H0 F0
 unfold E5 at hF
 refine bf ?_
 refine bnd hF fun r1 hx2 hF=>dZ (.cons .h .nil) (lF bU (fun _=>.nil) (dB OD.h bZ (IQ hx2))) (fun _=>?_)
 refine au ?_
 refine Ci hF (fun auI hF=>?_) (fun auI hF=>?_)
 · refine aV ?_
   cases hF
   exact Er (ae,qa)
 refine aW ?_
 refine dQ rfl (cz (g:=true) dh.h dw.h .nil (vs:=[]) rfl rfl rfl (by simp)) (fun k4=>?_)
 refine dP (.cons .h .nil) (cK (Ro:=(aG aK)) (E:=3) (F:=[]) (xs:=([]:List Int)) cB rfl rfl) ?_
 refine dK ?_
 refine bn (bF (m:=(((ak.length:Int)-0).toNat+2)) (fun m10 f' cs'=>∃(g:Fr)(c5:List Int)(c8:Bool)(c9:Int)(v6:Sv)(F7:List Nat),f'=aM g [(0,ae.v),(1,(zi bg)),(5,v6.v),(6,(.bool c8)),(7,(zi c9))]/\aL cs' [bC qa ae ak,bC F7 v6 c5]/\EH ak bg m10 c5 c8 c9=some R) ⟨_,_,_,_,⟨(some ⟨k4,0,none⟩),0,1⟩,(k4::[]),aA,az,hF⟩ ?_)
 rintro m10 _ _ ⟨g11,c5,c8,c9,v6,F7,rfl,hE,hF⟩
 refine bD hE ?_
 rcases m10 with _|m10
 · rw[EH]at hF
   exact absurd hF (by simp)
 rw[EH]at hF
 refine bf ?_
 refine Ci hF (fun YQ hF=>?_) (fun YQ hF=>?_)
 · refine au ?_
   obtain⟨kJ,uZ,vD⟩:=bind_some hF
   refine gX (fun f' cs'=>∃(c59:List Int)(jE:Bool)(v60:Sv)(Gw:List Nat)(g:Fr),kJ=(c59,jE)/\f'=aM g [(0,ae.v),(1,(zi bg)),(5,v60.v),(6,(.bool jE)),(7,(zi c9))]/\aL cs' [bC qa ae ak,bC Gw v60 c59]) ?_ ?_
   · replace hF:=uZ
     refine bn (qC ?_)
     obtain⟨sU,Oa,O_⟩:=bind_some hF
     refine au ?_
     refine fE (fun f' cs'=>∃(ww:Bool)(g:Fr),ww=sU/\f'=aM g [(0,ae.v),(1,(zi bg)),(5,v6.v),(6,(.bool c8)),(7,(zi c9)),(28,(.bool ww))]/\aL cs' [bC qa ae ak,bC F7 v6 c5]) ?_ ?_
     · replace hF:=Oa
       refine bq ?_
       rcases bL (!c8)with Pb|Pb
       · rw[Pb]
         try rw[Pb]at hF; dsimp only[aO,aN]at hF
         refine aV ?_
         refine bnd hF fun oO hx27 hF=>?_
         have auJ:=Fg hx27
         obtain⟨auK,hx29⟩:=yO hx27
         refine mY dh.h dw.h.sz (.tmp rfl rfl) (.tmp rfl rfl) .h auJ (fun k23 YR=>?_)
         refine au ?_
         refine NR (w:=(zi oO)) rP.h (.tmp rfl rfl) .h YR hx29 TQ ?_
         exact bO hF
       rw[Pb]
       try rw[Pb]at hF; dsimp only[aO,aN]at hF
       exact bO hF
     rintro _ _ ⟨ww,g58,rfl,rfl,hE⟩
     replace hF:=O_
     try dsimp only at hF
     refine bD hE ?_
     refine Ci hF (fun YS hF=>?_) (fun YS hF=>?_)
     · refine bq ?_
       refine dQ rfl (cz (g:=true) dh.h dw.h bZ (vs:=[(zi bg)]) rfl rfl rfl (by intro v hv; simp at hv; rcases hv with rfl<;>rfl)) (fun k31=>?_)
       refine dP (.cons .h .nil) (cK (Ro:=(aG aK)) (E:=3) (F:=([]++[])) (xs:=([bg]:List Int)) (gq (jF (fun _=>rfl)) cB dz) rfl rfl) ?_
       refine bnd hF fun z32 vz hF=>dZ (.cons .q2 (.cons .h .nil)) (fT (Ro:=(aG aK)) dh.h kF dw.h rfl rfl rfl (.tmp rfl rfl) (.tmp rfl rfl) vz iF) (fun p34=>?_)
       refine dK ?_
       refine bnd hF fun x38 hx39 hF=>?_
       have auL:=Fg hx39
       obtain⟨auM,mJ⟩:=yO hx39
       refine mY dh.h dw.h.sz (.tmp rfl rfl) (.tmp rfl rfl) (.t .h) auL (fun iB OI=>?_)
       refine NR (w:=(zi x38)) rP.h (.tmp rfl rfl) (.t .h) OI mJ TQ ?_
       refine dQ rfl (cz (g:=true) dh.h dw.h bZ (vs:=[(zi x38)]) rfl rfl rfl (by intro v hv; simp at hv; rcases hv with rfl<;>rfl)) (fun k42=>?_)
       refine dP (.cons .h .nil) (cK (Ro:=(aG aK)) (E:=3) (F:=([]++[])) (xs:=([x38]:List Int)) (gq (jF (fun _=>rfl)) cB dz) rfl rfl) ?_
       refine bnd hF fun z43 Cw hF=>dZ (.cons (.t .h) (.cons .h .nil)) (fT (Ro:=(aG aK)) dh.h kF dw.h rfl rfl rfl (.tmp rfl rfl) (.tmp rfl rfl) Cw iF) (fun p45=>?_)
       refine aW ?_
       cases hF
       exact⟨_,_,p45.1,p45.2,_,rfl,aA,az⟩
     refine aV ?_
     refine bnd hF fun QG JM hF=>?_
     have auN:=Fg JM
     obtain⟨aBI,JN⟩:=yO JM
     refine mY dh.h dw.h.sz (.tmp rfl rfl) (.tmp rfl rfl) .h auN (fun Vv auO=>?_)
     refine NR (w:=(zi QG)) rP.h (.tmp rfl rfl) .h auO JN TQ ?_
     refine dQ rfl (cz (g:=true) dh.h dw.h bZ (vs:=[(zi QG)]) rfl rfl rfl (by intro v hv; simp at hv; rcases hv with rfl<;>rfl)) (fun k53=>?_)
     refine dP (.cons .h .nil) (cK (Ro:=(aG aK)) (E:=3) (F:=([]++[])) (xs:=([QG]:List Int)) (gq (jF (fun _=>rfl)) cB dz) rfl rfl) ?_
     refine bnd hF fun z54 lQ hF=>dZ (.cons .q2 (.cons .h .nil)) (fT (Ro:=(aG aK)) dh.h kF dw.h rfl rfl rfl (.tmp rfl rfl) (.tmp rfl rfl) lQ iF) (fun p56=>?_)
     refine aW ?_
     cases hF
     exact⟨_,_,p56.1,p56.2,_,rfl,aA,az⟩
   rintro _ _ ⟨c59,jE,v60,Gw,g63,rfl,rfl,hE⟩
   replace hF:=vD
   try dsimp only at hF
   refine bD hE ?_
   refine aV ?_
   exact⟨m10,bG _,_,_,_,_,v60,Gw,aA,az,hF⟩
 refine dK ?_
 refine Ci hF (fun auP hF=>?_) (fun auP hF=>?_)
 · refine bq ?_
   refine dQ rfl (cz (g:=true) dh.h dw.h bZ (vs:=[(zi bg)]) rfl rfl rfl (by intro v hv; simp at hv; rcases hv with rfl<;>rfl)) (fun k64=>?_)
   refine dP (.cons .h .nil) (cK (Ro:=(aG aK)) (E:=3) (F:=([]++[])) (xs:=([bg]:List Int)) (gq (jF (fun _=>rfl)) cB dz) rfl rfl) ?_
   refine bnd hF fun z65 auQ hF=>dZ (.cons .q2 (.cons .h .nil)) (fT (Ro:=(aG aK)) dh.h kF dw.h rfl rfl rfl (.tmp rfl rfl) (.tmp rfl rfl) auQ iF) (fun p67=>?_)
   refine bf ?_
   cases hF
   exact Er (p67.1,p67.2)
 refine aZ ?_
 cases hF
 exact Er (v6,F7)
def BJ(eB:Atom):Nat->(List Int)->Int->Option ((List Int))
 |0,_,_=>none
 |m24+1,c20,c23=>if (decide ((c23:Int)<(eB.Terms.length:Int)))then (
     ((ix eB.Terms c23).bind fun x40=>
       (w_ x40).bind fun Az=>
       if Az then (
         (ix eB.Terms c23).bind fun rR=>
         (E5 c20 rR).bind fun QH=>
         some QH)
       else (
         some c20)).bind fun wz=>
     match wz with
     |jE=>BJ eB m24 jE (IntKind.i64.wrap (c23+1)))
   else (
     some c20)
def Ev:List Atom->Nat->(List Int)->Option ((List Int))
 |[],k9,c3=>some c3
 |eB::dU,k9,c3=>(BJ eB (((eB.Terms.length:Int)-0).toNat+2) c3 0).bind fun kJ=>
   match kJ with
   |pJ=>Ev dU (k9+1) pJ
def BU(ai:Query):Option ((List Int)):=
 Ev ai.Atoms 0 ([]:List Int)
theorem R7{ai:Query}{ae ay:Sv}{R:(List Int)}(hF:BU ai=some R):
   Fw.Spec Tryz.prog 69 [(zg [ae.v,ay.v])] [ah ae ai.Head,bH ay ai.Atoms] (fun p:Sv×List Nat=>p.1.v) (fun p=>[bC p.2 p.1 R]):=by
 refine Se 47 Tryz.func69 [.tmp 2] ?_
 intro H0 F0
 unfold BU at hF
 refine au ?_
 refine bB (fun k1=>?_)
 refine bq ?_
 refine dQ rfl (cz (g:=true) dh.h dw.h .nil (vs:=[]) rfl rfl rfl (by simp)) (fun k2=>?_)
 refine dP (.cons .h .nil) (cK (Ro:=(aG aK)) (E:=3) (F:=[]) (xs:=([]:List Int)) cB rfl rfl) ?_
 refine aZ ?_
 refine bn (bF (m:=ai.Atoms.length) (fun m7 f' cs'=>∃(g:Fr)(k9:Nat)(dU:List Atom)(c3:List Int)(v4:Sv)(F5:List Nat),m7=dU.length/\f'=aM g [(1,(pz k1)),(3,v4.v),(4,(zi (k9:Int)))]/\List.drop k9 ai.Atoms=dU/\aL cs' [bi k1 39 (zg [ae.v,ay.v]),ah ae ai.Head,bH ay ai.Atoms,bC F5 v4 c3]/\Ev dU k9 c3=some R) ⟨_,0,_,_,⟨(some ⟨k2,0,none⟩),0,1⟩,(k2::[]),rfl,aA,rfl,az,hF⟩ ?_)
 rintro m7 _ _ ⟨g8,k9,dU,c3,v4,F5,rfl,rfl,lI,hE,hF⟩
 refine Kb hE ai.Atoms (fun Jy=>?_)
 rcases dU with _|⟨eB,dU⟩
 · have sH:=dn lI
   rw[Ev]at hF
   refine di ?_
   refine bR ?_
   refine dK ?_
   cases hF
   exact Er (v4,F5)
 obtain⟨sH,iy,qb⟩:=bN lI
 rw[Ev]at hF
 refine di ?_
 refine bQ ?_
 refine au ?_
 obtain⟨kJ,uZ,vD⟩:=bind_some hF
 refine gX (fun f' cs'=>∃(pJ:List Int)(v68:Sv)(Gx:List Nat)(g:Fr),pJ=kJ/\f'=aM g [(1,(pz k1)),(3,v68.v),(4,(zi (k9:Int)))]/\aL cs' [bi k1 39 (zg [ae.v,ay.v]),ah ae ai.Head,bH ay ai.Atoms,bC Gx v68 pJ]) ?_ ?_
 · replace hF:=uZ
   refine bn (fe (aI (lD (v:=(zi 0)) (.int _ _)) ?_))
   refine au ?_
   refine bn (bF (m:=(((eB.Terms.length:Int)-0).toNat+2)) (fun m24 f' cs'=>∃(g:Fr)(c20:List Int)(c23:Int)(v21:Sv)(rT:List Nat),f'=aM g [(1,(pz k1)),(3,v21.v),(4,(zi (k9:Int))),(5,(zi c23))]/\aL cs' [bi k1 39 (zg [ae.v,ay.v]),ah ae ai.Head,bH ay ai.Atoms,bC rT v21 c20]/\BJ eB m24 c20 c23=some kJ) ⟨_,_,_,v4,F5,aA,az,hF⟩ ?_)
   rintro m24 _ _ ⟨QB,c20,c23,v21,rT,rfl,hE,hF⟩
   refine bD hE ?_
   rcases m24 with _|m24
   · rw[BJ]at hF
     exact absurd hF (by simp)
   rw[BJ]at hF
   refine aZ ?_
   refine Ai iy (fun kI j33=>?_)
   refine au ?_
   refine r_ (R':=(aJ 3 aK)) ji.h (.tmp rfl rfl) .h wZ (fun w34=>?_)
   refine bq ?_
   refine Ci hF (fun FX hF=>?_) (fun FX hF=>?_)
   · refine au ?_
     obtain⟨wz,Ob,Pf⟩:=bind_some hF
     refine gX (fun f' cs'=>∃(jE:List Int)(v63:Sv)(rU:List Nat)(g:Fr),jE=wz/\f'=aM g [(1,(pz k1)),(3,v63.v),(4,(zi (k9:Int))),(5,(zi c23))]/\aL cs' [bi k1 39 (zg [ae.v,ay.v]),ah ae ai.Head,bH ay ai.Atoms,bC rU v63 jE]) ?_ ?_
     · replace hF:=Ob
       refine bn (fe (aI (kK (off:=1) NI.h (.tmp rfl rfl)) ?_))
       refine aW ?_
       refine Ai iy (fun k37 j38=>?_)
       refine au ?_
       refine r_ (R':=(aJ 3 aK)) ji.h (.tmp rfl rfl) .h wZ (fun w39=>?_)
       refine au ?_
       refine zI hF fun x40 afC oD hF=>?_
       refine Ai oD (fun Vs j45=>?_)
       refine Al bY ?_
       refine bnd hF fun Az ui hF=>aX (EG ui) (fun _=>?_)
       refine au ?_
       refine Ci hF (fun FV hF=>?_) (fun FV hF=>?_)
       · refine aV ?_
         refine Ai iy (fun Vw j50=>?_)
         refine au ?_
         refine r_ (R':=(aJ 3 aK)) ji.h (.tmp rfl rfl) .h wZ (fun w51=>?_)
         refine au ?_
         refine zI hF fun rR auR lQ hF=>?_
         refine Ai lQ (fun k56 j57=>?_)
         refine Al bY ?_
         refine bnd hF fun QH Ph hF=>eZ (WQ Ph) (fun p60=>?_)
         refine aW ?_
         cases hF
         exact⟨_,p60.1,p60.2,_,rfl,aA,az⟩
       refine au ?_
       cases hF
       exact⟨_,v21,rT,_,rfl,aA,az⟩
     rintro _ _ ⟨jE,v63,rU,g65,rfl,rfl,hE⟩
     replace hF:=Pf
     try dsimp only at hF
     refine bD hE ?_
     refine aV ?_
     exact⟨m24,bG _,_,_,_,v63,rU,aA,az,hF⟩
   refine aU ?_
   cases hF
   exact⟨_,v21,rT,_,rfl,aA,az⟩
 rintro _ _ ⟨pJ,v68,Gx,g71,rfl,rfl,hE⟩
 replace hF:=vD
 try dsimp only at hF
 refine bD hE ?_
 refine aV ?_
 rw[wk k9]
 exact⟨_,bG _,_,k9+1,dU,_,v68,Gx,rfl,aA,qb,az,hF⟩
def ET(fu:Int):Option (Bool):=
 ((iG fu 0 9).bind fun r3=>
   bif r3 then (some true)
   else ((w_ fu).bind fun r7=>
     some r7)).bind fun o1=>
 match o1 with
 |c10=>some c10
theorem abS{fu:Int}{R:Bool}(hF:ET fu=some R):
   Fw.Spec Tryz.prog 150 [(zi fu)] [] (fun _:Unit=>(.bool R)) (fun _=>[]):=by
 refine Se 9 Tryz.func150 [.tmp 2] ?_
 intro H0 F0
 unfold ET at hF
 refine bq ?_
 obtain⟨o1,qI,hO2⟩:=bind_some hF
 refine au ?_
 refine fE (fun f' cs'=>∃(c10:Bool)(g:Fr),c10=o1/\f'=aM g [(2,(.bool c10))]/\aL cs' []) ?_ ?_
 · replace hF:=qI
   refine au ?_
   refine bnd hF fun r3 hx4 hF=>aX (jl hx4) (fun _=>?_)
   refine au ?_
   rcases bL r3 with gm|gm
   · rw[gm]
     try rw[gm]at hF; dsimp only[aO,aN]at hF
     exact bO hF
   rw[gm]
   try rw[gm]at hF; dsimp only[aO,aN]at hF
   refine bq ?_
   refine bnd hF fun r7 jy hF=>aX (EG jy) (fun _=>?_)
   exact bO hF
 rintro _ _ ⟨c10,g11,rfl,rfl,hE⟩
 replace hF:=hO2
 try dsimp only at hF
 refine bD hE ?_
 exact ze hF
def Ew:List Int->Nat->Option (Bool)
 |[],k22=>some true
 |x24::nI,k22=>(ET x24).bind fun sQ=>
   if (!sQ)then (
     some false)
   else (
     Ew nI (k22+1))
def Nl(ag:List Int)(aa:Atom):Option (Bool):=
 ((rX ag).bind fun r4=>
   bif (!r4)then (some true)
   else ((iG aa.Rel 0 (IntKind.i64.wrap ((ag.length:Int)-1))).bind fun r8=>
     bif (!r8)then (some true)
     else ((ix ag aa.Rel).bind fun lv=>
       some (((aa.Terms.length:Int):Int)!=lv)))).bind fun o2=>
 match o2 with
 |c18=>if c18 then (
     some false)
   else (
     Ew aa.Terms 0)
theorem akZ{ag:List Int}{ae:Sv}{aa:Atom}{aR:Sv}{R:Bool}(hF:Nl ag aa=some R):
   Fw.Spec Tryz.prog 68 [ae.v,(zg [(zi aa.Rel),aR.v])] [ah ae ag,ah aR aa.Terms] (fun _:Unit=>(.bool R)) (fun _=>[]):=by
 refine Se 43 Tryz.func68 [.tmp 4] ?_
 intro H0 F0
 unfold Nl at hF
 refine au ?_
 refine bB (fun k1=>?_)
 refine bq ?_
 obtain⟨o2,gK,hO3⟩:=bind_some hF
 refine dE [0,1,2,3,4,5,6,7,8,9,10,11,12,13,14,15,16,17,18,19,20,21,22] [0,1,3,7,15,31,15,79,207,511,1023,2047,4095,8191,16383,32767,8191,8191,139263,466943,991231,2097151,4194303] [1,9] mixed (by decide+kernel) ?_
 refine mD (fun f' cs'=>∃(c18:Bool)(g:Fr),c18=o2/\f'=aM g [(3,(pz k1)),(28,(.bool c18))]/\aL cs' [bi k1 123 (zg [(zi aa.Rel),aR.v]),ah aR aa.Terms]) ?_ ?_
 · replace hF:=gK
   refine du ?_
   refine bnd hF fun r4 hx5 hF=>dR (yj hx5) (fun _=>?_)
   refine bS ?_
   rcases bL (!r4)with bI|bI
   · rw[bI]
     try rw[bI]at hF; dsimp only[aO,aN]at hF
     exact eO hF
   rw[bI]
   try rw[bI]at hF; dsimp only[aO,aN]at hF
   refine ve ?_
   refine bnd hF fun r8 bP hF=>dR (jl bP) (fun _=>?_)
   refine dI ?_
   rcases bL (!r8)with dJ|dJ
   · rw[dJ]
     try rw[dJ]at hF; dsimp only[aO,aN]at hF
     exact eO hF
   rw[dJ]
   try rw[dJ]at hF; dsimp only[aO,aN]at hF
   refine Cv ?_
   refine zI hF fun lv OO jS hF=>?_
   refine Di jS (fun k16 Gr=>?_)
   refine Dl bY ?_
   exact eO hF
 rintro _ _ ⟨c18,Vu,rfl,rfl,hE⟩
 replace hF:=hO3
 try dsimp only at hF
 refine bD hE ?_
 refine Ci hF (fun zX hF=>?_) (fun zX hF=>?_)
 · exact ze hF
 refine aV ?_
 refine bn (bF (m:=aa.Terms.length) (fun m20 f' cs'=>∃(g:Fr)(k22:Nat)(nI:List Int),m20=nI.length/\f'=aM g [(3,(pz k1)),(5,(zi (k22:Int)))]/\List.drop k22 aa.Terms=nI/\aL cs' [bi k1 123 (zg [(zi aa.Rel),aR.v]),ah aR aa.Terms]/\Ew nI k22=some R) ⟨_,0,_,rfl,aA,rfl,az,hF⟩ ?_)
 rintro m20 _ _ ⟨g21,k22,nI,rfl,rfl,hd25,hE,hF⟩
 refine Kb hE aa.Terms (fun arh=>?_)
 rcases nI with _|⟨x24,nI⟩
 · have YL:=dn hd25
   rw[Ew]at hF
   refine di ?_
   refine bR ?_
   exact ze hF
 obtain⟨YL,hx27,hd28⟩:=bN hd25
 rw[Ew]at hF
 refine di ?_
 refine bQ ?_
 refine aZ ?_
 refine Ai hx27 (fun k31 j32=>?_)
 refine Al bY ?_
 refine bnd hF fun sQ hx34 hF=>aX (abS hx34) (fun _=>?_)
 refine aW ?_
 refine Ci hF (fun OP hF=>?_) (fun OP hF=>?_)
 · exact ze hF
 refine aZ ?_
 rw[wk k22]
 exact⟨_,bG _,_,k22+1,nI,rfl,aA,hd28,az,hF⟩
def BB(ag:List Int)(ai:Query)(jw:(List Int)):List Int->Nat->Option (Bool)
 |[],k20=>((rX ag).bind fun Gy=>
     bif Gy then ((iG (ai.Atoms.length:Int) 1 4).bind fun xX=>
       bif xX then (some (decide (((ai.Head.length:Int):Int)<=3)))
       else (some false))
     else (some false)).bind fun o29=>
   match o29 with
   |wB=>some wB
 |uB::zn,k20=>(xc jw uB).bind fun Qz=>
   if (!Qz)then (
     some false)
   else (
     BB ag ai jw zn (k20+1))
def BC(ag:List Int)(ai:Query):List Atom->Nat->Option (Bool)
 |[],k5=>(BU ai).bind fun jw=>
   BB ag ai jw ai.Head 0
 |x7::bz,k5=>(Nl ag x7).bind fun r51=>
   if (!r51)then (
     some false)
   else (
     BC ag ai bz (k5+1))
def wR(ag:List Int)(ai:Query):Option (Bool):=
 BC ag ai ai.Atoms 0
theorem Il{ag:List Int}{ae:Sv}{ai:Query}{aC aR:Sv}{R:Bool}(hF:wR ag ai=some R):
   Fw.Spec Tryz.prog 28 [ae.v,(zg [aC.v,aR.v])] [ah ae ag,ah aC ai.Head,bH aR ai.Atoms] (fun _:Unit=>(.bool R)) (fun _=>[]):=by
 refine Se 54 Tryz.func28 [.tmp 4] ?_
 intro H0 F0
 unfold wR at hF
 refine au ?_
 refine bB (fun k1=>?_)
 refine aZ ?_
 refine bn (bF (m:=ai.Atoms.length) (fun m3 f' cs'=>∃(g:Fr)(k5:Nat)(bz:List Atom),m3=bz.length/\f'=aM g [(0,ae.v),(3,(pz k1)),(5,(zi (k5:Int)))]/\List.drop k5 ai.Atoms=bz/\aL cs' [ah ae ag,bi k1 39 (zg [aC.v,aR.v]),ah aC ai.Head,bH aR ai.Atoms]/\BC ag ai bz k5=some R) ⟨_,0,_,rfl,aA,rfl,az,hF⟩ ?_)
 rintro m3 _ _ ⟨g4,k5,bz,rfl,rfl,gL,hE,hF⟩
 refine Kb hE ai.Atoms (fun qz=>?_)
 rcases bz with _|⟨x7,bz⟩
 · have jP:=dn gL
   rw[BC]at hF
   refine di ?_
   refine bR ?_
   refine aZ ?_
   refine bnd hF fun jw jS hF=>eZ (R7 jS) (fun p16=>?_)
   refine aZ ?_
   refine bn (bF (m:=ai.Head.length) (fun m18 f' cs'=>∃(g:Fr)(k20:Nat)(zn:List Int),m18=zn.length/\f'=aM g [(0,ae.v),(3,(pz k1)),(6,p16.1.v),(7,(zi (k20:Int)))]/\List.drop k20 ai.Head=zn/\aL cs' [ah ae ag,bi k1 39 (zg [aC.v,aR.v]),ah aC ai.Head,bH aR ai.Atoms,bC p16.2 p16.1 jw]/\BB ag ai jw zn k20=some R) ⟨_,0,_,rfl,aA,rfl,az,hF⟩ ?_)
   rintro m18 _ _ ⟨g19,k20,zn,rfl,rfl,afE,hE,hF⟩
   refine Kb hE ai.Head (fun azW=>?_)
   rcases zn with _|⟨uB,zn⟩
   · have YR:=dn afE
     rw[BB]at hF
     refine di ?_
     refine bR ?_
     refine aU ?_
     obtain⟨o29,ark,auS⟩:=bind_some hF
     refine au ?_
     refine fE (fun f' cs'=>∃(wB:Bool)(g:Fr),wB=o29/\f'=aM g [(4,(.bool wB))]/\aL cs' []) ?_ ?_
     · replace hF:=ark
       refine au ?_
       refine bnd hF fun Gy hx32 hF=>aX (yj hx32) (fun _=>?_)
       refine au ?_
       rcases bL Gy with vE|vE
       · rw[vE]
         try rw[vE]at hF; dsimp only[aO,aN]at hF
         refine bf ?_
         refine bnd hF fun xX uk hF=>aX (jl uk) (fun _=>?_)
         refine aW ?_
         rcases bL xX with Pi|Pi
         · rw[Pi]
           try rw[Pi]at hF; dsimp only[aO,aN]at hF
           exact bO hF
         rw[Pi]
         try rw[Pi]at hF; dsimp only[aO,aN]at hF
         exact bO hF
       rw[vE]
       try rw[vE]at hF; dsimp only[aO,aN]at hF
       exact bO hF
     rintro _ _ ⟨wB,g40,rfl,rfl,hE⟩
     replace hF:=auS
     try dsimp only at hF
     refine bD hE ?_
     exact ze hF
   obtain⟨YR,hx25,xJ⟩:=bN afE
   rw[BB]at hF
   refine di ?_
   refine bQ ?_
   refine bf ?_
   refine Ai hx25 (fun qh Ka=>?_)
   refine Al bY ?_
   refine bnd hF fun Qz Cw hF=>dZ (.cons .q5 .nil) (lF bU (fun _=>.nil) (dB OD.h bZ (IQ Cw))) (fun _=>?_)
   refine aW ?_
   refine Ci hF (fun YK hF=>?_) (fun YK hF=>?_)
   · exact ze hF
   refine aZ ?_
   rw[wk k20]
   exact⟨_,bG _,_,k20+1,zn,rfl,aA,xJ,az,hF⟩
 obtain⟨jP,eX,gD⟩:=bN gL
 rw[BC]at hF
 refine di ?_
 refine bQ ?_
 refine bf ?_
 refine Ai eX (fun k48 j49=>?_)
 refine iM (oV x7) pO (fun p50=>?_)
 refine bnd hF fun r51 JN hF=>aX (akZ JN) (fun _=>?_)
 refine aW ?_
 refine Ci hF (fun Pj hF=>?_) (fun Pj hF=>?_)
 · exact ze hF
 refine aZ ?_
 rw[wk k5]
 exact⟨_,bG _,_,k5+1,bz,rfl,aA,gD,az,hF⟩
def Nn(ag:List Int)(ak:List Method)(ai:Query):Option (Bool):=
 ((Bz ag ak).bind fun r4=>
   bif r4 then ((wR ag ai).bind fun r8=>
     some r8)
   else (some false)).bind fun o2=>
 match o2 with
 |c11=>some c11
theorem ak0{ag:List Int}{ae:Sv}{ak:List Method}{aC:Sv}{ai:Query}{bJ eP:Sv}{R:Bool}(hF:Nn ag ak ai=some R):
   Fw.Spec Tryz.prog 119 [ae.v,aC.v,(zg [bJ.v,eP.v])] [ah ae ag,dD aC ak,ah bJ ai.Head,bH eP ai.Atoms] (fun _:Unit=>(.bool R)) (fun _=>[]):=by
 refine Se 15 Tryz.func119 [.tmp 6] ?_
 intro H0 F0
 unfold Nn at hF
 refine au ?_
 refine bB (fun k1=>?_)
 refine aW ?_
 obtain⟨o2,gK,hO3⟩:=bind_some hF
 refine au ?_
 refine fE (fun f' cs'=>∃(c11:Bool)(g:Fr),c11=o2/\f'=aM g [(6,(.bool c11))]/\aL cs' []) ?_ ?_
 · replace hF:=gK
   refine aW ?_
   refine bnd hF fun r4 hx5 hF=>aX (Rv hx5) (fun _=>?_)
   refine au ?_
   rcases bL r4 with bI|bI
   · rw[bI]
     try rw[bI]at hF; dsimp only[aO,aN]at hF
     refine aV ?_
     refine bnd hF fun r8 bP hF=>aX (Il bP) (fun _=>?_)
     exact bO hF
   rw[bI]
   try rw[bI]at hF; dsimp only[aO,aN]at hF
   exact bO hF
 rintro _ _ ⟨c11,g12,rfl,rfl,hE⟩
 replace hF:=hO3
 try dsimp only at hF
 refine bD hE ?_
 exact ze hF
def Je(kY:Int)(Tm:List Int):Option (Atom):=
 (app ([]:List Int) Tm).bind fun z3=>
 some (⟨kY,z3⟩:Atom)
theorem abT{kY:Int}{Tm:List Int}{aC:Sv}{R:Atom}(hF:Je kY Tm=some R):
   Fw.Spec Tryz.prog 154 [(zi kY),aC.v] [ah aC Tm] (fun p:Sv×List Nat=>(zg [(zi R.Rel),p.1.v])) (fun p=>[bC p.2 p.1 R.Terms]):=by
 refine Se 10 Tryz.func154 [.cell 4 123] ?_
 intro H0 F0
 unfold Je at hF
 refine au ?_
 refine dH (fun k1=>?_)
 refine bq ?_
 refine dQ rfl (cz (g:=true) dh.h dw.h .nil (vs:=[]) rfl rfl rfl (by simp)) (fun k2=>?_)
 refine dP (.cons .h .nil) (cK (Ro:=(aG aK)) (E:=3) (F:=[]) (xs:=([]:List Int)) cB rfl rfl) ?_
 refine au ?_
 refine bnd hF fun z3 hx4 hF=>dZ (.cons .h (.rd (.t .h) rfl .nil)) (fT (Ro:=(aG aK)) dh.h kF dw.h rfl rfl rfl (.tmp rfl rfl) (.tmp rfl rfl) hx4 qp) (fun p5=>?_)
 refine aI (jm ou.h rfl (vs:=[(zi kY),p5.1.v]) bZ (cells:=[(zi kY),p5.1.v]) rfl) ?_
 refine As (zg [(zi kY),p5.1.v]) ?_
 refine aW ?_
 cases hF
 exact Er (p5.1,p5.2)
def BK(z4:List Int):List Atom->Nat->(List Atom)->Option (Query)
 |[],mo,c32=>some (⟨z4,c32⟩:Query)
 |x40::nJ,mo,c32=>(Je x40.Rel x40.Terms).bind fun Vx=>
   (app c32 ([Vx]:List Atom)).bind fun z56=>
   BK z4 nJ (mo+1) z56
def Jf(ai:Query):Option (Query):=
 (app ([]:List Int) ai.Head).bind fun z4=>
 BK z4 ai.Atoms 0 ([]:List Atom)
theorem abU{ai:Query}{ae ay:Sv}{R:Query}(hF:Jf ai=some R):
   Fw.Spec Tryz.prog 124 [(zg [ae.v,ay.v])] [ah ae ai.Head,bH ay ai.Atoms] (fun p:Sv×List Nat×Sv×List Nat=>(zg [p.1.v,p.2.2.1.v])) (fun p=>[bC p.2.1 p.1 R.Head,rD p.2.2.2 p.2.2.1 R.Atoms]):=by
 refine Se 36 Tryz.func124 [.cell 2 39] ?_
 intro H0 F0
 unfold Jf at hF
 refine au ?_
 refine bB (fun k1=>?_)
 refine dH (fun k2=>?_)
 refine aW ?_
 refine dQ rfl (cz (g:=true) dh.h dw.h .nil (vs:=[]) rfl rfl rfl (by simp)) (fun k3=>?_)
 refine dP (.cons .h .nil) (cK (Ro:=(aG aK)) (E:=3) (F:=[]) (xs:=([]:List Int)) cB rfl rfl) ?_
 refine aW ?_
 refine bnd hF fun z4 hx5 hF=>dZ (.cons .h (.rd .q2 rfl .nil)) (fT (Ro:=(aG aK)) dh.h kF dw.h rfl rfl rfl (.tmp rfl rfl) (.tmp rfl rfl) hx5 qp) (fun p6=>?_)
 refine aI (jm rJ.h rfl (vs:=[p6.1.v]) bZ (cells:=[p6.1.v,(.slice none 0 0)]) rfl) ?_
 refine dH (fun k7=>?_)
 refine As (zg [p6.1.v,(.slice none 0 0)]) ?_
 refine aV ?_
 refine bn (bF (m:=ai.Atoms.length) (fun QI f' cs'=>∃(g:Fr)(mo:Nat)(nJ c32:List Atom)(v33:Sv)(Gz:List Nat),QI=nJ.length/\f'=aM g [(1,(pz k1)),(2,(pz k2)),(3,(pz k7)),(4,(zi (mo:Int)))]/\List.drop mo ai.Atoms=nJ/\aL cs' [bi k1 39 (zg [ae.v,ay.v]),ah ae ai.Head,bH ay ai.Atoms,b_ k2 39 (.agg ([(.slice none 0 0),(.slice none 0 0)]:List Value).toArray),b_ k7 39 (zg [p6.1.v,v33.v]),bC p6.2 p6.1 z4,rD Gz v33 c32]/\BK z4 nJ mo c32=some R) ⟨_,0,_,_,⟨none,0,0⟩,[],rfl,aA,rfl,(.conv .nil (iD (Ro:=kM) (E:=123)) (.cons .nil) az),hF⟩ ?_)
 rintro QI _ _ ⟨g37,mo,nJ,c32,v33,Gz,rfl,rfl,vF,hE,hF⟩
 refine Kb hE ai.Atoms (fun arl=>?_)
 rcases nJ with _|⟨x40,nJ⟩
 · have YT:=dn vF
   rw[BK]at hF
   refine di ?_
   refine bR ?_
   refine aZ ?_
   refine As (zg [p6.1.v,v33.v]) ?_
   refine aW ?_
   cases hF
   exact Er (p6.1,p6.2,v33,Gz)
 obtain⟨YT,oD,JO⟩:=bN vF
 rw[BK]at hF
 refine di ?_
 refine bQ ?_
 refine aW ?_
 refine oW [0,1,2,3,4,5,6,7,8,9,10,11,12,13,14,15,16,17,18] [0,1,0,4,0,28,60,124,0,256,0,1792,3840,7936,16380,32764,65535,131071,262143] [14,16,18] mixed (by decide+kernel) ?_
 refine du ?_
 refine fA rfl .no .q4 (fun ha hp=>gu (v:=v33.v) OC.h (EN ha (.tmp rfl rfl) rfl) hp.2 rfl rfl) ?_
 refine dI ?_
 refine Di oD (fun k47 j48=>?_)
 refine du ?_
 refine Dl XA ?_
 refine dI ?_
 refine Di oD (fun Vw j50=>?_)
 refine du ?_
 refine uV (R':=(aJ 3 aK)) ji.h rfl .no (.tmp rfl rfl) rfl .h wZ (fun w51=>?_)
 refine bnd hF fun Vx vG hF=>eU rfl rfl .no (.rd .h rfl .nil) (.own .q7 (fun _ h=>h) .nil) (fun ha=>dB aeA.h (.cons (EN ha (.tmp rfl rfl) rfl) (.cons (EN ha (.tmp rfl rfl) rfl) .nil)) (abT vG)) (fun p54=>?_)
 refine jI rfl .no rfl (fun ha=>cz (g:=true) (len:=1) (parts:=[(0,.tmp 31)]) uh.h ou.h (.cons (EN ha (.tmp rfl rfl) rfl) .nil) (vs:=[(zg [(zi Vx.Rel),p54.1.v])]) rfl rfl rfl (by intro v hv; simp at hv; rcases hv with rfl<;>rfl)) (fun k55=>?_)
 refine jO (.cons .h (.cons .h .nil)) (cK (Ro:=kM) (E:=123) (F:=(p54.2++[])) (xs:=([Vx]:List Atom)) (gq NW cB dz) rfl rfl) ?_
 refine bnd hF fun z56 iI hF=>eU rfl rfl .no (.cons .q10 (.cons .h .nil)) (.dep rfl (.dep rfl .nil)) (fun ha=>fT (Ro:=kM) uh.h Um ou.h rfl rfl rfl (EN ha (.tmp rfl rfl) rfl) (EN ha (.tmp rfl rfl) rfl) iI iF) (fun p58=>?_)
 refine du ?_
 refine eU rfl rfl .no (.cons .q8 .nil) (.dep rfl (.dep rfl .nil)) (fun ha=>kg (e':=(zg [p6.1.v,p58.1.v])) Uk.h.sz (EN ha (.tmp rfl rfl) rfl) (EN ha (.tmp rfl rfl) rfl) rfl rfl rfl rfl rfl) (fun _=>?_)
 refine du ?_
 refine aV ?_
 rw[wk mo]
 exact⟨_,bG _,_,mo+1,nJ,_,p58.1,p58.2,rfl,aA,JO,az,hF⟩
def Bd(eB:Atom):Nat->(List Int)->Int->Option ((List Int))
 |0,_,_=>none
 |m24+1,c20,c23=>if (decide ((c23:Int)<(eB.Terms.length:Int)))then (
     ((ix eB.Terms c23).bind fun x40=>
       (iG x40 0 9).bind fun Az=>
       if Az then (
         (ix eB.Terms c23).bind fun rR=>
         (E5 c20 rR).bind fun QH=>
         some QH)
       else (
         some c20)).bind fun wz=>
     match wz with
     |jE=>Bd eB m24 jE (IntKind.i64.wrap (c23+1)))
   else (
     some c20)
def DN:List Atom->Nat->(List Int)->Option ((List Int))
 |[],k9,c3=>some c3
 |eB::dU,k9,c3=>(Bd eB (((eB.Terms.length:Int)-0).toNat+2) c3 0).bind fun kJ=>
   match kJ with
   |pJ=>DN dU (k9+1) pJ
def Ic(ai:Query):Option ((List Int)):=
 DN ai.Atoms 0 ([]:List Int)
theorem aaG{ai:Query}{ae ay:Sv}{R:(List Int)}(hF:Ic ai=some R):
   Fw.Spec Tryz.prog 83 [(zg [ae.v,ay.v])] [ah ae ai.Head,bH ay ai.Atoms] (fun p:Sv×List Nat=>p.1.v) (fun p=>[bC p.2 p.1 R]):=by
 refine Se 47 Tryz.func83 [.tmp 2] ?_
 intro H0 F0
 unfold Ic at hF
 refine au ?_
 refine bB (fun k1=>?_)
 refine bq ?_
 refine dQ rfl (cz (g:=true) dh.h dw.h .nil (vs:=[]) rfl rfl rfl (by simp)) (fun k2=>?_)
 refine dP (.cons .h .nil) (cK (Ro:=(aG aK)) (E:=3) (F:=[]) (xs:=([]:List Int)) cB rfl rfl) ?_
 refine aZ ?_
 refine bn (bF (m:=ai.Atoms.length) (fun m7 f' cs'=>∃(g:Fr)(k9:Nat)(dU:List Atom)(c3:List Int)(v4:Sv)(F5:List Nat),m7=dU.length/\f'=aM g [(1,(pz k1)),(3,v4.v),(4,(zi (k9:Int)))]/\List.drop k9 ai.Atoms=dU/\aL cs' [bi k1 39 (zg [ae.v,ay.v]),ah ae ai.Head,bH ay ai.Atoms,bC F5 v4 c3]/\DN dU k9 c3=some R) ⟨_,0,_,_,⟨(some ⟨k2,0,none⟩),0,1⟩,(k2::[]),rfl,aA,rfl,az,hF⟩ ?_)
 rintro m7 _ _ ⟨g8,k9,dU,c3,v4,F5,rfl,rfl,lI,hE,hF⟩
 refine Kb hE ai.Atoms (fun Jy=>?_)
 rcases dU with _|⟨eB,dU⟩
 · have sH:=dn lI
   rw[DN]at hF
   refine di ?_
   refine bR ?_
   refine dK ?_
   cases hF
   exact Er (v4,F5)
 obtain⟨sH,iy,qb⟩:=bN lI
 rw[DN]at hF
 refine di ?_
 refine bQ ?_
 refine au ?_
 obtain⟨kJ,uZ,vD⟩:=bind_some hF
 refine gX (fun f' cs'=>∃(pJ:List Int)(v68:Sv)(Gx:List Nat)(g:Fr),pJ=kJ/\f'=aM g [(1,(pz k1)),(3,v68.v),(4,(zi (k9:Int)))]/\aL cs' [bi k1 39 (zg [ae.v,ay.v]),ah ae ai.Head,bH ay ai.Atoms,bC Gx v68 pJ]) ?_ ?_
 · replace hF:=uZ
   refine bn (fe (aI (lD (v:=(zi 0)) (.int _ _)) ?_))
   refine au ?_
   refine bn (bF (m:=(((eB.Terms.length:Int)-0).toNat+2)) (fun m24 f' cs'=>∃(g:Fr)(c20:List Int)(c23:Int)(v21:Sv)(rT:List Nat),f'=aM g [(1,(pz k1)),(3,v21.v),(4,(zi (k9:Int))),(5,(zi c23))]/\aL cs' [bi k1 39 (zg [ae.v,ay.v]),ah ae ai.Head,bH ay ai.Atoms,bC rT v21 c20]/\Bd eB m24 c20 c23=some kJ) ⟨_,_,_,v4,F5,aA,az,hF⟩ ?_)
   rintro m24 _ _ ⟨QB,c20,c23,v21,rT,rfl,hE,hF⟩
   refine bD hE ?_
   rcases m24 with _|m24
   · rw[Bd]at hF
     exact absurd hF (by simp)
   rw[Bd]at hF
   refine aZ ?_
   refine Ai iy (fun kI j33=>?_)
   refine au ?_
   refine r_ (R':=(aJ 3 aK)) ji.h (.tmp rfl rfl) .h wZ (fun w34=>?_)
   refine bq ?_
   refine Ci hF (fun FX hF=>?_) (fun FX hF=>?_)
   · refine au ?_
     obtain⟨wz,Ob,Pf⟩:=bind_some hF
     refine gX (fun f' cs'=>∃(jE:List Int)(v63:Sv)(rU:List Nat)(g:Fr),jE=wz/\f'=aM g [(1,(pz k1)),(3,v63.v),(4,(zi (k9:Int))),(5,(zi c23))]/\aL cs' [bi k1 39 (zg [ae.v,ay.v]),ah ae ai.Head,bH ay ai.Atoms,bC rU v63 jE]) ?_ ?_
     · replace hF:=Ob
       refine bn (fe (aI (kK (off:=1) NI.h (.tmp rfl rfl)) ?_))
       refine aW ?_
       refine Ai iy (fun k37 j38=>?_)
       refine au ?_
       refine r_ (R':=(aJ 3 aK)) ji.h (.tmp rfl rfl) .h wZ (fun w39=>?_)
       refine au ?_
       refine zI hF fun x40 afC oD hF=>?_
       refine Ai oD (fun Vs j45=>?_)
       refine Al bY ?_
       refine bnd hF fun Az ui hF=>aX (jl ui) (fun _=>?_)
       refine au ?_
       refine Ci hF (fun FV hF=>?_) (fun FV hF=>?_)
       · refine aV ?_
         refine Ai iy (fun Vw j50=>?_)
         refine au ?_
         refine r_ (R':=(aJ 3 aK)) ji.h (.tmp rfl rfl) .h wZ (fun w51=>?_)
         refine au ?_
         refine zI hF fun rR auR lQ hF=>?_
         refine Ai lQ (fun k56 j57=>?_)
         refine Al bY ?_
         refine bnd hF fun QH Ph hF=>eZ (WQ Ph) (fun p60=>?_)
         refine aW ?_
         cases hF
         exact⟨_,p60.1,p60.2,_,rfl,aA,az⟩
       refine au ?_
       cases hF
       exact⟨_,v21,rT,_,rfl,aA,az⟩
     rintro _ _ ⟨jE,v63,rU,g65,rfl,rfl,hE⟩
     replace hF:=Pf
     try dsimp only at hF
     refine bD hE ?_
     refine aV ?_
     exact⟨m24,bG _,_,_,_,v63,rU,aA,az,hF⟩
   refine aU ?_
   cases hF
   exact⟨_,v21,rT,_,rfl,aA,az⟩
 rintro _ _ ⟨pJ,v68,Gx,g71,rfl,rfl,hE⟩
 replace hF:=vD
 try dsimp only at hF
 refine bD hE ?_
 refine aV ?_
 rw[wk k9]
 exact⟨_,bG _,_,k9+1,dU,_,v68,Gx,rfl,aA,qb,az,hF⟩
def BV(aj:aY)(fQ:Int)(bg:Int):Option (aY):=
 (app ([]:List Int) aj.Vars).bind fun z7=>
 (app z7 ([fQ]:List Int)).bind fun z10=>
 (app ([]:List Int) aj.Values).bind fun QJ=>
 (app QJ ([bg]:List Int)).bind fun z16=>
 some (⟨z10,z16⟩:aY)
theorem abV{aj:aY}{ae ay:Sv}{fQ bg:Int}{R:aY}(hF:BV aj fQ bg=some R):
   Fw.Spec Tryz.prog 158 [(zg [ae.v,ay.v]),(zi fQ),(zi bg)] [ah ae aj.Vars,ah ay aj.Values] (fun p:Sv×List Nat×Sv×List Nat=>(zg [p.1.v,p.2.2.1.v])) (fun p=>[bC p.2.1 p.1 R.Vars,bC p.2.2.2 p.2.2.1 R.Values]):=by
 refine Se 22 Tryz.func158 [.cell 6 136] ?_
 intro H0 F0
 unfold BV at hF
 refine au ?_
 refine bB (fun k1=>?_)
 refine dH (fun k2=>?_)
 refine au ?_
 refine dE [0,1,2,4,5,7,8,9,11,12,3,6,10,13,14,15] [0,0,2,7,0,16,63,0,0,256,1023,0,2048,8191,16383,32767] [3,6,10,13,15] mixed (by decide+kernel) ?_
 refine jI rfl .no rfl (fun ha=>cz (g:=true) (len:=0) (parts:=[]) dh.h dw.h .nil (vs:=[]) rfl rfl rfl (by simp)) (fun k3=>?_)
 refine jO (.cons .h .nil) (cK (Ro:=(aG aK)) (E:=3) (F:=[]) (xs:=([]:List Int)) cB rfl rfl) ?_
 refine dI ?_
 refine jI rfl .no rfl (fun ha=>cz (g:=true) (len:=1) (parts:=[(0,.tmp 11)]) dh.h dw.h (.cons (EN ha (.tmp rfl rfl) rfl) .nil) (vs:=[(zi fQ)]) rfl rfl rfl (by intro v hv; simp at hv; rcases hv with rfl<;>rfl)) (fun k4=>?_)
 refine jO (.cons .h .nil) (cK (Ro:=(aG aK)) (E:=3) (F:=([]++[])) (xs:=([fQ]:List Int)) (gq (jF (fun _=>rfl)) cB dz) rfl rfl) ?_
 refine jI rfl .no rfl (fun ha=>cz (g:=true) (len:=0) (parts:=[]) dh.h dw.h .nil (vs:=[]) rfl rfl rfl (by simp)) (fun k5=>?_)
 refine jO (.cons .h .nil) (cK (Ro:=(aG aK)) (E:=3) (F:=[]) (xs:=([]:List Int)) cB rfl rfl) ?_
 refine dI ?_
 refine jI rfl .no rfl (fun ha=>cz (g:=true) (len:=1) (parts:=[(0,.tmp 18)]) dh.h dw.h (.cons (EN ha (.tmp rfl rfl) rfl) .nil) (vs:=[(zi bg)]) rfl rfl rfl (by intro v hv; simp at hv; rcases hv with rfl<;>rfl)) (fun k6=>?_)
 refine jO (.cons .h .nil) (cK (Ro:=(aG aK)) (E:=3) (F:=([]++[])) (xs:=([bg]:List Int)) (gq (jF (fun _=>rfl)) cB dz) rfl rfl) ?_
 refine bnd hF fun z7 jy hF=>eU rfl rfl .no (.cons .q3 (.rd .q5 rfl .nil)) (.own .h (by simp[aQ]) (.own (.t .h) (by simp[aQ]) (.own .q2 (by simp[aQ]) (.dep rfl .nil)))) (fun ha=>fT (Ro:=(aG aK)) dh.h kF dw.h rfl rfl rfl (EN ha (.tmp rfl rfl) rfl) (EN ha (.tmp rfl rfl) rfl) jy qp) (fun p9=>?_)
 refine bnd hF fun z10 mf hF=>eU rfl rfl .no (.cons .h (.cons .q2 .nil)) (.own .h (by simp[aQ]) (.own (.t .h) (by simp[aQ]) (.dep rfl (.dep rfl .nil)))) (fun ha=>fT (Ro:=(aG aK)) dh.h kF dw.h rfl rfl rfl (EN ha (.tmp rfl rfl) rfl) (EN ha (.tmp rfl rfl) rfl) mf iF) (fun lu=>?_)
 refine bnd hF fun QJ iy hF=>eU rfl rfl .no (.cons .q2 (.rd .q5 rfl .nil)) (.own (.t .h) (by simp[aQ]) (.dep rfl (.dep rfl (.dep rfl .nil)))) (fun ha=>fT (Ro:=(aG aK)) dh.h kF dw.h rfl rfl rfl (EN ha (.tmp rfl rfl) rfl) (EN ha (.tmp rfl rfl) rfl) iy qp) (fun jd=>?_)
 refine bnd hF fun z16 iP hF=>eU rfl rfl .no (.cons .h (.cons (.t .h) .nil)) (.dep rfl (.dep rfl (.dep rfl (.dep rfl .nil)))) (fun ha=>fT (Ro:=(aG aK)) dh.h kF dw.h rfl rfl rfl (EN ha (.tmp rfl rfl) rfl) (EN ha (.tmp rfl rfl) rfl) iP iF) (fun nZ=>?_)
 refine dX rfl .no (fun ha=>jm dV.h rfl (vs:=[lu.1.v,nZ.1.v]) (.cons (EN ha (.tmp rfl rfl) rfl) (.cons (EN ha (.tmp rfl rfl) rfl) .nil)) (cells:=[lu.1.v,nZ.1.v]) rfl) ?_
 refine eU rfl rfl .no (.cons .q2 .nil) (.dep rfl (.dep rfl (.dep rfl (.dep rfl .nil)))) (fun ha=>kg (e':=(zg [lu.1.v,nZ.1.v])) (v:=(zg [lu.1.v,nZ.1.v])) dV.h.sz (EN ha (.tmp rfl rfl) rfl) (EN ha (.tmp rfl rfl) rfl) rfl rfl rfl rfl rfl) (fun _=>?_)
 refine du ?_
 refine au ?_
 cases hF
 exact Er (lu.1,lu.2,nZ.1,nZ.2)
def Em(aj:aY)(nK:Int):Nat->Int->Option (Int)
 |0,_=>none
 |m6+1,c5=>if ((decide ((c5:Int)<(aj.Vars.length:Int)))&&(decide ((c5:Int)<(aj.Values.length:Int))))then (
     (ix aj.Vars c5).bind fun gF=>
     if ((gF:Int)==nK)then (
       (ix aj.Values c5).bind fun uB=>
       some uB)
     else (
       Em aj nK m6 (IntKind.i64.wrap (c5+1))))
   else (
     some (-1))
def yF(aj:aY)(nK:Int):Option (Int):=
 (w_ nK).bind fun r2=>
 if (!r2)then (
   some nK)
 else (
   Em aj nK (((aj.Vars.length:Int)-0).toNat+2) 0)
theorem Wo{aj:aY}{ae ay:Sv}{nK R:Int}(hF:yF aj nK=some R):
   Fw.Spec Tryz.prog 159 [(zg [ae.v,ay.v]),(zi nK)] [ah ae aj.Vars,ah ay aj.Values] (fun _:Unit=>(zi R)) (fun _=>[]):=by
 refine Se 36 Tryz.func159 [.tmp 4] ?_
 intro H0 F0
 unfold yF at hF
 refine au ?_
 refine bB (fun k1=>?_)
 refine aV ?_
 refine bnd hF fun r2 hx3 hF=>aX (EG hx3) (fun _=>?_)
 refine aW ?_
 refine Ci hF (fun o_ hF=>?_) (fun o_ hF=>?_)
 · exact ze hF
 refine aV ?_
 refine bn (bF (m:=(((aj.Vars.length:Int)-0).toNat+2)) (fun m6 f' cs'=>∃(g:Fr)(c5:Int),f'=aM g [(1,(zi nK)),(2,(pz k1)),(5,(zi c5))]/\aL cs' [bi k1 136 (zg [ae.v,ay.v]),ah ae aj.Vars,ah ay aj.Values]/\Em aj nK m6 c5=some R) ⟨_,_,aA,az,hF⟩ ?_)
 rintro m6 _ _ ⟨g7,c5,rfl,hE,hF⟩
 refine bD hE ?_
 rcases m6 with _|m6
 · rw[Em]at hF
   exact absurd hF (by simp)
 rw[Em]at hF
 refine aW ?_
 refine fE (fun f' cs'=>∃(g:Fr),f'=aM g [(1,(zi nK)),(2,(pz k1)),(5,(zi c5)),(21,(.bool ((decide ((c5:Int)<(aj.Vars.length:Int)))&&(decide ((c5:Int)<(aj.Values.length:Int))))))]/\aL cs' [bi k1 136 (zg [ae.v,ay.v]),ah ae aj.Vars,ah ay aj.Values]) ?_ ?_
 · refine aZ ?_
   rcases bL (decide ((c5:Int)<(aj.Vars.length:Int)))with pg|pg
   · rw[pg]
     try rw[pg]at hF; dsimp only[aO,aN]at hF
     refine Cs ?_
     exact⟨_,aA,az⟩
   rw[pg]
   try rw[pg]at hF; dsimp only[aO,aN]at hF
   refine bf ?_
   exact⟨_,aA,az⟩
 rintro _ _ ⟨g15,rfl,hE⟩
 refine bD hE ?_
 refine Ci hF (fun zV hF=>?_) (fun zV hF=>?_)
 · refine aZ ?_
   refine zI hF fun gF uj jq hF=>?_
   refine Ai jq (fun k20 pF=>?_)
   refine Al bY ?_
   refine bq ?_
   refine Ci hF (fun lh hF=>?_) (fun lh hF=>?_)
   · refine aU ?_
     refine zI hF fun uB afF hx25 hF=>?_
     refine Ai hx25 (fun k26 j27=>?_)
     refine Al bY ?_
     exact ze hF
   refine aZ ?_
   exact⟨m6,bG _,_,_,aA,az,hF⟩
 exact ze hF
def Im(bu:Fact):List Fact->Nat->Option (Bool)
 |[],k5=>some false
 |x7::bz,k5=>(D6 x7 bu).bind fun dS=>
   if ((dS:Int)==0)then (
     some true)
   else (
     Im bu bz (k5+1))
def MR(ak:List Fact)(bu:Fact):Option (Bool):=
 Im bu ak 0
theorem akk{ak:List Fact}{ae:Sv}{bu:Fact}{aR:Sv}{R:Bool}(hF:MR ak bu=some R):
   Fw.Spec Tryz.prog 165 [ae.v,(zg [(zi bu.Rel),aR.v])] [dY ae ak,ah aR bu.Values] (fun _:Unit=>(.bool R)) (fun _=>[]):=by
 refine Se 19 Tryz.func165 [.tmp 4] ?_
 intro H0 F0
 unfold MR at hF
 refine au ?_
 refine bB (fun k1=>?_)
 refine aZ ?_
 refine bn (bF (m:=ak.length) (fun m3 f' cs'=>∃(g:Fr)(k5:Nat)(bz:List Fact),m3=bz.length/\f'=aM g [(0,ae.v),(3,(pz k1)),(5,(zi (k5:Int)))]/\List.drop k5 ak=bz/\aL cs' [dY ae ak,bi k1 147 (zg [(zi bu.Rel),aR.v]),ah aR bu.Values]/\Im bu bz k5=some R) ⟨_,0,_,rfl,aA,rfl,az,hF⟩ ?_)
 rintro m3 _ _ ⟨g4,k5,bz,rfl,rfl,gL,hE,hF⟩
 refine Kb hE ak (fun qz=>?_)
 rcases bz with _|⟨x7,bz⟩
 · have jP:=dn gL
   rw[Im]at hF
   refine bf ?_
   refine bR ?_
   exact ze hF
 obtain⟨jP,eX,gD⟩:=bN gL
 rw[Im]at hF
 refine bf ?_
 refine bQ ?_
 refine aW ?_
 refine dE [0,1,2,3,4,5,6] [0,0,3,7,0,31,63] [5] mixed (by decide+kernel) ?_
 refine bS ?_
 refine Di eX (fun k14 vZ=>?_)
 refine lc (oh x7) oU (fun p16=>?_)
 refine du ?_
 refine bnd hF fun dS fV hF=>dR (VQ fV) (fun _=>?_)
 refine bS ?_
 refine Ci hF (fun mH hF=>?_) (fun mH hF=>?_)
 · exact ze hF
 refine aZ ?_
 rw[wk k5]
 exact⟨_,bG _,_,k5+1,bz,rfl,aA,gD,az,hF⟩
def Cf(kY:Int)(ry:List Int):Option (Fact):=
 (app ([]:List Int) ry).bind fun z3=>
 some (⟨kY,z3⟩:Fact)
theorem Sj{kY:Int}{ry:List Int}{aC:Sv}{R:Fact}(hF:Cf kY ry=some R):
   Fw.Spec Tryz.prog 169 [(zi kY),aC.v] [ah aC ry] (fun p:Sv×List Nat=>(zg [(zi R.Rel),p.1.v])) (fun p=>[bC p.2 p.1 R.Values]):=by
 refine Se 10 Tryz.func169 [.cell 4 147] ?_
 intro H0 F0
 unfold Cf at hF
 refine au ?_
 refine dH (fun k1=>?_)
 refine bq ?_
 refine dQ rfl (cz (g:=true) dh.h dw.h .nil (vs:=[]) rfl rfl rfl (by simp)) (fun k2=>?_)
 refine dP (.cons .h .nil) (cK (Ro:=(aG aK)) (E:=3) (F:=[]) (xs:=([]:List Int)) cB rfl rfl) ?_
 refine au ?_
 refine bnd hF fun z3 hx4 hF=>dZ (.cons .h (.rd (.t .h) rfl .nil)) (fT (Ro:=(aG aK)) dh.h kF dw.h rfl rfl rfl (.tmp rfl rfl) (.tmp rfl rfl) hx4 qp) (fun p5=>?_)
 refine aI (jm fB.h rfl (vs:=[(zi kY),p5.1.v]) bZ (cells:=[(zi kY),p5.1.v]) rfl) ?_
 refine As (zg [(zi kY),p5.1.v]) ?_
 refine aW ?_
 cases hF
 exact Er (p5.1,p5.2)
def uI(bu:Fact):List Fact->Nat->(List Fact)->Bool->Option ((List Fact))
 |[],k13,c6,c9=>if (!c9)then (
     (Cf bu.Rel bu.Values).bind fun gH=>
     (app c6 ([gH]:List Fact)).bind fun z26=>
     some z26)
   else (
     some c6)
 |j5::zo,k13,c6,c9=>((bif (!c9)then ((D6 bu j5).bind fun sS=>
         some (decide ((sS:Int)<0)))
       else (some false)).bind fun o32=>
     match o32 with
     |QK=>if QK then (
         (Cf bu.Rel bu.Values).bind fun Vy=>
         (app c6 ([Vy]:List Fact)).bind fun z46=>
         (Cf j5.Rel j5.Values).bind fun Vz=>
         (app z46 ([Vz]:List Fact)).bind fun z58=>
         some (z58,true))
       else (
         (Cf j5.Rel j5.Values).bind fun VA=>
         (app c6 ([VA]:List Fact)).bind fun z70=>
         some (z70,c9))).bind fun GA=>
   match GA with
   |(c75,QL)=>uI bu zo (k13+1) c75 QL
def MS(ak:List Fact)(bu:Fact):Option ((List Fact)):=
 (MR ak bu).bind fun r3=>
 uI bu ak 0 ([]:List Fact) r3
theorem akl{ak:List Fact}{ae:Sv}{bu:Fact}{aR:Sv}{R:(List Fact)}(hF:MS ak bu=some R):
   Fw.Spec Tryz.prog 85 [ae.v,(zg [(zi bu.Rel),aR.v])] [dY ae ak,ah aR bu.Values] (fun p:Sv×List Nat=>p.1.v) (fun p=>[nO p.2 p.1 R]):=by
 refine Se 62 Tryz.func85 [.tmp 4] ?_
 intro H0 F0
 unfold MS at hF
 refine au ?_
 refine bB (fun k1=>?_)
 refine bq ?_
 refine dQ rfl (cz (g:=true) gz.h fB.h .nil (vs:=[]) rfl rfl rfl (by simp)) (fun k2=>?_)
 refine dP (.cons .h .nil) (cK (Ro:=iT) (E:=147) (F:=[]) (xs:=([]:List Fact)) cB rfl rfl) ?_
 refine aV ?_
 refine bnd hF fun r3 hx4 hF=>aX (akk hx4) (fun _=>?_)
 refine aZ ?_
 refine bn (bF (m:=ak.length) (fun m11 f' cs'=>∃(g:Fr)(k13:Nat)(zo c6:List Fact)(c9:Bool)(v7:Sv)(F8:List Nat),m11=zo.length/\f'=aM g [(0,ae.v),(3,(pz k1)),(5,v7.v),(6,(.bool c9)),(7,(zi (k13:Int)))]/\List.drop k13 ak=zo/\aL cs' [dY ae ak,bi k1 147 (zg [(zi bu.Rel),aR.v]),ah aR bu.Values,nO F8 v7 c6]/\uI bu zo k13 c6 c9=some R) ⟨_,0,_,_,_,⟨(some ⟨k2,0,none⟩),0,1⟩,(k2::[]),rfl,aA,rfl,az,hF⟩ ?_)
 rintro m11 _ _ ⟨g12,k13,zo,c6,c9,v7,F8,rfl,rfl,JP,hE,hF⟩
 refine Kb hE ak (fun azX=>?_)
 rcases zo with _|⟨j5,zo⟩
 · have auT:=dn JP
   rw[uI]at hF
   refine bf ?_
   refine bR ?_
   refine dK ?_
   refine Ci hF (fun zV hF=>?_) (fun zV hF=>?_)
   · refine aZ ?_
     refine bnd hF fun gH mK hF=>eZ (Sj mK) (fun iA=>?_)
     refine dQ rfl (cz (g:=true) gz.h fB.h bZ (vs:=[(zg [(zi gH.Rel),iA.1.v])]) rfl rfl rfl (by intro v hv; simp at hv; rcases hv with rfl<;>rfl)) (fun k25=>?_)
     refine dP (.cons .h (.cons .h .nil)) (cK (Ro:=iT) (E:=147) (F:=(iA.2++[])) (xs:=([gH]:List Fact)) (gq Cr cB dz) rfl rfl) ?_
     refine bnd hF fun z26 hx27 hF=>dZ (.cons .q4 (.cons .h .nil)) (fT (Ro:=iT) gz.h FP fB.h rfl rfl rfl (.tmp rfl rfl) (.tmp rfl rfl) hx27 iF) (fun p28=>?_)
     refine bf ?_
     cases hF
     exact Er (p28.1,p28.2)
   refine aZ ?_
   cases hF
   exact Er (v7,F8)
 obtain⟨auT,fV,Uu⟩:=bN JP
 rw[uI]at hF
 refine bf ?_
 refine bQ ?_
 refine au ?_
 obtain⟨GA,Ye,YU⟩:=bind_some hF
 refine gX (fun f' cs'=>∃(c75:List Fact)(QL:Bool)(v76:Sv)(AB:List Nat)(g:Fr),GA=(c75,QL)/\f'=aM g [(0,ae.v),(3,(pz k1)),(5,v76.v),(6,(.bool QL)),(7,(zi (k13:Int)))]/\aL cs' [dY ae ak,bi k1 147 (zg [(zi bu.Rel),aR.v]),ah aR bu.Values,nO AB v76 c75]) ?_ ?_
 · replace hF:=Ye
   refine bn (qC ?_)
   obtain⟨o32,Yf,YV⟩:=bind_some hF
   refine dE [0,1,2,3,4,5,6,7,8,9,10] [0,1,3,7,7,7,55,119,255,511,1023] [8] mixed (by decide+kernel) ?_
   refine mD (fun f' cs'=>∃(QK:Bool)(g:Fr),QK=o32/\f'=aM g [(0,ae.v),(3,(pz k1)),(5,v7.v),(6,(.bool c9)),(7,(zi (k13:Int))),(28,(.bool QK))]/\aL cs' [dY ae ak,bi k1 147 (zg [(zi bu.Rel),aR.v]),ah aR bu.Values,nO F8 v7 c6]) ?_ ?_
   · replace hF:=Yf
     refine dI ?_
     rcases bL (!c9)with vE|vE
     · rw[vE]
       try rw[vE]at hF; dsimp only[aO,aN]at hF
       refine dI ?_
       refine Di fV (fun iB j36=>?_)
       refine lc (oh j5) oU (fun p37=>?_)
       refine bnd hF fun sS hx39 hF=>dR (VQ hx39) (fun _=>?_)
       exact eO hF
     rw[vE]
     try rw[vE]at hF; dsimp only[aO,aN]at hF
     exact eO hF
   rintro _ _ ⟨QK,g74,rfl,rfl,hE⟩
   replace hF:=YV
   try dsimp only at hF
   refine bD hE ?_
   refine Ci hF (fun auU hF=>?_) (fun auU hF=>?_)
   · refine aZ ?_
     refine bnd hF fun Vy oD hF=>eZ (Sj oD) (fun p44=>?_)
     refine dQ rfl (cz (g:=true) gz.h fB.h bZ (vs:=[(zg [(zi Vy.Rel),p44.1.v])]) rfl rfl rfl (by intro v hv; simp at hv; rcases hv with rfl<;>rfl)) (fun Dh=>?_)
     refine dP (.cons .h (.cons .h .nil)) (cK (Ro:=iT) (E:=147) (F:=(p44.2++[])) (xs:=([Vy]:List Fact)) (gq Cr cB dz) rfl rfl) ?_
     refine bnd hF fun z46 ui hF=>dZ (.cons .q4 (.cons .h .nil)) (fT (Ro:=iT) gz.h FP fB.h rfl rfl rfl (.tmp rfl rfl) (.tmp rfl rfl) ui iF) (fun p48=>?_)
     refine aV ?_
     refine oW [0,1,2,3,4,5,6,7,8,9,10,11,12,13,14] [0,0,0,6,14,30,0,0,192,448,960,2046,4094,8191,16383] [11,13] mixed (by decide+kernel) ?_
     refine dI ?_
     refine Di fV (fun Vw j50=>?_)
     refine du ?_
     refine Dl XB ?_
     refine bS ?_
     refine Di fV (fun wo j52=>?_)
     refine du ?_
     refine uV (R':=(aJ 3 aK)) ji.h rfl .no (.tmp rfl rfl) rfl .h adx (fun w53=>?_)
     refine bnd hF fun Vz lQ hF=>Aw (Sj lQ) (fun p56=>?_)
     refine jI rfl .no rfl (fun ha=>cz (g:=true) (len:=1) (parts:=[(0,.tmp 48)]) gz.h fB.h (.cons (EN ha (.tmp rfl rfl) rfl) .nil) (vs:=[(zg [(zi Vz.Rel),p56.1.v])]) rfl rfl rfl (by intro v hv; simp at hv; rcases hv with rfl<;>rfl)) (fun k57=>?_)
     refine jO (.cons .h (.cons .h .nil)) (cK (Ro:=iT) (E:=147) (F:=(p56.2++[])) (xs:=([Vz]:List Fact)) (gq Cr cB dz) rfl rfl) ?_
     refine bnd hF fun z58 Ph hF=>eU rfl rfl .no (.cons .q4 (.cons .h .nil)) (.dep rfl .nil) (fun ha=>fT (Ro:=iT) gz.h FP fB.h rfl rfl rfl (EN ha (.tmp rfl rfl) rfl) (EN ha (.tmp rfl rfl) rfl) Ph iF) (fun p60=>?_)
     refine bS ?_
     cases hF
     exact⟨_,_,p60.1,p60.2,_,rfl,aA,az⟩
   refine au ?_
   refine oW [0,1,2,3,4,5,6,7,8,9,10,11,12,13,14] [0,0,0,6,14,30,0,0,192,448,960,2046,4094,8191,16383] [11,13] mixed (by decide+kernel) ?_
   refine dI ?_
   refine Di fV (fun k61 j62=>?_)
   refine du ?_
   refine Dl XB ?_
   refine bS ?_
   refine Di fV (fun k63 j64=>?_)
   refine du ?_
   refine uV (R':=(aJ 3 aK)) ji.h rfl .no (.tmp rfl rfl) rfl .h adx (fun w65=>?_)
   refine bnd hF fun VA auV hF=>Aw (Sj auV) (fun p68=>?_)
   refine jI rfl .no rfl (fun ha=>cz (g:=true) (len:=1) (parts:=[(0,.tmp 48)]) gz.h fB.h (.cons (EN ha (.tmp rfl rfl) rfl) .nil) (vs:=[(zg [(zi VA.Rel),p68.1.v])]) rfl rfl rfl (by intro v hv; simp at hv; rcases hv with rfl<;>rfl)) (fun k69=>?_)
   refine jO (.cons .h (.cons .h .nil)) (cK (Ro:=iT) (E:=147) (F:=(p68.2++[])) (xs:=([VA]:List Fact)) (gq Cr cB dz) rfl rfl) ?_
   refine bnd hF fun z70 auW hF=>eU rfl rfl .no (.cons .q7 (.cons .h .nil)) (.dep rfl .nil) (fun ha=>fT (Ro:=iT) gz.h FP fB.h rfl rfl rfl (EN ha (.tmp rfl rfl) rfl) (EN ha (.tmp rfl rfl) rfl) auW iF) (fun p72=>?_)
   refine bS ?_
   cases hF
   exact⟨_,_,p72.1,p72.2,_,rfl,aA,az⟩
 rintro _ _ ⟨c75,QL,v76,AB,g80,rfl,rfl,hE⟩
 replace hF:=YU
 try dsimp only at hF
 refine bD hE ?_
 refine aV ?_
 rw[wk k13]
 exact⟨_,bG _,_,k13+1,zo,_,_,v76,AB,rfl,aA,Uu,az,hF⟩
def Be(mM:List Int)(mO:List Int)(c212:List Fact)(qJ:Atom):Nat->(List Int)->Int->Option ((List Fact))
 |0,_,_=>none
 |FY+1,JQ,FZ=>if (decide ((FZ:Int)<(qJ.Terms.length:Int)))then (
     (ix qJ.Terms FZ).bind fun afG=>
     (yF (⟨mM,mO⟩:aY) afG).bind fun Uv=>
     (app JQ ([Uv]:List Int)).bind fun afH=>
     Be mM mO c212 qJ FY afH (IntKind.i64.wrap (FZ+1)))
   else (
     (MS c212 (⟨qJ.Rel,JQ⟩:Fact)).bind fun afI=>
     some afI)
def DR(mM:List Int)(mO:List Int):List Atom->Nat->(List Fact)->Option ((List Fact)×aY×Bool)
 |[],vH,c212=>some (c212,(⟨mM,mO⟩:aY),true)
 |qJ::yP,vH,c212=>(Be mM mO c212 qJ (((qJ.Terms.length:Int)-0).toNat+2) ([]:List Int) 0).bind fun Uw=>
   match Uw with
   |Pk=>DR mM mO yP (vH+1) Pk
def DT(r3:(List Int)):Nat->Int->Option (Int)
 |0,_=>none
 |F3+1,Cy=>(xc r3 Cy).bind fun afJ=>
   if afJ then (
     DT r3 F3 (IntKind.i64.wrap (Cy+1)))
   else (
     some Cy)
def Bf(ai:Query)(r3:(List Int))(fuel:Nat):List Int->Nat->(List Int)->(List Int)->Int->Option ((List Fact)×aY×Bool)
 |[],qK,mM,mO,c198=>DR mM mO ai.Atoms 0 ([]:List Fact)
 |afK::yQ,qK,mM,mO,c198=>(((DT r3 fuel c198).bind fun Ux=>
     match Ux with
     |F9=>if (decide ((9:Int)<F9))then (
         some (.inl (([]:List Fact),(⟨[],[]⟩:aY),false)))
       else (
         (BV (⟨mM,mO⟩:aY) afK F9).bind fun YW=>
         some (.inr (YW.Vars,YW.Values,(IntKind.i64.wrap (F9+1)))))):Option (Sum ((List Fact)×aY×Bool) ((List Int)×(List Int)×Int))).bind fun YX=>
   match YX with
   | .inl r=>some r
   | .inr (Pm,Pn,Po)=>Bf ai r3 fuel yQ (qK+1) Pm Pn Po
def K6(fuel:Nat)(ai:Query):Option ((List Fact)×aY×Bool):=
 (Ic ai).bind fun r3=>
 (BU ai).bind fun r6=>
 Bf ai r3 fuel r6 0 ([]:List Int) ([]:List Int) 0
theorem ah5{fuel:Nat}{ai:Query}{ae ay:Sv}{R:(List Fact)×aY×Bool}(hF:K6 fuel ai=some R):
   Fw.Spec Tryz.prog 80 [(zg [ae.v,ay.v])] [ah ae ai.Head,bH ay ai.Atoms] (fun p:Sv×List Nat×Sv×List Nat×Sv×List Nat=>(.tuple [p.1.v,(zg [p.2.2.1.v,p.2.2.2.2.1.v]),(.bool R.2.2)].toArray)) (fun p=>[nO p.2.1 p.1 R.1,bC p.2.2.2.1 p.2.2.1 R.2.1.Vars,bC p.2.2.2.2.2 p.2.2.2.2.1 R.2.1.Values]):=by
 refine Se 90 Tryz.func80 [.tmp 2,.cell 3 136,.tmp 4] ?_
 intro H0 F0
 unfold K6 at hF
 refine au ?_
 refine bB (fun k1=>?_)
 refine au ?_
 refine dH (fun k2=>?_)
 refine aU ?_
 refine bnd hF fun r3 hx4 hF=>eZ (aaG hx4) (fun p5=>?_)
 refine aU ?_
 refine bnd hF fun r6 hx7 hF=>eZ (R7 hx7) (fun p8=>?_)
 refine bq ?_
 refine aI (jm dV.h rfl (vs:=[]) .nil (cells:=[(.slice none 0 0),(.slice none 0 0)]) rfl) ?_
 refine dH (fun k9=>?_)
 refine As (.agg ([(.slice none 0 0),(.slice none 0 0)]:List Value).toArray) ?_
 refine di ?_
 refine bn (rZ (.t .h) bU ?_)
 refine bF (m:=r6.length) (fun afL f' cs'=>∃(g:Fr)(qK:Nat)(yQ mM mO:List Int)(c198:Int)(v193:Sv)(Cz:List Nat)(v196:Sv)(CB:List Nat),afL=yQ.length/\f'=aM g [(1,(pz k1)),(3,(pz k2)),(5,p5.1.v),(6,p8.1.v),(7,(pz k9)),(8,(zi c198)),(9,(zi (qK:Int)))]/\List.drop qK r6=yQ/\aL cs' [bi k1 39 (zg [ae.v,ay.v]),ah ae ai.Head,bH ay ai.Atoms,b_ k2 136 (.agg ([(.slice none 0 0),(.slice none 0 0)]:List Value).toArray),bC p5.2 p5.1 r3,ah p8.1 r6,b_ k9 136 (zg [v193.v,v196.v]),bC Cz v193 mM,bC CB v196 mO]/\Bf ai r3 fuel yQ qK mM mO c198=some R) ⟨_,0,_,_,_,_,⟨none,0,0⟩,[],⟨none,0,0⟩,[],rfl,aA,rfl,(.conv .nil (iD (Ro:=(aG aK)) (E:=3)) (.cons .nil) (.conv .nil (iD (Ro:=(aG aK)) (E:=3)) (.cons .nil) az)),hF⟩ ?_
 rintro afL _ _ ⟨aBJ,qK,yQ,mM,mO,c198,v193,Cz,v196,CB,rfl,rfl,aeP,hE,hF⟩
 refine Kb hE r6 (fun axQ=>?_)
 rcases yQ with _|⟨afK,yQ⟩
 · have arn:=dn aeP
   rw[Bf]at hF
   refine bf ?_
   refine bR ?_
   refine aV ?_
   refine dQ rfl (cz (g:=true) gz.h fB.h .nil (vs:=[]) rfl rfl rfl (by simp)) (fun CE=>?_)
   refine dP (.cons .h .nil) (cK (Ro:=iT) (E:=147) (F:=[]) (xs:=([]:List Fact)) cB rfl rfl) ?_
   refine aZ ?_
   refine bn (bF (m:=ai.Atoms.length) (fun afM f' cs'=>∃(g:Fr)(vH:Nat)(yP:List Atom)(c212:List Fact)(JR:Sv)(Uy:List Nat),afM=yP.length/\f'=aM g [(1,(pz k1)),(3,(pz k2)),(7,(pz k9)),(10,JR.v),(11,(zi (vH:Int)))]/\List.drop vH ai.Atoms=yP/\aL cs' [bi k1 39 (zg [ae.v,ay.v]),ah ae ai.Head,bH ay ai.Atoms,b_ k2 136 (.agg ([(.slice none 0 0),(.slice none 0 0)]:List Value).toArray),b_ k9 136 (zg [v193.v,v196.v]),bC Cz v193 mM,bC CB v196 mO,nO Uy JR c212]/\DR mM mO yP vH c212=some R) ⟨_,0,_,_,⟨(some ⟨CE,0,none⟩),0,1⟩,(CE::[]),rfl,aA,rfl,az,hF⟩ ?_)
   rintro afM _ _ ⟨aBK,vH,yP,c212,JR,Uy,rfl,rfl,aeQ,hE,hF⟩
   refine Kb hE ai.Atoms (fun axR=>?_)
   rcases yP with _|⟨qJ,yP⟩
   · have aro:=dn aeQ
     rw[DR]at hF
     refine di ?_
     refine bR ?_
     refine aU ?_
     refine dE [0,1,2,3,4] [0,0,1,7,15] [3] mixed (by decide+kernel) ?_
     refine du ?_
     refine fA rfl .no .q4 (fun ha hp=>lC ku.h dV.h.sz rfl (EN ha (.tmp rfl rfl) rfl) hp.2 rfl) ?_
     refine du ?_
     refine eU rfl rfl .no (.cons .q3 .nil) (.dep rfl .nil) (fun ha=>kg (e':=(zg [v193.v,v196.v])) (v:=(zg [v193.v,v196.v])) dV.h.sz (EN ha (.tmp rfl rfl) rfl) (EN ha (.tmp rfl rfl) rfl) rfl rfl rfl rfl rfl) (fun _=>?_)
     refine bS ?_
     refine au ?_
     cases hF
     exact iX (JR,Uy,v193,Cz,v196,CB) (.tmp rfl rfl (.cellA rfl rfl .h rfl ku.h dV.h.sz rfl rfl (.tmp rfl rfl .nil))) rfl (.sel (.cons .q7 (.cons .q5 (.cons .q5 .nil))))
   obtain⟨aro,Yg,arp⟩:=bN aeQ
   rw[DR]at hF
   refine di ?_
   refine bQ ?_
   refine au ?_
   obtain⟨Uw,aoU,arq⟩:=bind_some hF
   refine gX (fun f' cs'=>∃(Pk:List Fact)(Uz:Sv)(YY:List Nat)(g:Fr),Pk=Uw/\f'=aM g [(1,(pz k1)),(3,(pz k2)),(7,(pz k9)),(10,Uz.v),(11,(zi (vH:Int)))]/\aL cs' [bi k1 39 (zg [ae.v,ay.v]),ah ae ai.Head,bH ay ai.Atoms,b_ k2 136 (.agg ([(.slice none 0 0),(.slice none 0 0)]:List Value).toArray),b_ k9 136 (zg [v193.v,v196.v]),bC Cz v193 mM,bC CB v196 mO,nO YY Uz Pk]) ?_ ?_
   · replace hF:=aoU
     refine bn (fe (aI (kK (off:=1) NI.h (.tmp rfl rfl)) ?_))
     refine aW ?_
     refine Ai Yg (fun aBL aBM=>?_)
     refine au ?_
     refine Al XA ?_
     refine aI (jm fB.h rfl (vs:=[(zi qJ.Rel)]) bZ (cells:=[(zi qJ.Rel),(.slice none 0 0)]) rfl) ?_
     refine dH (fun afN=>?_)
     refine As (zg [(zi qJ.Rel),(.slice none 0 0)]) ?_
     refine aV ?_
     refine bn (bF (m:=(((qJ.Terms.length:Int)-0).toNat+2)) (fun FY f' cs'=>∃(g:Fr)(JQ:List Int)(FZ:Int)(UA:Sv)(afO:List Nat),f'=aM g [(1,(pz k1)),(3,(pz k2)),(7,(pz k9)),(10,JR.v),(11,(zi (vH:Int))),(12,(pz afN)),(13,(zi FZ))]/\aL cs' [bi k1 39 (zg [ae.v,ay.v]),ah ae ai.Head,bH ay ai.Atoms,b_ k2 136 (.agg ([(.slice none 0 0),(.slice none 0 0)]:List Value).toArray),b_ k9 136 (zg [v193.v,v196.v]),bC Cz v193 mM,bC CB v196 mO,nO Uy JR c212,b_ afN 147 (zg [(zi qJ.Rel),UA.v]),bC afO UA JQ]/\Be mM mO c212 qJ FY JQ FZ=some Uw) ⟨_,_,_,⟨none,0,0⟩,[],aA,(.conv .nil (iD (Ro:=(aG aK)) (E:=3)) (.cons .nil) az),hF⟩ ?_)
     rintro FY _ _ ⟨aBN,JQ,FZ,UA,afO,rfl,hE,hF⟩
     refine bD hE ?_
     rcases FY with _|FY
     · rw[Be]at hF
       exact absurd hF (by simp)
     rw[Be]at hF
     refine aZ ?_
     refine Ai Yg (fun aBO aBP=>?_)
     refine au ?_
     refine r_ (R':=(aJ 3 aK)) ji.h (.tmp rfl rfl) .h wZ (fun aBQ=>?_)
     refine bq ?_
     refine Ci hF (fun ars hF=>?_) (fun ars hF=>?_)
     · refine aW ?_
       refine oW [0,1,2,3,4,5,6,7,8,9,10,11,12,13,14,15,16] [0,1,0,0,8,0,56,120,248,0,1016,2040,4092,8188,16383,32767,65535] [12,14,16] mixed (by decide+kernel) ?_
       refine du ?_
       refine fA rfl .no .q10 (fun ha hp=>gu (v:=UA.v) ji.h (EN ha (.tmp rfl rfl) rfl) hp.2 rfl rfl) ?_
       refine fA rfl .no .q6 (fun ha hp=>lC ku.h dV.h.sz rfl (EN ha (.tmp rfl rfl) rfl) hp.2 rfl) ?_
       refine dI ?_
       refine Di Yg (fun aBR aBS=>?_)
       refine du ?_
       refine uV (R':=(aJ 3 aK)) ji.h rfl .no (.tmp rfl rfl) rfl .h wZ (fun aBT=>?_)
       refine du ?_
       refine zI hF fun afG azY art hF=>?_
       refine Di art (fun aBU aBV=>?_)
       refine Dl bY ?_
       refine bnd hF fun Uv aru hF=>uS rfl rfl .no (.cons .q11 (.cons .q10 .nil)) (.dep rfl (.own .q11 (fun _ h=>h) .nil)) (fun ha=>mV (pre:=[]) (.cons bU (.cons bU .nil)) (fun _=>.nil) (dB aeC.h (.cons (EN ha (.tmp rfl rfl) rfl) (.cons (EN ha (.tmp rfl rfl) rfl) .nil)) (Wo aru))) (fun _=>?_)
       refine jI rfl .no rfl (fun ha=>cz (g:=true) (len:=1) (parts:=[(0,.tmp 81)]) dh.h dw.h (.cons (EN ha (.tmp rfl rfl) rfl) .nil) (vs:=[(zi Uv)]) rfl rfl rfl (by intro v hv; simp at hv; rcases hv with rfl<;>rfl)) (fun aBW=>?_)
       refine jO (.cons .h .nil) (cK (Ro:=(aG aK)) (E:=3) (F:=([]++[])) (xs:=([Uv]:List Int)) (gq (jF (fun _=>rfl)) cB dz) rfl rfl) ?_
       refine bnd hF fun afH arv hF=>eU rfl rfl .no (.cons (.t (.t (.t (.t (.t (.t (.t (.t (.t (.t (.t (.t (.t (.t (.t .h))))))))))))))) (.cons .h .nil)) (.dep rfl (.dep rfl (.dep rfl .nil))) (fun ha=>fT (Ro:=(aG aK)) dh.h kF dw.h rfl rfl rfl (EN ha (.tmp rfl rfl) rfl) (EN ha (.tmp rfl rfl) rfl) arv iF) (fun YZ=>?_)
       refine du ?_
       refine eU rfl rfl .no (.cons .q14 .nil) (.dep rfl (.dep rfl (.dep rfl .nil))) (fun ha=>kg (e':=(zg [(zi qJ.Rel),YZ.1.v])) uf.h.sz (EN ha (.tmp rfl rfl) rfl) (EN ha (.tmp rfl rfl) rfl) rfl rfl rfl rfl rfl) (fun _=>?_)
       refine du ?_
       refine aV ?_
       exact⟨FY,bG _,_,_,_,YZ.1,YZ.2,aA,az,hF⟩
     refine bf ?_
     refine bnd hF fun afI arw hF=>Yx (.cons .q11 (.cons .q9 .nil)) (mV (pre:=[]) (.cons bU (.cons bU .nil)) (fun _=>(.cons .nil)) (dB at0.h bZ (akl arw))) (fun afP=>?_)
     refine aW ?_
     cases hF
     exact⟨_,afP.1,afP.2,_,rfl,aA,az⟩
   rintro _ _ ⟨Pk,Uz,YY,aBX,rfl,rfl,hE⟩
   replace hF:=arq
   try dsimp only at hF
   refine bD hE ?_
   refine aV ?_
   rw[wk vH]
   exact⟨_,bG _,_,vH+1,yP,_,Uz,YY,rfl,aA,arp,az,hF⟩
 obtain⟨arn,arx,ary⟩:=bN aeP
 rw[Bf]at hF
 refine bf ?_
 refine bQ ?_
 refine au ?_
 obtain⟨YX,aoV,aeR⟩:=bind_some hF
 refine gX (fun f' cs'=>∃(Pm Pn:List Int)(Po:Int)(UB:Sv)(Y0:List Nat)(UC:Sv)(Y1:List Nat)(g:Fr),YX= .inr (Pm,Pn,Po)/\f'=aM g [(1,(pz k1)),(3,(pz k2)),(5,p5.1.v),(6,p8.1.v),(7,(pz k9)),(8,(zi Po)),(9,(zi (qK:Int)))]/\aL cs' [bi k1 39 (zg [ae.v,ay.v]),ah ae ai.Head,bH ay ai.Atoms,b_ k2 136 (.agg ([(.slice none 0 0),(.slice none 0 0)]:List Value).toArray),bC p5.2 p5.1 r3,ah p8.1 r6,b_ k9 136 (zg [UB.v,UC.v]),bC Y0 UB Pm,bC Y1 UC Pn]) ?_ ?_
 · replace hF:=aoV
   refine bn ?_
   obtain⟨Ux,aoW,arz⟩:=bind_some hF
   refine gX (fun f' cs'=>∃(F9:Int)(g:Fr),F9=Ux/\f'=aM g [(1,(pz k1)),(3,(pz k2)),(5,p5.1.v),(6,p8.1.v),(7,(pz k9)),(8,(zi F9)),(9,(zi (qK:Int)))]/\aL cs' [bi k1 39 (zg [ae.v,ay.v]),ah ae ai.Head,bH ay ai.Atoms,b_ k2 136 (.agg ([(.slice none 0 0),(.slice none 0 0)]:List Value).toArray),bC p5.2 p5.1 r3,ah p8.1 r6,b_ k9 136 (zg [v193.v,v196.v]),bC Cz v193 mM,bC CB v196 mO]) ?_ ?_
   · replace hF:=aoW
     refine bn (bF (m:=fuel) (fun F3 f' cs'=>∃(g:Fr)(Cy:Int),f'=aM g [(1,(pz k1)),(3,(pz k2)),(5,p5.1.v),(6,p8.1.v),(7,(pz k9)),(8,(zi Cy)),(9,(zi (qK:Int)))]/\aL cs' [bi k1 39 (zg [ae.v,ay.v]),ah ae ai.Head,bH ay ai.Atoms,b_ k2 136 (.agg ([(.slice none 0 0),(.slice none 0 0)]:List Value).toArray),bC p5.2 p5.1 r3,ah p8.1 r6,b_ k9 136 (zg [v193.v,v196.v]),bC Cz v193 mM,bC CB v196 mO]/\DT r3 F3 Cy=some Ux) ⟨_,_,aA,az,hF⟩ ?_)
     rintro F3 _ _ ⟨aBY,Cy,rfl,hE,hF⟩
     refine bD hE ?_
     rcases F3 with _|F3
     · rw[DT]at hF
       exact absurd hF (by simp)
     rw[DT]at hF
     refine aU ?_
     refine bnd hF fun afJ arA hF=>dZ (.cons .q4 .nil) (lF bU (fun _=>.nil) (dB OD.h bZ (IQ arA))) (fun _=>?_)
     refine au ?_
     refine Ci hF (fun arB hF=>?_) (fun arB hF=>?_)
     · refine au ?_
       refine bn (EJ (Cm (zi Cy) rfl rfl ?_))
       refine bq ?_
       exact⟨F3,bG _,_,_,aA,az,hF⟩
     exact bO hF
   rintro _ _ ⟨F9,aBZ,rfl,rfl,hE⟩
   replace hF:=arz
   try dsimp only at hF
   refine bD hE ?_
   refine aV ?_
   refine Ci hF (fun arC hF=>?_) (fun arC hF=>?_)
   · refine au ?_
     refine dQ rfl (cz (g:=true) gz.h fB.h .nil (vs:=[]) rfl rfl rfl (by simp)) (fun afQ=>?_)
     refine dP (.cons .h .nil) (cK (Ro:=iT) (E:=147) (F:=[]) (xs:=([]:List Fact)) cB rfl rfl) ?_
     refine aI (jm dV.h rfl (vs:=[]) .nil (cells:=[(.slice none 0 0),(.slice none 0 0)]) rfl) ?_
     refine au ?_
     refine As (.agg ([(.slice none 0 0),(.slice none 0 0)]:List Value).toArray) ?_
     refine bq ?_
     cases hF
     replace hF:=aeR
     try dsimp only at hF
     cases hF
     exact iX (⟨(some ⟨afQ,0,none⟩),0,1⟩,(afQ::[]),⟨none,0,0⟩,[],⟨none,0,0⟩,[]) (.tmp rfl rfl (.cellA rfl rfl .h rfl ku.h dV.h.sz rfl rfl (.tmp rfl rfl .nil))) rfl (.conv .nil (iD (Ro:=(aG aK)) (E:=3)) (.cons .nil) (.conv .nil (iD (Ro:=(aG aK)) (E:=3)) (.cons .nil) (.sel (.cons .q3 (.cons (.t .h) (.cons .h .nil))))))
   refine au ?_
   refine dE [0,1,2,3,4,5,6,7] [0,0,0,6,14,0,63,127] [6,7] mixed (by decide+kernel) ?_
   refine fA rfl .no .q6 (fun ha hp=>lC ku.h dV.h.sz rfl (EN ha (.tmp rfl rfl) rfl) hp.2 rfl) ?_
   refine bS ?_
   refine Di arx (fun aB0 aB1=>?_)
   refine Dl bY ?_
   refine du ?_
   refine bnd hF fun YW arD hF=>NE rfl rfl .no (.cons .q9 (.cons .q8 .nil)) (.dep rfl .nil) (fun ha=>mV (pre:=[]) (.cons bU (.cons bU .nil)) (fun _=>(.cons (.cons .nil))) (dB aeB.h (.cons (EN ha (.tmp rfl rfl) rfl) (.cons (EN ha (.tmp rfl rfl) rfl) (.cons (EN ha (.tmp rfl rfl) rfl) .nil))) (abV arD))) (fun CG=>?_)
   refine eU rfl rfl .no (.cons .q11 .nil) (.dep rfl .nil) (fun ha=>kg (e':=(zg [CG.1.v,CG.2.2.1.v])) (v:=(zg [CG.1.v,CG.2.2.1.v])) dV.h.sz (EN ha (.tmp rfl rfl) rfl) (EN ha (.tmp rfl rfl) rfl) rfl rfl rfl rfl rfl) (fun _=>?_)
   refine du ?_
   refine aV ?_
   cases hF
   exact⟨_,_,_,CG.1,CG.2.1,CG.2.2.1,CG.2.2.2,_,rfl,aA,az⟩
 rintro _ _ ⟨Pm,Pn,Po,UB,Y0,UC,Y1,aB2,rfl,rfl,hE⟩
 replace hF:=aeR
 try dsimp only at hF
 refine bD hE ?_
 refine aV ?_
 rw[wk qK]
 exact⟨_,bG _,_,qK+1,yQ,_,_,_,UB,Y0,UC,Y1,rfl,aA,ary,az,hF⟩
def Bq(nS:(List Fact)×aY×Bool):List Fact->Nat->(List Fact)->Option ((List Fact)×aY×Bool)
 |[],xK,CJ=>some (CJ,nS.2.1,nS.2.2)
 |JS::yR,xK,CJ=>(if (decide ((JS.Rel:Int)<3))then (
       (app CJ ([JS]:List Fact)).bind fun afR=>
       some afR)
     else (
       some CJ)).bind fun Y2=>
   match Y2 with
   |Pp=>Bq nS yR (xK+1) Pp
def yn(r4:Query)(fuel:Nat):List Int->Nat->(List Atom)->Option ((List Fact)×aY×Bool)
 |[],Aa,sI=>(K6 fuel (⟨r4.Head,sI⟩:Query)).bind fun nS=>
   Bq nS nS.1 0 ([]:List Fact)
 |JU::yS,Aa,sI=>(app sI ([(⟨3,([JU]:List Int)⟩:Atom)]:List Atom)).bind fun z213=>
   yn r4 fuel yS (Aa+1) z213
def Mi(fuel:Nat)(ed:Query)(ai:Query):Option ((List Fact)×aY×Bool):=
 (Jf ed).bind fun r4=>
 (Ic ai).bind fun r8=>
 yn r4 fuel r8 0 r4.Atoms
theorem ajt{fuel:Nat}{ed:Query}{ae ay:Sv}{ai:Query}{aC aR:Sv}{R:(List Fact)×aY×Bool}(hF:Mi fuel ed ai=some R):
   Fw.Spec Tryz.prog 155 [(zg [ae.v,ay.v]),(zg [aC.v,aR.v])] [ah ae ed.Head,bH ay ed.Atoms,ah aC ai.Head,bH aR ai.Atoms] (fun p:Sv×List Nat×Sv×List Nat×Sv×List Nat=>(.tuple [p.1.v,(zg [p.2.2.1.v,p.2.2.2.2.1.v]),(.bool R.2.2)].toArray)) (fun p=>[Ya p.2.1 p.1 R.1,bC p.2.2.2.1 p.2.2.1 R.2.1.Vars,bC p.2.2.2.2.2 p.2.2.2.2.1 R.2.1.Values]):=by
 refine Se 65 Tryz.func155 [.tmp 4,.cell 5 136,.tmp 6] ?_
 intro H0 F0
 unfold Mi at hF
 refine au ?_
 refine bB (fun k1=>?_)
 refine bB (fun k2=>?_)
 refine au ?_
 refine dH (fun k3=>?_)
 refine aU ?_
 refine bnd hF fun r4 hx5 hF=>Dg (abU hx5) (fun p6=>?_)
 refine dH (fun k7=>?_)
 refine As (zg [p6.1.v,p6.2.2.1.v]) ?_
 refine bq ?_
 refine bnd hF fun r8 bP hF=>eZ (aaG bP) (fun og=>?_)
 refine aZ ?_
 refine bn (rZ .h bU ?_)
 refine bF (m:=r8.length) (fun afS f' cs'=>∃(g:Fr)(Aa:Nat)(yS:List Int)(sI:List Atom)(UD:Sv)(afT:List Nat),afS=yS.length/\f'=aM g [(5,(pz k3)),(7,(pz k7)),(8,og.1.v),(9,(zi (Aa:Int)))]/\List.drop Aa r8=yS/\aL cs' [b_ k3 136 (.agg ([(.slice none 0 0),(.slice none 0 0)]:List Value).toArray),b_ k7 39 (zg [p6.1.v,UD.v]),bC p6.2.1 p6.1 r4.Head,rD afT UD sI,ah og.1 r8]/\yn r4 fuel yS Aa sI=some R) ⟨_,0,_,_,p6.2.2.1,p6.2.2.2,rfl,aA,rfl,az,hF⟩ ?_
 rintro afS _ _ ⟨auX,Aa,yS,sI,UD,afT,rfl,rfl,aeS,hE,hF⟩
 refine Kb hE r8 (fun axS=>?_)
 rcases yS with _|⟨JU,yS⟩
 · have arE:=dn aeS
   rw[yn]at hF
   refine bf ?_
   refine bR ?_
   refine aZ ?_
   refine bnd hF fun nS arF hF=>atg (.cons .q3 (.cons .q2 .nil)) (mV (pre:=[]) (.cons bU (.cons bU .nil)) (fun _=>(.cons (.cons (.cons .nil)))) (dB atZ.h bZ (ah5 arF))) (fun kH=>?_)
   refine au ?_
   refine zx ?_
   refine zx ?_
   refine zx ?_
   refine dH (fun JV=>?_)
   refine au ?_
   refine As (zg [kH.2.2.1.v,kH.2.2.2.2.1.v]) ?_
   refine bq ?_
   refine dQ rfl (cz (g:=true) gz.h fB.h .nil (vs:=[]) rfl rfl rfl (by simp)) (fun afU=>?_)
   refine dP (.cons .h .nil) (cK (Ro:=(aG m_)) (E:=147) (F:=[]) (xs:=([]:List Fact)) cB rfl rfl) ?_
   refine aZ ?_
   refine bn (rZ .q4 bU ?_)
   refine bF (m:=nS.1.length) (fun afV f' cs'=>∃(g:Fr)(xK:Nat)(yR CJ:List Fact)(Pq:Sv)(UE:List Nat),afV=yR.length/\f'=aM g [(5,(pz k3)),(10,kH.1.v),(11,(pz JV)),(12,(.bool nS.2.2)),(13,Pq.v),(14,(zi (xK:Int)))]/\List.drop xK nS.1=yR/\aL cs' [b_ k3 136 (.agg ([(.slice none 0 0),(.slice none 0 0)]:List Value).toArray),dY kH.1 nS.1,b_ JV 136 (zg [kH.2.2.1.v,kH.2.2.2.2.1.v]),bC kH.2.2.2.1 kH.2.2.1 nS.2.1.Vars,bC kH.2.2.2.2.2 kH.2.2.2.2.1 nS.2.1.Values,Ya UE Pq CJ]/\Bq nS yR xK CJ=some R) ⟨_,0,_,_,⟨(some ⟨afU,0,none⟩),0,1⟩,(afU::[]),rfl,aA,rfl,az,hF⟩ ?_
   rintro afV _ _ ⟨aB3,xK,yR,CJ,Pq,UE,rfl,rfl,aeT,hE,hF⟩
   refine Kb hE nS.1 (fun axT=>?_)
   rcases yR with _|⟨JS,yR⟩
   · have arG:=dn aeT
     rw[Bq]at hF
     refine bf ?_
     refine bR ?_
     refine aU ?_
     refine dE [0,1,2,3,4,5] [0,0,0,1,11,31] [4] mixed (by decide+kernel) ?_
     refine du ?_
     refine fA rfl .no .q2 (fun ha hp=>lC ku.h dV.h.sz rfl (EN ha (.tmp rfl rfl) rfl) hp.2 rfl) ?_
     refine bS ?_
     refine eU rfl rfl .no (.cons .h .nil) (.dep rfl .nil) (fun ha=>kg (e':=(zg [kH.2.2.1.v,kH.2.2.2.2.1.v])) (v:=(zg [kH.2.2.1.v,kH.2.2.2.2.1.v])) dV.h.sz (EN ha (.tmp rfl rfl) rfl) (EN ha (.tmp rfl rfl) rfl) rfl rfl rfl rfl rfl) (fun _=>?_)
     refine bS ?_
     refine au ?_
     cases hF
     exact iX (Pq,UE,kH.2.2.1,kH.2.2.2.1,kH.2.2.2.2.1,kH.2.2.2.2.2) (.tmp rfl rfl (.cellA rfl rfl .h rfl ku.h dV.h.sz rfl rfl (.tmp rfl rfl .nil))) rfl (.sel (.cons .q5 (.cons .q3 (.cons .q3 .nil))))
   obtain⟨arG,aeU,arH⟩:=bN aeT
   rw[Bq]at hF
   refine bf ?_
   refine bQ ?_
   refine au ?_
   obtain⟨Y2,aoX,arI⟩:=bind_some hF
   refine gX (fun f' cs'=>∃(Pp:List Fact)(UF:Sv)(Y3:List Nat)(g:Fr),Pp=Y2/\f'=aM g [(5,(pz k3)),(10,kH.1.v),(11,(pz JV)),(12,(.bool nS.2.2)),(13,UF.v),(14,(zi (xK:Int)))]/\aL cs' [b_ k3 136 (.agg ([(.slice none 0 0),(.slice none 0 0)]:List Value).toArray),dY kH.1 nS.1,b_ JV 136 (zg [kH.2.2.1.v,kH.2.2.2.2.1.v]),bC kH.2.2.2.1 kH.2.2.1 nS.2.1.Vars,bC kH.2.2.2.2.2 kH.2.2.2.2.1 nS.2.1.Values,Ya Y3 UF Pp]) ?_ ?_
   · replace hF:=aoX
     refine bn (fe (Cm kH.1.v rfl rfl ?_))
     refine au ?_
     refine Ai aeU (fun aB4 aB5=>?_)
     refine au ?_
     refine Al XB ?_
     refine aW ?_
     refine Ci hF (fun arJ hF=>?_) (fun arJ hF=>?_)
     · refine aU ?_
       refine Ai aeU (fun aB6 aB7=>?_)
       refine iM (oh JS) oU (fun auY=>?_)
       refine dQ rfl (cz (g:=true) gz.h fB.h bZ (vs:=[(zg [(zi JS.Rel),auY.v])]) rfl rfl rfl (by intro v hv; simp at hv; rcases hv with rfl<;>rfl)) (fun auZ=>?_)
       refine dP (.cons .h (.rd .h rfl .nil)) (cK (Ro:=(aG m_)) (E:=147) (F:=([]++[])) (xs:=([JS]:List Fact)) (gq aql cB dz) rfl rfl) ?_
       refine bnd hF fun afR arK hF=>dZ (.cons .q9 (.cons .h .nil)) (fT (Ro:=(aG m_)) gz.h FP fB.h rfl rfl rfl (.tmp rfl rfl) (.tmp rfl rfl) arK iF) (fun afW=>?_)
       refine aW ?_
       cases hF
       exact⟨_,afW.1,afW.2,_,rfl,aA,az⟩
     refine au ?_
     cases hF
     exact⟨_,Pq,UE,_,rfl,aA,az⟩
   rintro _ _ ⟨Pp,UF,Y3,aB8,rfl,rfl,hE⟩
   replace hF:=arI
   try dsimp only at hF
   refine bD hE ?_
   refine aV ?_
   rw[wk xK]
   exact⟨_,bG _,_,xK+1,yR,_,UF,Y3,rfl,aA,arH,az,hF⟩
 obtain⟨arE,Yh,T9⟩:=bN aeS
 rw[yn]at hF
 refine bf ?_
 refine bQ ?_
 refine aW ?_
 refine oW [0,1,2,3,4,5,6,7,8,9,10,11] [0,1,0,0,12,28,60,124,252,511,1023,2047] [9,11] mixed (by decide+kernel) ?_
 refine du ?_
 refine fA rfl .no (.t .h) (fun ha hp=>gu (v:=UD.v) OC.h (EN ha (.tmp rfl rfl) rfl) hp.2 rfl rfl) ?_
 refine bS ?_
 refine Di Yh (fun aB9 aB_=>?_)
 refine Dl bY ?_
 refine jI rfl .no rfl (fun ha=>cz (g:=true) (len:=1) (parts:=[(0,.tmp 30)]) dh.h dw.h (.cons (EN ha (.tmp rfl rfl) rfl) .nil) (vs:=[(zi JU)]) rfl rfl rfl (by intro v hv; simp at hv; rcases hv with rfl<;>rfl)) (fun CE=>?_)
 refine jO (.cons .h .nil) (cK (Ro:=(aG aK)) (E:=3) (F:=([]++[])) (xs:=([JU]:List Int)) (gq (jF (fun _=>rfl)) cB dz) rfl rfl) ?_
 refine dX rfl .no (fun ha=>jm ou.h rfl (vs:=[(zi 3),(.slice (some ⟨CE,0,none⟩) 1 1)]) (.cons (EN ha (.int _ _) rfl) (.cons (EN ha (.tmp rfl rfl) rfl) .nil)) (cells:=[(zi 3),(.slice (some ⟨CE,0,none⟩) 1 1)]) rfl) ?_
 refine jI rfl .no rfl (fun ha=>cz (g:=true) (len:=1) (parts:=[(0,.tmp 32)]) uh.h ou.h (.cons (EN ha (.tmp rfl rfl) rfl) .nil) (vs:=[(zg [(zi 3),(.slice (some ⟨CE,0,none⟩) 1 1)])]) rfl rfl rfl (by intro v hv; simp at hv; rcases hv with rfl<;>rfl)) (fun aB'=>?_)
 refine jO (.cons .h (.cons .h .nil)) (cK (Ro:=kM) (E:=123) (F:=((CE::([]++[]))++[])) (xs:=([(⟨3,([JU]:List Int)⟩:Atom)]:List Atom)) (gq (NW (v0:=⟨(some ⟨CE,0,none⟩),1,1⟩) (a:=(⟨3,([JU]:List Int)⟩:Atom))) cB dz) rfl rfl) ?_
 refine bnd hF fun z213 arL hF=>eU rfl rfl .no (.cons .q5 (.cons .h .nil)) (.dep rfl (.dep rfl (.dep rfl .nil))) (fun ha=>fT (Ro:=kM) uh.h Um ou.h rfl rfl rfl (EN ha (.tmp rfl rfl) rfl) (EN ha (.tmp rfl rfl) rfl) arL iF) (fun Y4=>?_)
 refine du ?_
 refine eU rfl rfl .no (.cons .q3 .nil) (.dep rfl (.dep rfl (.dep rfl .nil))) (fun ha=>kg (e':=(zg [p6.1.v,Y4.1.v])) Uk.h.sz (EN ha (.tmp rfl rfl) rfl) (EN ha (.tmp rfl rfl) rfl) rfl rfl rfl rfl rfl) (fun _=>?_)
 refine du ?_
 refine aV ?_
 rw[wk Aa]
 exact⟨_,bG _,_,Aa+1,yS,_,Y4.1,Y4.2,rfl,aA,T9,az,hF⟩
def BD(aj:aY):List Int->Nat->(List Int)->Option ((List Int))
 |[],k10,c4=>some c4
 |lv::nL,k10,c4=>(yF aj lv).bind fun l5=>
   (app c4 ([l5]:List Int)).bind fun z25=>
   BD aj nL (k10+1) z25
def I1(ai:Query)(aj:aY):Option ((List Int)):=
 BD aj ai.Head 0 ([]:List Int)
theorem abv{ai:Query}{ae ay:Sv}{aj:aY}{aC aR:Sv}{R:(List Int)}(hF:I1 ai aj=some R):
   Fw.Spec Tryz.prog 84 [(zg [ae.v,ay.v]),(zg [aC.v,aR.v])] [ah ae ai.Head,bH ay ai.Atoms,ah aC aj.Vars,ah aR aj.Values] (fun p:Sv×List Nat=>p.1.v) (fun p=>[bC p.2 p.1 R]):=by
 refine Se 26 Tryz.func84 [.tmp 4] ?_
 intro H0 F0
 unfold I1 at hF
 refine au ?_
 refine bB (fun k1=>?_)
 refine bB (fun k2=>?_)
 refine bq ?_
 refine dQ rfl (cz (g:=true) dh.h dw.h .nil (vs:=[]) rfl rfl rfl (by simp)) (fun k3=>?_)
 refine dP (.cons .h .nil) (cK (Ro:=(aG aK)) (E:=3) (F:=[]) (xs:=([]:List Int)) cB rfl rfl) ?_
 refine aZ ?_
 refine bn (bF (m:=ai.Head.length) (fun m8 f' cs'=>∃(g:Fr)(k10:Nat)(nL c4:List Int)(v5:Sv)(F6:List Nat),m8=nL.length/\f'=aM g [(2,(pz k1)),(3,(pz k2)),(5,v5.v),(6,(zi (k10:Int)))]/\List.drop k10 ai.Head=nL/\aL cs' [bi k1 39 (zg [ae.v,ay.v]),ah ae ai.Head,bH ay ai.Atoms,bi k2 136 (zg [aC.v,aR.v]),ah aC aj.Vars,ah aR aj.Values,bC F6 v5 c4]/\BD aj nL k10 c4=some R) ⟨_,0,_,_,⟨(some ⟨k3,0,none⟩),0,1⟩,(k3::[]),rfl,aA,rfl,az,hF⟩ ?_)
 rintro m8 _ _ ⟨g9,k10,nL,c4,v5,F6,rfl,rfl,Ps,hE,hF⟩
 refine Kb hE ai.Head (fun arM=>?_)
 rcases nL with _|⟨lv,nL⟩
 · have Y5:=dn Ps
   rw[BD]at hF
   refine di ?_
   refine bR ?_
   refine dK ?_
   cases hF
   exact Er (v5,F6)
 obtain⟨Y5,jS,JP⟩:=bN Ps
 rw[BD]at hF
 refine di ?_
 refine bQ ?_
 refine aW ?_
 refine oW [0,1,2,3,4,5,6,7,8,9,10] [0,0,0,4,0,28,60,126,254,511,1023] [7,9] mixed (by decide+kernel) ?_
 refine ve ?_
 refine Di jS (fun k19 Ke=>?_)
 refine Dl bY ?_
 refine bnd hF fun l5 sJ hF=>dR (Wo sJ) (fun _=>?_)
 refine jI rfl .no rfl (fun ha=>cz (g:=true) (len:=1) (parts:=[(0,.tmp 22)]) dh.h dw.h (.cons (EN ha (.tmp rfl rfl) rfl) .nil) (vs:=[(zi l5)]) rfl rfl rfl (by intro v hv; simp at hv; rcases hv with rfl<;>rfl)) (fun k24=>?_)
 refine jO (.cons .h .nil) (cK (Ro:=(aG aK)) (E:=3) (F:=([]++[])) (xs:=([l5]:List Int)) (gq (jF (fun _=>rfl)) cB dz) rfl rfl) ?_
 refine bnd hF fun z25 nk hF=>eU rfl rfl .no (.cons .q8 (.cons .h .nil)) (.dep rfl .nil) (fun ha=>fT (Ro:=(aG aK)) dh.h kF dw.h rfl rfl rfl (EN ha (.tmp rfl rfl) rfl) (EN ha (.tmp rfl rfl) rfl) nk iF) (fun p27=>?_)
 refine bS ?_
 refine aV ?_
 rw[wk k10]
 exact⟨_,bG _,_,k10+1,nL,_,p27.1,p27.2,rfl,aA,JP,az,hF⟩
def Jg(aj:aY):Option (aY):=
 (app ([]:List Int) aj.Vars).bind fun z5=>
 (app ([]:List Int) aj.Values).bind fun z8=>
 some (⟨z5,z8⟩:aY)
theorem abW{aj:aY}{ae ay:Sv}{R:aY}(hF:Jg aj=some R):
   Fw.Spec Tryz.prog 234 [(zg [ae.v,ay.v])] [ah ae aj.Vars,ah ay aj.Values] (fun p:Sv×List Nat×Sv×List Nat=>(zg [p.1.v,p.2.2.1.v])) (fun p=>[bC p.2.1 p.1 R.Vars,bC p.2.2.2 p.2.2.1 R.Values]):=by
 refine Se 12 Tryz.func234 [.cell 2 136] ?_
 intro H0 F0
 unfold Jg at hF
 refine au ?_
 refine bB (fun k1=>?_)
 refine dH (fun k2=>?_)
 refine au ?_
 refine dE [0,1,2,4,5,6,3,7,8,9] [0,0,2,7,0,0,32,127,255,511] [3,7,9] mixed (by decide+kernel) ?_
 refine jI rfl .no rfl (fun ha=>cz (g:=true) (len:=0) (parts:=[]) dh.h dw.h .nil (vs:=[]) rfl rfl rfl (by simp)) (fun k3=>?_)
 refine jO (.cons .h .nil) (cK (Ro:=(aG aK)) (E:=3) (F:=[]) (xs:=([]:List Int)) cB rfl rfl) ?_
 refine bS ?_
 refine jI rfl .no rfl (fun ha=>cz (g:=true) (len:=0) (parts:=[]) dh.h dw.h .nil (vs:=[]) rfl rfl rfl (by simp)) (fun k4=>?_)
 refine jO (.cons .h .nil) (cK (Ro:=(aG aK)) (E:=3) (F:=[]) (xs:=([]:List Int)) cB rfl rfl) ?_
 refine bS ?_
 refine bnd hF fun z5 hx6 hF=>eU rfl rfl .no (.cons (.t .h) (.rd .q3 rfl .nil)) (.own .h (by simp[aQ]) (.dep rfl .nil)) (fun ha=>fT (Ro:=(aG aK)) dh.h kF dw.h rfl rfl rfl (EN ha (.tmp rfl rfl) rfl) (EN ha (.tmp rfl rfl) rfl) hx6 qp) (fun p7=>?_)
 refine bnd hF fun z8 bP hF=>eU rfl rfl .no (.cons (.t .h) (.rd .q4 rfl .nil)) (.dep rfl (.dep rfl .nil)) (fun ha=>fT (Ro:=(aG aK)) dh.h kF dw.h rfl rfl rfl (EN ha (.tmp rfl rfl) rfl) (EN ha (.tmp rfl rfl) rfl) bP qp) (fun og=>?_)
 refine dX rfl .no (fun ha=>jm dV.h rfl (vs:=[p7.1.v,og.1.v]) (.cons (EN ha (.tmp rfl rfl) rfl) (.cons (EN ha (.tmp rfl rfl) rfl) .nil)) (cells:=[p7.1.v,og.1.v]) rfl) ?_
 refine eU rfl rfl .no (.cons .q2 .nil) (.dep rfl (.dep rfl .nil)) (fun ha=>kg (e':=(zg [p7.1.v,og.1.v])) (v:=(zg [p7.1.v,og.1.v])) dV.h.sz (EN ha (.tmp rfl rfl) rfl) (EN ha (.tmp rfl rfl) rfl) rfl rfl rfl rfl rfl) (fun _=>?_)
 refine du ?_
 refine au ?_
 cases hF
 exact Er (p7.1,p7.2,og.1,og.2)
def En(aj:aY)(fQ:Int):Nat->Int->Option (Bool)
 |0,_=>none
 |m3+1,c2=>if ((decide ((c2:Int)<(aj.Vars.length:Int)))&&(decide ((c2:Int)<(aj.Values.length:Int))))then (
     (ix aj.Vars c2).bind fun x13=>
     if ((x13:Int)==fQ)then (
       some true)
     else (
       En aj fQ m3 (IntKind.i64.wrap (c2+1))))
   else (
     some false)
def I4(aj:aY)(fQ:Int):Option (Bool):=
 En aj fQ (((aj.Vars.length:Int)-0).toNat+2) 0
theorem akm{aj:aY}{ae ay:Sv}{fQ:Int}{R:Bool}(hF:I4 aj fQ=some R):
   Fw.Spec Tryz.prog 326 [(zg [ae.v,ay.v]),(zi fQ)] [ah ae aj.Vars,ah ay aj.Values] (fun _:Unit=>(.bool R)) (fun _=>[]):=by
 refine Se 27 Tryz.func326 [.tmp 4] ?_
 intro H0 F0
 unfold I4 at hF
 refine au ?_
 refine bB (fun k1=>?_)
 refine aZ ?_
 refine bn (bF (m:=(((aj.Vars.length:Int)-0).toNat+2)) (fun m3 f' cs'=>∃(g:Fr)(c2:Int),f'=aM g [(1,(zi fQ)),(2,(pz k1)),(5,(zi c2))]/\aL cs' [bi k1 136 (zg [ae.v,ay.v]),ah ae aj.Vars,ah ay aj.Values]/\En aj fQ m3 c2=some R) ⟨_,_,aA,az,hF⟩ ?_)
 rintro m3 _ _ ⟨g4,c2,rfl,hE,hF⟩
 refine bD hE ?_
 rcases m3 with _|m3
 · rw[En]at hF
   exact absurd hF (by simp)
 rw[En]at hF
 refine aW ?_
 refine fE (fun f' cs'=>∃(g:Fr),f'=aM g [(1,(zi fQ)),(2,(pz k1)),(5,(zi c2)),(17,(.bool ((decide ((c2:Int)<(aj.Vars.length:Int)))&&(decide ((c2:Int)<(aj.Values.length:Int))))))]/\aL cs' [bi k1 136 (zg [ae.v,ay.v]),ah ae aj.Vars,ah ay aj.Values]) ?_ ?_
 · refine aZ ?_
   rcases bL (decide ((c2:Int)<(aj.Vars.length:Int)))with dJ|dJ
   · rw[dJ]
     try rw[dJ]at hF; dsimp only[aO,aN]at hF
     refine Cs ?_
     exact⟨_,aA,az⟩
   rw[dJ]
   try rw[dJ]at hF; dsimp only[aO,aN]at hF
   refine bf ?_
   exact⟨_,aA,az⟩
 rintro _ _ ⟨g12,rfl,hE⟩
 refine bD hE ?_
 refine Ci hF (fun nT hF=>?_) (fun nT hF=>?_)
 · refine aZ ?_
   refine zI hF fun x13 aCa hx16 hF=>?_
   refine Ai hx16 (fun k17 j18=>?_)
   refine Al bY ?_
   refine bq ?_
   refine Ci hF (fun pq hF=>?_) (fun pq hF=>?_)
   · exact ze hF
   refine aZ ?_
   exact⟨m3,bG _,_,_,aA,az,hF⟩
 exact ze hF
def D7(bu:Fact):List Int->Nat->(List Int)->(List Int)->Option (aY×Bool)
 |[],rV,wC,wD=>some ((⟨wC,wD⟩:aY),true)
 |x82::zq,rV,wC,wD=>(((yF (⟨wC,wD⟩:aY) x82).bind fun r93=>
     ((w_ x82).bind fun Y6=>
       bif Y6 then ((I4 (⟨wC,wD⟩:aY) x82).bind fun afX=>
         some (!afX))
       else (some false)).bind fun o96=>
     match o96 with
     |c109=>if c109 then (
         (ix bu.Values (rV:Int)).bind fun x112=>
         (BV (⟨wC,wD⟩:aY) x82 x112).bind fun Y7=>
         some (.inr (Y7.Vars,Y7.Values)))
       else (
         (ix bu.Values (rV:Int)).bind fun afY=>
         if ((r93:Int)!=afY)then (
           some (.inl ((⟨[],[]⟩:aY),false)))
         else (
           some (.inr (wC,wD))))):Option (Sum (aY×Bool) ((List Int)×(List Int)))).bind fun o89=>
   match o89 with
   | .inl r=>some r
   | .inr (c130,Pt)=>D7 bu zq (rV+1) c130 Pt
def LK(aj:aY)(aa:Atom)(bu:Fact):Option (aY×Bool):=
 (Jg aj).bind fun r5=>
 if (((aa.Rel:Int)!=bu.Rel)||((((aa.Terms.length:Int):Int)!=(bu.Values.length:Int))||(((aj.Vars.length:Int):Int)!=(aj.Values.length:Int))))then (
   some ((⟨[],[]⟩:aY),false))
 else (
   D7 bu aa.Terms 0 r5.Vars r5.Values)
theorem aiV{aj:aY}{ae ay:Sv}{aa:Atom}{aR:Sv}{bu:Fact}{eP:Sv}{R:aY×Bool}(hF:LK aj aa bu=some R):
   Fw.Spec Tryz.prog 305 [(zg [ae.v,ay.v]),(zg [(zi aa.Rel),aR.v]),(zg [(zi bu.Rel),eP.v])] [ah ae aj.Vars,ah ay aj.Values,ah aR aa.Terms,ah eP bu.Values] (fun p:Sv×List Nat×Sv×List Nat=>(.tuple [(zg [p.1.v,p.2.2.1.v]),(.bool R.2)].toArray)) (fun p=>[bC p.2.1 p.1 R.1.Vars,bC p.2.2.2 p.2.2.1 R.1.Values]):=by
 refine Se 88 Tryz.func305 [.cell 6 136,.tmp 7] ?_
 intro H0 F0
 unfold LK at hF
 refine au ?_
 refine bB (fun k1=>?_)
 refine bB (fun k2=>?_)
 refine bB (fun k3=>?_)
 refine dH (fun k4=>?_)
 refine aU ?_
 refine bnd hF fun r5 hx6 hF=>Dg (abW hx6) (fun p7=>?_)
 refine dH (fun k8=>?_)
 refine As (zg [p7.1.v,p7.2.2.1.v]) ?_
 refine bq ?_
 refine fE (fun f' cs'=>∃(g:Fr),f'=aM g [(4,(pz k2)),(5,(pz k3)),(6,(pz k4)),(8,(pz k8)),(35,(.bool (((aa.Rel:Int)!=bu.Rel)||((((aa.Terms.length:Int):Int)!=(bu.Values.length:Int))||(((aj.Vars.length:Int):Int)!=(aj.Values.length:Int))))))]/\aL cs' [bi k2 123 (zg [(zi aa.Rel),aR.v]),ah aR aa.Terms,bi k3 147 (zg [(zi bu.Rel),eP.v]),ah eP bu.Values,b_ k4 136 (.agg ([(.slice none 0 0),(.slice none 0 0)]:List Value).toArray),b_ k8 136 (zg [p7.1.v,p7.2.2.1.v]),bC p7.2.1 p7.1 r5.Vars,bC p7.2.2.2 p7.2.2.1 r5.Values]) ?_ ?_
 · refine aZ ?_
   rcases bL ((aa.Rel:Int)!=bu.Rel)with pK|pK
   · rw[pK]
     try rw[pK]at hF; dsimp only[aO,aN]at hF
     refine aeM ?_
     exact⟨_,aA,az⟩
   rw[pK]
   try rw[pK]at hF; dsimp only[aO,aN]at hF
   refine N_ ?_
   rcases bL (((aa.Terms.length:Int):Int)!=(bu.Values.length:Int))with lU|lU
   · rw[lU]
     try rw[lU]at hF; dsimp only[aO,aN]at hF
     refine dK ?_
     exact⟨_,aA,az⟩
   rw[lU]
   try rw[lU]at hF; dsimp only[aO,aN]at hF
   refine N_ ?_
   exact⟨_,aA,az⟩
 rintro _ _ ⟨g11,rfl,hE⟩
 refine bD hE ?_
 refine Ci hF (fun arN hF=>?_) (fun arN hF=>?_)
 · refine au ?_
   refine aI (jm dV.h rfl (vs:=[]) .nil (cells:=[(.slice none 0 0),(.slice none 0 0)]) rfl) ?_
   refine As (.agg ([(.slice none 0 0),(.slice none 0 0)]:List Value).toArray) ?_
   refine bq ?_
   cases hF
   exact iX (⟨none,0,0⟩,[],⟨none,0,0⟩,[]) (.cellA rfl rfl .h rfl ku.h dV.h.sz rfl rfl (.tmp rfl rfl .nil)) rfl (.conv .nil (iD (Ro:=(aG aK)) (E:=3)) (.cons .nil) (.conv .nil (iD (Ro:=(aG aK)) (E:=3)) (.cons .nil) (.sel (.cons (.t .h) (.cons .h .nil)))))
 refine aV ?_
 refine bn (bF (m:=aa.Terms.length) (fun m78 f' cs'=>∃(g:Fr)(rV:Nat)(zq wC wD:List Int)(v72:Sv)(QM:List Nat)(v75:Sv)(QN:List Nat),m78=zq.length/\f'=aM g [(4,(pz k2)),(5,(pz k3)),(6,(pz k4)),(8,(pz k8)),(9,(zi (rV:Int)))]/\List.drop rV aa.Terms=zq/\aL cs' [bi k2 123 (zg [(zi aa.Rel),aR.v]),ah aR aa.Terms,bi k3 147 (zg [(zi bu.Rel),eP.v]),ah eP bu.Values,b_ k4 136 (.agg ([(.slice none 0 0),(.slice none 0 0)]:List Value).toArray),b_ k8 136 (zg [v72.v,v75.v]),bC QM v72 wC,bC QN v75 wD]/\D7 bu zq rV wC wD=some R) ⟨_,0,_,_,_,p7.1,p7.2.1,p7.2.2.1,p7.2.2.2,rfl,aA,rfl,az,hF⟩ ?_)
 rintro m78 _ _ ⟨g79,rV,zq,wC,wD,v72,QM,v75,QN,rfl,rfl,afZ,hE,hF⟩
 refine Kb hE aa.Terms (fun azZ=>?_)
 rcases zq with _|⟨x82,zq⟩
 · have au0:=dn afZ
   rw[D7]at hF
   refine di ?_
   refine bR ?_
   refine aZ ?_
   refine As (zg [v72.v,v75.v]) ?_
   refine bq ?_
   cases hF
   exact iX (v72,QM,v75,QN) (.cellA rfl rfl .h rfl ku.h dV.h.sz rfl rfl (.tmp rfl rfl .nil)) rfl (.sel (.cons .q6 (.cons .q6 .nil)))
 obtain⟨au0,JW,au1⟩:=bN afZ
 rw[D7]at hF
 refine di ?_
 refine bQ ?_
 refine au ?_
 obtain⟨o89,arO,af0⟩:=bind_some hF
 refine gX (fun f' cs'=>∃(c130 Pt:List Int)(v131:Sv)(Y8:List Nat)(UG:Sv)(Y9:List Nat)(g:Fr),o89= .inr (c130,Pt)/\f'=aM g [(4,(pz k2)),(5,(pz k3)),(6,(pz k4)),(8,(pz k8)),(9,(zi (rV:Int)))]/\aL cs' [bi k2 123 (zg [(zi aa.Rel),aR.v]),ah aR aa.Terms,bi k3 147 (zg [(zi bu.Rel),eP.v]),ah eP bu.Values,b_ k4 136 (.agg ([(.slice none 0 0),(.slice none 0 0)]:List Value).toArray),b_ k8 136 (zg [v131.v,UG.v]),bC Y8 v131 c130,bC Y9 UG Pt]) ?_ ?_
 · replace hF:=arO
   refine bn (dE [0,1,2,3,4,5,6,7] [0,0,2,0,14,30,63,127] [6] mixed (by decide+kernel) ?_)
   refine fA rfl .no .q5 (fun ha hp=>lC ku.h dV.h.sz rfl (EN ha (.tmp rfl rfl) rfl) hp.2 rfl) ?_
   refine dI ?_
   refine Di JW (fun k91 j92=>?_)
   refine Dl bY ?_
   refine bnd hF fun r93 Y_ hF=>uS rfl rfl .no (.cons .q8 (.cons .q7 .nil)) (.dep rfl .nil) (fun ha=>mV (pre:=[]) (.cons bU (.cons bU .nil)) (fun _=>.nil) (dB aeC.h (.cons (EN ha (.tmp rfl rfl) rfl) (.cons (EN ha (.tmp rfl rfl) rfl) .nil)) (Wo Y_))) (fun _=>?_)
   refine bS ?_
   obtain⟨o96,arP,au2⟩:=bind_some hF
   refine dE [0,1,2,3,4,5,6,7,8,9,10,11,12,13,14,15] [0,1,0,7,15,31,63,127,127,383,127,1919,3967,8191,16383,32767] [5,13] mixed (by decide+kernel) ?_
   refine mD (fun f' cs'=>∃(c109:Bool)(g:Fr),c109=o96/\f'=aM g [(4,(pz k2)),(5,(pz k3)),(6,(pz k4)),(8,(pz k8)),(9,(zi (rV:Int))),(10,(zi r93)),(66,(.bool c109))]/\aL cs' [bi k2 123 (zg [(zi aa.Rel),aR.v]),ah aR aa.Terms,bi k3 147 (zg [(zi bu.Rel),eP.v]),ah eP bu.Values,b_ k4 136 (.agg ([(.slice none 0 0),(.slice none 0 0)]:List Value).toArray),b_ k8 136 (zg [v72.v,v75.v]),bC QM v72 wC,bC QN v75 wD]) ?_ ?_
   · replace hF:=arP
     refine dI ?_
     refine Di JW (fun k98 j99=>?_)
     refine Dl bY ?_
     refine bnd hF fun Y6 hx101 hF=>dR (EG hx101) (fun _=>?_)
     refine du ?_
     rcases bL Y6 with u_|u_
     · rw[u_]
       try rw[u_]at hF; dsimp only[aO,aN]at hF
       refine fA rfl (.on 57 rfl rfl rfl) .q9 (fun ha hp=>lC ku.h dV.h.sz rfl (EN ha (.tmp rfl rfl) rfl) hp.2 rfl) ?_
       refine dI ?_
       refine Di JW (fun au3 au4=>?_)
       refine Dl bY ?_
       refine bnd hF fun afX arQ hF=>uS rfl rfl (.on 57 rfl rfl rfl) (.cons .q2 (.cons .q2 .nil)) (.dep rfl .nil) (fun ha=>mV (pre:=[]) (.cons bU (.cons bU .nil)) (fun _=>.nil) (dB aqp.h (.cons (EN ha (.tmp rfl rfl) rfl) (.cons (EN ha (.tmp rfl rfl) rfl) .nil)) (akm arQ))) (fun _=>?_)
       exact eO hF
     rw[u_]
     try rw[u_]at hF; dsimp only[aO,aN]at hF
     exact eO hF
   rintro _ _ ⟨c109,aCb,rfl,rfl,hE⟩
   replace hF:=au2
   try dsimp only at hF
   refine bD hE ?_
   refine Ci hF (fun Yi hF=>?_) (fun Yi hF=>?_)
   · refine oW [0,1,2,3,4,5,6,7,8,9,10,11,12] [0,0,2,0,14,30,0,64,0,448,960,2047,4095] [11,12] mixed (by decide+kernel) ?_
     refine fA rfl .no .q5 (fun ha hp=>lC ku.h dV.h.sz rfl (EN ha (.tmp rfl rfl) rfl) hp.2 rfl) ?_
     refine dI ?_
     refine Di JW (fun af1 af2=>?_)
     refine Dl bY ?_
     refine dI ?_
     refine zI hF fun x112 az0 hx115 hF=>?_
     refine Di hx115 (fun aCc aCd=>?_)
     refine Dl bY ?_
     refine bnd hF fun Y7 arR hF=>NE rfl rfl .no (.cons .q9 (.cons .q8 .nil)) (.dep rfl .nil) (fun ha=>mV (pre:=[]) (.cons bU (.cons bU .nil)) (fun _=>(.cons (.cons .nil))) (dB aeB.h (.cons (EN ha (.tmp rfl rfl) rfl) (.cons (EN ha (.tmp rfl rfl) rfl) (.cons (EN ha (.tmp rfl rfl) rfl) .nil))) (abV arR))) (fun CK=>?_)
     refine eU rfl rfl .no (.cons .q11 .nil) (.dep rfl .nil) (fun ha=>kg (e':=(zg [CK.1.v,CK.2.2.1.v])) (v:=(zg [CK.1.v,CK.2.2.1.v])) dV.h.sz (EN ha (.tmp rfl rfl) rfl) (EN ha (.tmp rfl rfl) rfl) rfl rfl rfl rfl rfl) (fun _=>?_)
     refine du ?_
     cases hF
     exact⟨_,_,CK.1,CK.2.1,CK.2.2.1,CK.2.2.2,_,rfl,aA,az⟩
   refine aV ?_
   refine zI hF fun afY az1 Yj hF=>?_
   refine Ai Yj (fun aCe aCf=>?_)
   refine Al bY ?_
   refine aW ?_
   refine Ci hF (fun arS hF=>?_) (fun arS hF=>?_)
   · refine au ?_
     refine aI (jm dV.h rfl (vs:=[]) .nil (cells:=[(.slice none 0 0),(.slice none 0 0)]) rfl) ?_
     refine As (.agg ([(.slice none 0 0),(.slice none 0 0)]:List Value).toArray) ?_
     refine bq ?_
     cases hF
     replace hF:=af0
     try dsimp only at hF
     cases hF
     exact iX (⟨none,0,0⟩,[],⟨none,0,0⟩,[]) (.cellA rfl rfl .h rfl ku.h dV.h.sz rfl rfl (.tmp rfl rfl .nil)) rfl (.conv .nil (iD (Ro:=(aG aK)) (E:=3)) (.cons .nil) (.conv .nil (iD (Ro:=(aG aK)) (E:=3)) (.cons .nil) (.sel (.cons (.t .h) (.cons .h .nil)))))
   refine au ?_
   cases hF
   exact⟨_,_,v72,QM,v75,QN,_,rfl,aA,az⟩
 rintro _ _ ⟨c130,Pt,v131,Y8,UG,Y9,aCg,rfl,rfl,hE⟩
 replace hF:=af0
 try dsimp only at hF
 refine bD hE ?_
 refine aV ?_
 rw[wk rV]
 exact⟨_,bG _,_,rV+1,zq,_,_,v131,Y8,UG,Y9,rfl,aA,au1,az,hF⟩
def Br(aa:Atom)(eB:aY):List Fact->Nat->(List aY)->Option ((List aY))
 |[],k26,c20=>some c20
 |x28::nH,k26,c20=>((LK eB aa x28).bind fun n_=>
     if n_.2 then (
       (app c20 ([n_.1]:List aY)).bind fun z48=>
       some z48)
     else (
       some c20)).bind fun wz=>
   match wz with
   |wy=>Br aa eB nH (k26+1) wy
def Bt(aa:Atom)(dW:List Fact):List aY->Nat->(List aY)->Option ((List aY))
 |[],k9,c3=>some c3
 |eB::dU,k9,c3=>(Br aa eB dW 0 c3).bind fun kJ=>
   match kJ with
   |QO=>Bt aa dW dU (k9+1) QO
def Sk(ak:List aY)(aa:Atom)(dW:List Fact):Option ((List aY)):=
 Bt aa dW ak 0 ([]:List aY)
theorem aju{ak:List aY}{ae:Sv}{aa:Atom}{aR:Sv}{dW:List Fact}{bJ:Sv}{R:(List aY)}(hF:Sk ak aa dW=some R):
   Fw.Spec Tryz.prog 280 [ae.v,(zg [(zi aa.Rel),aR.v]),bJ.v] [tY ae ak,ah aR aa.Terms,dY bJ dW] (fun p:Sv×List Nat=>p.1.v) (fun p=>[rE p.2 p.1 R]):=by
 refine Se 44 Tryz.func280 [.tmp 6] ?_
 intro H0 F0
 unfold Sk at hF
 refine au ?_
 refine bB (fun k1=>?_)
 refine bq ?_
 refine dQ rfl (cz (g:=true) zM.h dV.h .nil (vs:=[]) rfl rfl rfl (by simp)) (fun k2=>?_)
 refine dP (.cons .h .nil) (cK (Ro:=qx) (E:=136) (F:=[]) (xs:=([]:List aY)) cB rfl rfl) ?_
 refine aZ ?_
 refine bn (bF (m:=ak.length) (fun m7 f' cs'=>∃(g:Fr)(k9:Nat)(dU c3:List aY)(v4:Sv)(F5:List Nat),m7=dU.length/\f'=aM g [(0,ae.v),(2,bJ.v),(4,(pz k1)),(7,v4.v),(8,(zi (k9:Int)))]/\List.drop k9 ak=dU/\aL cs' [tY ae ak,dY bJ dW,bi k1 123 (zg [(zi aa.Rel),aR.v]),ah aR aa.Terms,rE F5 v4 c3]/\Bt aa dW dU k9 c3=some R) ⟨_,0,_,_,⟨(some ⟨k2,0,none⟩),0,1⟩,(k2::[]),rfl,aA,rfl,az,hF⟩ ?_)
 rintro m7 _ _ ⟨g8,k9,dU,c3,v4,F5,rfl,rfl,lI,hE,hF⟩
 refine Kb hE ak (fun Jy=>?_)
 rcases dU with _|⟨eB,dU⟩
 · have sH:=dn lI
   rw[Bt]at hF
   refine bf ?_
   refine bR ?_
   refine dK ?_
   cases hF
   exact Er (v4,F5)
 obtain⟨sH,iy,qb⟩:=bN lI
 rw[Bt]at hF
 refine bf ?_
 refine bQ ?_
 refine au ?_
 obtain⟨kJ,uZ,vD⟩:=bind_some hF
 refine gX (fun f' cs'=>∃(QO:List aY)(v58:Sv)(F59:List Nat)(g:Fr),QO=kJ/\f'=aM g [(0,ae.v),(2,bJ.v),(4,(pz k1)),(7,v58.v),(8,(zi (k9:Int)))]/\aL cs' [tY ae ak,dY bJ dW,bi k1 123 (zg [(zi aa.Rel),aR.v]),ah aR aa.Terms,rE F59 v58 QO]) ?_ ?_
 · replace hF:=uZ
   refine bn (fe (aI (lD (v:=(zi 0)) (.int _ _)) ?_))
   refine au ?_
   refine bn (bF (m:=dW.length) (fun m24 f' cs'=>∃(g:Fr)(k26:Nat)(nH:List Fact)(c20:List aY)(v21:Sv)(rT:List Nat),m24=nH.length/\f'=aM g [(0,ae.v),(2,bJ.v),(4,(pz k1)),(7,v21.v),(8,(zi (k9:Int))),(9,(zi (k26:Int)))]/\List.drop k26 dW=nH/\aL cs' [tY ae ak,dY bJ dW,bi k1 123 (zg [(zi aa.Rel),aR.v]),ah aR aa.Terms,rE rT v21 c20]/\Br aa eB nH k26 c20=some kJ) ⟨_,0,_,_,v4,F5,rfl,aA,rfl,az,hF⟩ ?_)
   rintro m24 _ _ ⟨QB,k26,nH,c20,v21,rT,rfl,rfl,hd29,hE,hF⟩
   refine Kb hE dW (fun arf=>?_)
   rcases nH with _|⟨x28,nH⟩
   · have YJ:=dn hd29
     rw[Br]at hF
     refine bf ?_
     refine bR ?_
     refine aU ?_
     cases hF
     exact⟨_,v21,rT,_,rfl,aA,az⟩
   obtain⟨YJ,hx31,hd32⟩:=bN hd29
   rw[Br]at hF
   refine bf ?_
   refine bQ ?_
   refine au ?_
   obtain⟨wz,Ob,Pf⟩:=bind_some hF
   refine gX (fun f' cs'=>∃(wy:List aY)(v53:Sv)(F54:List Nat)(g:Fr),wy=wz/\f'=aM g [(0,ae.v),(2,bJ.v),(4,(pz k1)),(7,v53.v),(8,(zi (k9:Int))),(9,(zi (k26:Int)))]/\aL cs' [tY ae ak,dY bJ dW,bi k1 123 (zg [(zi aa.Rel),aR.v]),ah aR aa.Terms,rE F54 v53 wy]) ?_ ?_
   · replace hF:=Ob
     refine bn (dE [0,1,2,3,4,5,6,7,8,13,9,10,11,12,14,15] [0,0,3,7,0,0,0,96,224,511,1023,2047,2047,0,12287,32767] [9,14] mixed (by decide+kernel) ?_)
     refine bS ?_
     refine Di iy (fun k37 j38=>?_)
     refine OB (Iz eB) LJ (fun p39=>?_)
     refine dI ?_
     refine Di hx31 (fun k40 j41=>?_)
     refine lc (oh x28) oU (fun p42=>?_)
     refine jI rfl .no rfl (fun ha=>Jb (g:=true) dV.h rfl rfl) (fun k43=>?_)
     refine bnd hF fun n_ FW hF=>uS rfl rfl .no (.rd .q3 rfl (.rd .q4 rfl (.rd .q9 rfl (.rd (.t .h) rfl .nil)))) (.own .h (fun _ h=>h) .nil) (fun ha=>dB aqo.h (.cons (EN ha (.tmp rfl rfl) rfl) (.cons (EN ha (.tmp rfl rfl) rfl) (.cons (EN ha (.tmp rfl rfl) rfl) .nil))) (aiV FW)) (fun p46=>?_)
     refine du ?_
     refine dX rfl .no (fun ha=>wP (l:=[(zg [p46.1.v,p46.2.2.1.v]),(.bool n_.2)]) (v:=(zg [p46.1.v,p46.2.2.1.v])) (EN ha (.tmp rfl rfl) rfl) rfl) ?_
     refine dX rfl .no (fun ha=>wP (l:=[(zg [p46.1.v,p46.2.2.1.v]),(.bool n_.2)]) (v:=(.bool n_.2)) (EN ha (.tmp rfl rfl) rfl) rfl) ?_
     refine eU rfl rfl .no (.cons .q2 .nil) (.dep rfl .nil) (fun ha=>kg (e':=(zg [p46.1.v,p46.2.2.1.v])) (v:=(zg [p46.1.v,p46.2.2.1.v])) dV.h.sz (EN ha (.tmp rfl rfl) rfl) (EN ha (.tmp rfl rfl) rfl) rfl rfl rfl rfl rfl) (fun _=>?_)
     refine bS ?_
     refine bq ?_
     refine Ci hF (fun au5 hF=>?_) (fun au5 hF=>?_)
     · refine bq ?_
       refine dQ rfl (cz (g:=true) zM.h dV.h bZ (vs:=[(zg [p46.1.v,p46.2.2.1.v])]) rfl rfl rfl (by intro v hv; simp at hv; rcases hv with rfl<;>rfl)) (fun k47=>?_)
       refine dP (.cons .h (.cons (.t .h) (.cons (.t .h) .nil))) (cK (Ro:=qx) (E:=136) (F:=((p46.2.1++p46.2.2.2)++[])) (xs:=([n_.1]:List aY)) (gq TS cB dz) rfl rfl) ?_
       refine bnd hF fun z48 iO hF=>dZ (.cons .q11 (.cons .h .nil)) (fT (Ro:=qx) zM.h aeD dV.h rfl rfl rfl (.tmp rfl rfl) (.tmp rfl rfl) iO iF) (fun p50=>?_)
       refine aW ?_
       cases hF
       exact⟨_,p50.1,p50.2,_,rfl,aA,az⟩
     refine au ?_
     cases hF
     exact⟨_,v21,rT,_,rfl,aA,az⟩
   rintro _ _ ⟨wy,v53,F54,g56,rfl,rfl,hE⟩
   replace hF:=Pf
   try dsimp only at hF
   refine bD hE ?_
   refine aV ?_
   rw[wk k26]
   exact⟨_,bG _,_,k26+1,nH,_,v53,F54,rfl,aA,hd32,az,hF⟩
 rintro _ _ ⟨QO,v58,F59,g61,rfl,rfl,hE⟩
 replace hF:=vD
 try dsimp only at hF
 refine bD hE ?_
 refine aV ?_
 rw[wk k9]
 exact⟨_,bG _,_,k9+1,dU,_,v58,F59,rfl,aA,qb,az,hF⟩
def DY(dW:List Fact):List Atom->Nat->(List aY)->Option ((List aY))
 |[],k9,c3=>some c3
 |eB::dU,k9,c3=>(Sk c3 eB dW).bind fun l5=>
   DY dW dU (k9+1) l5
def Lr(ai:Query)(dW:List Fact):Option ((List aY)):=
 DY dW ai.Atoms 0 ([(⟨[],[]⟩:aY)]:List aY)
theorem aiq{ai:Query}{ae ay:Sv}{dW:List Fact}{aC:Sv}{R:(List aY)}(hF:Lr ai dW=some R):
   Fw.Spec Tryz.prog 232 [(zg [ae.v,ay.v]),aC.v] [ah ae ai.Head,bH ay ai.Atoms,dY aC dW] (fun p:Sv×List Nat=>p.1.v) (fun p=>[rE p.2 p.1 R]):=by
 refine Se 25 Tryz.func232 [.tmp 4] ?_
 intro H0 F0
 unfold Lr at hF
 refine au ?_
 refine bB (fun k1=>?_)
 refine bq ?_
 refine aI (jm dV.h rfl (vs:=[]) .nil (cells:=[(.slice none 0 0),(.slice none 0 0)]) rfl) ?_
 refine dQ rfl (cz (g:=true) zM.h dV.h bZ (vs:=[(.agg ([(.slice none 0 0),(.slice none 0 0)]:List Value).toArray)]) rfl rfl rfl (by intro v hv; simp at hv; rcases hv with rfl<;>rfl)) (fun k2=>?_)
 iterate 2 refine XM .nil (iD (Ro:=(aG aK)) (E:=3)) dz ?_
 refine dP (.cons .q2 (.cons (.t .h) (.cons .h .nil))) (cK (Ro:=qx) (E:=136) (F:=(([]++[])++[])) (xs:=([(⟨[],[]⟩:aY)]:List aY)) (gq (TS (v0:=⟨none,0,0⟩) (v1:=⟨none,0,0⟩) (a:=(⟨[],[]⟩:aY))) cB dz) rfl rfl) ?_
 refine aZ ?_
 refine bn (bF (m:=ai.Atoms.length) (fun m7 f' cs'=>∃(g:Fr)(k9:Nat)(dU:List Atom)(c3:List aY)(v4:Sv)(F5:List Nat),m7=dU.length/\f'=aM g [(1,aC.v),(2,(pz k1)),(5,v4.v),(6,(zi (k9:Int)))]/\List.drop k9 ai.Atoms=dU/\aL cs' [dY aC dW,bi k1 39 (zg [ae.v,ay.v]),ah ae ai.Head,bH ay ai.Atoms,rE F5 v4 c3]/\DY dW dU k9 c3=some R) ⟨_,0,_,_,⟨(some ⟨k2,0,none⟩),1,1⟩,(k2::(([]++[])++[])),rfl,aA,rfl,az,hF⟩ ?_)
 rintro m7 _ _ ⟨g8,k9,dU,c3,v4,F5,rfl,rfl,lI,hE,hF⟩
 refine Kb hE ai.Atoms (fun Jy=>?_)
 rcases dU with _|⟨eB,dU⟩
 · have sH:=dn lI
   rw[DY]at hF
   refine di ?_
   refine bR ?_
   refine dK ?_
   cases hF
   exact Er (v4,F5)
 obtain⟨sH,iy,qb⟩:=bN lI
 rw[DY]at hF
 refine di ?_
 refine bQ ?_
 refine bf ?_
 refine Ai iy (fun k18 j19=>?_)
 refine iM (oV eB) pO (fun wE=>?_)
 refine au ?_
 refine bnd hF fun l5 sJ hF=>su (.cons .q6 (.rd .h rfl (.rd .q2 rfl .nil))) (lF bU (fun _=>(.cons .nil)) (dB aqn.h bZ (aju sJ))) (fun AA=>?_)
 refine bf ?_
 rw[wk k9]
 exact⟨_,bG _,_,k9+1,dU,_,AA.1,AA.2,rfl,aA,qb,az,hF⟩
def Ex(aj:List Int):List Int->Nat->Option (Bool)
 |[],k4=>some true
 |x6::ax,k4=>(ix aj (k4:Int)).bind fun j5=>
   if ((x6:Int)!=j5)then (
     some false)
   else (
     Ex aj ax (k4+1))
def SY(aa:List Int)(aj:List Int):Option (Bool):=
 if (((aa.length:Int):Int)!=(aj.length:Int))then (
   some false)
 else (
   Ex aj aa 0)
theorem ak1{aa:List Int}{ae:Sv}{aj:List Int}{aC:Sv}{R:Bool}(hF:SY aa aj=some R):
   Fw.Spec Tryz.prog 233 [ae.v,aC.v] [ah ae aa,ah aC aj] (fun _:Unit=>(.bool R)) (fun _=>[]):=by
 refine Se 26 Tryz.func233 [.tmp 4] ?_
 intro H0 F0
 unfold SY at hF
 refine oC ?_
 refine Ci hF (fun Ab hF=>?_) (fun Ab hF=>?_)
 · exact ze hF
 refine aV ?_
 refine bn (bF (m:=aa.length) (fun m2 f' cs'=>∃(g:Fr)(k4:Nat)(ax:List Int),m2=ax.length/\f'=aM g [(0,ae.v),(1,aC.v),(5,(zi (k4:Int)))]/\List.drop k4 aa=ax/\aL cs' [ah ae aa,ah aC aj]/\Ex aj ax k4=some R) ⟨_,0,_,rfl,aA,rfl,az,hF⟩ ?_)
 rintro m2 _ _ ⟨g3,k4,ax,rfl,rfl,hd7,hE,hF⟩
 refine Kb hE aa (fun iK=>?_)
 rcases ax with _|⟨x6,ax⟩
 · have dM:=dn hd7
   rw[Ex]at hF
   refine bf ?_
   refine bR ?_
   exact ze hF
 obtain⟨dM,bP,dL⟩:=bN hd7
 rw[Ex]at hF
 refine bf ?_
 refine bQ ?_
 refine aW ?_
 refine dE [0,1,2,3,4,5,6,7,8] [0,0,3,7,0,0,48,112,255] [] mixed (by decide+kernel) ?_
 refine bS ?_
 refine Di bP (fun k13 j6=>?_)
 refine Dl bY ?_
 refine bS ?_
 refine zI hF fun j5 YN fV hF=>?_
 refine Di fV (fun k19 Ke=>?_)
 refine Dl bY ?_
 refine bS ?_
 refine Ci hF (fun lg hF=>?_) (fun lg hF=>?_)
 · exact ze hF
 refine aZ ?_
 rw[wk k4]
 exact⟨_,bG _,_,k4+1,ax,rfl,aA,dL,az,hF⟩
def DU(ai:Query)(nM:List Int):List aY->Nat->Option (aY×Bool)
 |[],qh=>some ((⟨[],[]⟩:aY),false)
 |x43::zt,qh=>(I1 ai x43).bind fun QE=>
   (SY QE nM).bind fun r56=>
   if r56 then (
     (Jg x43).bind fun r62=>
     some (r62,true))
   else (
     DU ai nM zt (qh+1))
def K7(ai:Query)(dW:List Fact)(nM:List Int):Option (aY×Bool):=
 (Lr ai dW).bind fun r3=>
 DU ai nM r3 0
theorem ah6{ai:Query}{ae ay:Sv}{dW:List Fact}{aC:Sv}{nM:List Int}{bJ:Sv}{R:aY×Bool}(hF:K7 ai dW nM=some R):
   Fw.Spec Tryz.prog 156 [(zg [ae.v,ay.v]),aC.v,bJ.v] [ah ae ai.Head,bH ay ai.Atoms,dY aC dW,ah bJ nM] (fun p:Sv×List Nat×Sv×List Nat=>(.tuple [(zg [p.1.v,p.2.2.1.v]),(.bool R.2)].toArray)) (fun p=>[bC p.2.1 p.1 R.1.Vars,bC p.2.2.2 p.2.2.1 R.1.Values]):=by
 refine Se 33 Tryz.func156 [.cell 6 136,.tmp 7] ?_
 intro H0 F0
 unfold K7 at hF
 refine au ?_
 refine bB (fun k1=>?_)
 refine dH (fun k2=>?_)
 refine aV ?_
 refine bnd hF fun r3 hx4 hF=>eZ (aiq hx4) (fun p5=>?_)
 refine aZ ?_
 refine bn (rZ .h bU ?_)
 refine bF (m:=r3.length) (fun m39 f' cs'=>∃(g:Fr)(qh:Nat)(zt:List aY),m39=zt.length/\f'=aM g [(2,bJ.v),(3,(pz k1)),(6,(pz k2)),(8,p5.1.v),(9,(zi (qh:Int)))]/\List.drop qh r3=zt/\aL cs' [ah bJ nM,bi k1 39 (zg [ae.v,ay.v]),ah ae ai.Head,bH ay ai.Atoms,b_ k2 136 (.agg ([(.slice none 0 0),(.slice none 0 0)]:List Value).toArray),tY p5.1 r3]/\DU ai nM zt qh=some R) ⟨_,0,_,rfl,aA,rfl,az,hF⟩ ?_
 rintro m39 _ _ ⟨g40,qh,zt,rfl,rfl,JO,hE,hF⟩
 refine Kb hE r3 (fun az2=>?_)
 rcases zt with _|⟨x43,zt⟩
 · have au6:=dn JO
   rw[DU]at hF
   refine bf ?_
   refine bR ?_
   refine aV ?_
   refine aI (jm dV.h rfl (vs:=[]) .nil (cells:=[(.slice none 0 0),(.slice none 0 0)]) rfl) ?_
   refine As (.agg ([(.slice none 0 0),(.slice none 0 0)]:List Value).toArray) ?_
   refine bq ?_
   cases hF
   exact iX (⟨none,0,0⟩,[],⟨none,0,0⟩,[]) (.cellA rfl rfl .h rfl ku.h dV.h.sz rfl rfl (.tmp rfl rfl .nil)) rfl (.conv .nil (iD (Ro:=(aG aK)) (E:=3)) (.cons .nil) (.conv .nil (iD (Ro:=(aG aK)) (E:=3)) (.cons .nil) (.sel (.cons (.t .h) (.cons .h .nil)))))
 obtain⟨au6,Ac,au7⟩:=bN JO
 rw[DU]at hF
 refine bf ?_
 refine bQ ?_
 refine aW ?_
 refine dE [0,1,2,3,4,6,5,7] [0,0,0,6,14,31,0,127] [5,7] mixed (by decide+kernel) ?_
 refine dI ?_
 refine Di Ac (fun k50 j51=>?_)
 refine OB (Iz x43) LJ (fun p52=>?_)
 refine du ?_
 refine bnd hF fun QE Cx hF=>Aw (abv Cx) (fun p55=>?_)
 refine bnd hF fun r56 iI hF=>eU rfl rfl .no (.cons .h (.rd .q3 rfl .nil)) .nil (fun ha=>lF bU (fun _=>.nil) (dB aqr.h (.cons (EN ha (.tmp rfl rfl) rfl) (.cons (EN ha (.tmp rfl rfl) rfl) .nil)) (ak1 iI))) (fun _=>?_)
 refine du ?_
 refine Ci hF (fun FX hF=>?_) (fun FX hF=>?_)
 · refine bq ?_
   refine Ai Ac (fun k59 j60=>?_)
   refine zT (Iz x43) LJ (fun p61=>?_)
   refine bnd hF fun r62 Za hF=>Dg (abW Za) (fun p64=>?_)
   refine As (zg [p64.1.v,p64.2.2.1.v]) ?_
   refine bq ?_
   cases hF
   exact iX (p64.1,p64.2.1,p64.2.2.1,p64.2.2.2) (.cellA rfl rfl .h rfl ku.h dV.h.sz rfl rfl (.tmp rfl rfl .nil)) rfl (.sel (.cons (.t .h) (.cons (.t .h) .nil)))
 refine aZ ?_
 rw[wk qh]
 exact⟨_,bG _,_,qh+1,zt,rfl,aA,au7,az,hF⟩
def K8(fuel:Nat)(ag:List Int)(ed:Query)(ai:Query):Option (Bool):=
 ((wR ag ed).bind fun r5=>
   bif (!r5)then (some true)
   else ((wR ag ai).bind fun r9=>
     bif (!r9)then (some true)
     else (some (((ed.Head.length:Int):Int)!=(ai.Head.length:Int))))).bind fun o3=>
 match o3 with
 |c13=>if c13 then (
     some false)
   else (
     (Mi fuel ed ai).bind fun jw=>
     if (!jw.2.2)then (
       some false)
     else (
       (I1 ed jw.2.1).bind fun Dj=>
       (K7 ai jw.1 Dj).bind fun gH=>
       some gH.2))
theorem ah7{fuel:Nat}{ag:List Int}{ae:Sv}{ed:Query}{aC aR:Sv}{ai:Query}{bJ eP:Sv}{R:Bool}(hF:K8 fuel ag ed ai=some R):
   Fw.Spec Tryz.prog 74 [ae.v,(zg [aC.v,aR.v]),(zg [bJ.v,eP.v])] [ah ae ag,ah aC ed.Head,bH aR ed.Atoms,ah bJ ai.Head,bH eP ai.Atoms] (fun _:Unit=>(.bool R)) (fun _=>[]):=by
 refine Se 50 Tryz.func74 [.tmp 6] ?_
 intro H0 F0
 unfold K8 at hF
 refine au ?_
 refine bB (fun k1=>?_)
 refine bB (fun k2=>?_)
 refine bq ?_
 obtain⟨o3,vI,hO4⟩:=bind_some hF
 refine au ?_
 refine fE (fun f' cs'=>∃(c13:Bool)(g:Fr),c13=o3/\f'=aM g [(4,(pz k1)),(5,(pz k2)),(30,(.bool c13))]/\aL cs' [bi k1 39 (zg [aC.v,aR.v]),ah aC ed.Head,bH aR ed.Atoms,bi k2 39 (zg [bJ.v,eP.v]),ah bJ ai.Head,bH eP ai.Atoms]) ?_ ?_
 · replace hF:=vI
   refine aW ?_
   refine bnd hF fun r5 hx6 hF=>aX (Il hx6) (fun _=>?_)
   refine aW ?_
   rcases bL (!r5)with fD|fD
   · rw[fD]
     try rw[fD]at hF; dsimp only[aO,aN]at hF
     exact bO hF
   rw[fD]
   try rw[fD]at hF; dsimp only[aO,aN]at hF
   refine aV ?_
   refine bnd hF fun r9 eX hF=>aX (Il eX) (fun _=>?_)
   refine aU ?_
   rcases bL (!r9)with lV|lV
   · rw[lV]
     try rw[lV]at hF; dsimp only[aO,aN]at hF
     exact bO hF
   rw[lV]
   try rw[lV]at hF; dsimp only[aO,aN]at hF
   exact bO hF
 rintro _ _ ⟨c13,g27,rfl,rfl,hE⟩
 replace hF:=hO4
 try dsimp only at hF
 refine bD hE ?_
 refine Ci hF (fun zW hF=>?_) (fun zW hF=>?_)
 · exact ze hF
 refine aU ?_
 refine bnd hF fun jw jS hF=>Cx3 (ajt jS) (fun p16=>?_)
 refine au ?_
 refine zx ?_
 refine zx ?_
 refine zx ?_
 refine dH (fun k17=>?_)
 refine au ?_
 refine As (zg [p16.2.2.1.v,p16.2.2.2.2.1.v]) ?_
 refine bf ?_
 refine Ci hF (fun Zb hF=>?_) (fun Zb hF=>?_)
 · exact ze hF
 refine au ?_
 refine dE [0,1,2,3,9,4,5,6,7,8,10,11] [0,0,0,0,12,31,63,127,127,0,767,2047] [4,5,10] mixed (by decide+kernel) ?_
 refine dI ?_
 refine fA rfl .no .h (fun ha hp=>lC ku.h dV.h.sz rfl (EN ha (.tmp rfl rfl) rfl) hp.2 rfl) ?_
 refine jI rfl .no rfl (fun ha=>Jb (g:=true) dV.h rfl rfl) (fun k18=>?_)
 refine bnd hF fun Dj lT hF=>an6 rfl rfl .no (.cons .q4 (.cons .q3 (.rd .q4 rfl (.rd .q5 rfl .nil)))) (.own .h (fun _ h=>h) (.dep rfl .nil)) (fun ha=>mV (pre:=_) (.cons bU (.cons bU .nil)) (fun _=>(.cons .nil)) (zk (.rd .q2 rfl (.rd .q3 rfl (.rd .h rfl (.rd (.t .h) rfl .nil)))) (dB at1.h (.cons (EN ha (.tmp rfl rfl) rfl) (.cons (EN ha (.tmp rfl rfl) rfl) .nil)) (abv lT)))) (fun qi=>?_)
 refine bnd hF fun gH mK hF=>NE rfl rfl .no (.cons .q2 (.cons .q4 (.rd .q8 rfl (.rd .q9 rfl .nil)))) (.own .q2 (fun _ h=>h) (.dep rfl .nil)) (fun ha=>anu (pre:=_) (.cons bU (.cons bU .nil)) (fun _=>(.cons (.cons .nil))) (zk (.rd .q2 rfl (.rd .q3 rfl (.rd (.t .h) rfl (.rd .h rfl .nil)))) (dB aqm.h (.cons (EN ha (.tmp rfl rfl) rfl) (.cons (EN ha (.tmp rfl rfl) rfl) (.cons (EN ha (.tmp rfl rfl) rfl) .nil))) (ah6 mK)))) (fun iA=>?_)
 refine du ?_
 refine dX rfl .no (fun ha=>wP (l:=[(zg [iA.1.v,iA.2.2.1.v]),(.bool gH.2)]) (v:=(zg [iA.1.v,iA.2.2.1.v])) (EN ha (.tmp rfl rfl) rfl) rfl) ?_
 refine dX rfl .no (fun ha=>wP (l:=[(zg [iA.1.v,iA.2.2.1.v]),(.bool gH.2)]) (v:=(.bool gH.2)) (EN ha (.tmp rfl rfl) rfl) rfl) ?_
 refine eU rfl rfl .no (.cons .q6 .nil) (.dep rfl (.dep rfl .nil)) (fun ha=>kg (e':=(zg [iA.1.v,iA.2.2.1.v])) (v:=(zg [iA.1.v,iA.2.2.1.v])) dV.h.sz (EN ha (.tmp rfl rfl) rfl) (EN ha (.tmp rfl rfl) rfl) rfl rfl rfl rfl rfl) (fun _=>?_)
 refine bS ?_
 exact ze hF
def A7(ag:List Int)(ai:Query)(c6:List Query)(c9:Int)(z23:List Int)(fuel:Nat):List Atom->Nat->(List Atom)->Option ((List Query))
 |[],uC,c75=>((wR ag (⟨z23,c75⟩:Query)).bind fun Dp=>
     bif Dp then ((K8 fuel ag (⟨z23,c75⟩:Query) ai).bind fun GD=>
       some GD)
     else (some false)).bind fun o90=>
   match o90 with
   |wF=>if wF then (
       (app c6 ([(⟨z23,c75⟩:Query)]:List Query)).bind fun af3=>
       some af3)
     else (
       some c6)
 |x83::zu,uC,c75=>((JG .i64 c9 (uC:Int)).bind fun Zc=>
     if (((Oz .i64 Zc 1):Int)==1)then (
       (Je x83.Rel x83.Terms).bind fun UH=>
       (app c75 ([UH]:List Atom)).bind fun z119=>
       some z119)
     else (
       some c75)).bind fun Zd=>
   match Zd with
   |Pv=>A7 ag ai c6 c9 z23 fuel zu (uC+1) Pv
def A8(ag:List Int)(ai:Query)(fuel:Nat):Nat->(List Query)->Int->Option ((List Query))
 |0,_,_=>none
 |m10+1,c6,c9=>(Oy .i64 1 (ai.Atoms.length:Int)).bind fun iC=>
   if (decide ((c9:Int)<iC))then (
     ((app ([]:List Int) ai.Head).bind fun z23=>
       A7 ag ai c6 c9 z23 fuel ai.Atoms 0 ([]:List Atom)).bind fun sU=>
     match sU with
     |Pw=>A8 ag ai fuel m10 Pw (IntKind.i64.wrap (c9+1)))
   else (
     some c6)
def KM(fuel:Nat)(ag:List Int)(ai:Query):Option ((List Query)):=
 (wR ag ai).bind fun r3=>
 if (!r3)then (
   some ([]:List Query))
 else (
   A8 ag ai fuel fuel ([]:List Query) 1)
theorem ahD{fuel:Nat}{ag:List Int}{ae:Sv}{ai:Query}{aC aR:Sv}{R:(List Query)}(hF:KM fuel ag ai=some R):
   Fw.Spec Tryz.prog 120 [ae.v,(zg [aC.v,aR.v])] [ah ae ag,ah aC ai.Head,bH aR ai.Atoms] (fun p:Sv×List Nat=>p.1.v) (fun p=>[vg p.2 p.1 R]):=by
 refine Se 72 Tryz.func120 [.tmp 4] ?_
 intro H0 F0
 unfold KM at hF
 refine au ?_
 refine bB (fun k1=>?_)
 refine bq ?_
 refine dQ rfl (cz (g:=true) FC.h rJ.h .nil (vs:=[]) rfl rfl rfl (by simp)) (fun k2=>?_)
 refine dP (.cons .h .nil) (cK (Ro:=sF) (E:=39) (F:=[]) (xs:=([]:List Query)) cB rfl rfl) ?_
 refine aZ ?_
 refine bnd hF fun r3 hx4 hF=>aX (Il hx4) (fun _=>?_)
 refine aW ?_
 refine Ci hF (fun arT hF=>?_) (fun arT hF=>?_)
 · refine aV ?_
   cases hF
   exact Er (⟨(some ⟨k2,0,none⟩),0,1⟩,(k2::[]))
 refine aV ?_
 refine bn (bF (m:=fuel) (fun m10 f' cs'=>∃(g:Fr)(c6:List Query)(c9:Int)(v7:Sv)(F8:List Nat),f'=aM g [(0,ae.v),(3,(pz k1)),(5,v7.v),(6,(zi c9))]/\aL cs' [ah ae ag,bi k1 39 (zg [aC.v,aR.v]),ah aC ai.Head,bH aR ai.Atoms,vg F8 v7 c6]/\A8 ag ai fuel m10 c6 c9=some R) ⟨_,_,_,⟨(some ⟨k2,0,none⟩),0,1⟩,(k2::[]),aA,az,hF⟩ ?_)
 rintro m10 _ _ ⟨g11,c6,c9,v7,F8,rfl,hE,hF⟩
 refine bD hE ?_
 rcases m10 with _|m10
 · rw[A8]at hF
   exact absurd hF (by simp)
 rw[A8]at hF
 refine aZ ?_
 refine bnd hF fun iC jq hF=>aI (aev (i:=1) (j:=(ai.Atoms.length:Int)) (.int _ _) (.tmp rfl rfl) jq) ?_
 refine aW ?_
 refine Ci hF (fun arU hF=>?_) (fun arU hF=>?_)
 · refine au ?_
   obtain⟨sU,Oa,O_⟩:=bind_some hF
   refine gX (fun f' cs'=>∃(Pw:List Query)(UI:Sv)(Ze:List Nat)(g:Fr),Pw=sU/\f'=aM g [(0,ae.v),(3,(pz k1)),(5,UI.v),(6,(zi c9))]/\aL cs' [ah ae ag,bi k1 39 (zg [aC.v,aR.v]),ah aC ai.Head,bH aR ai.Atoms,vg Ze UI Pw]) ?_ ?_
   · replace hF:=Oa
     refine bn (fe (dQ rfl (cz (g:=true) dh.h dw.h .nil (vs:=[]) rfl rfl rfl (by simp)) (fun k22=>?_)))
     refine dP (.cons .h .nil) (cK (Ro:=(aG aK)) (E:=3) (F:=[]) (xs:=([]:List Int)) cB rfl rfl) ?_
     refine aW ?_
     refine bnd hF fun z23 hx24 hF=>dZ (.cons .h (.rd .q2 rfl .nil)) (fT (Ro:=(aG aK)) dh.h kF dw.h rfl rfl rfl (.tmp rfl rfl) (.tmp rfl rfl) hx24 qp) (fun p25=>?_)
     refine aI (jm rJ.h rfl (vs:=[p25.1.v]) bZ (cells:=[p25.1.v,(.slice none 0 0)]) rfl) ?_
     refine dH (fun k26=>?_)
     refine As (zg [p25.1.v,(.slice none 0 0)]) ?_
     refine aV ?_
     refine bn (bF (m:=ai.Atoms.length) (fun m79 f' cs'=>∃(g:Fr)(uC:Nat)(zu c75:List Atom)(v76:Sv)(AB:List Nat),m79=zu.length/\f'=aM g [(0,ae.v),(3,(pz k1)),(5,v7.v),(6,(zi c9)),(7,(pz k26)),(8,(zi (uC:Int)))]/\List.drop uC ai.Atoms=zu/\aL cs' [ah ae ag,bi k1 39 (zg [aC.v,aR.v]),ah aC ai.Head,bH aR ai.Atoms,vg F8 v7 c6,b_ k26 39 (zg [p25.1.v,v76.v]),bC p25.2 p25.1 z23,rD AB v76 c75]/\A7 ag ai c6 c9 z23 fuel zu uC c75=some sU) ⟨_,0,_,_,⟨none,0,0⟩,[],rfl,aA,rfl,(.conv .nil (iD (Ro:=kM) (E:=123)) (.cons .nil) az),hF⟩ ?_)
     rintro m79 _ _ ⟨g80,uC,zu,c75,v76,AB,rfl,rfl,af4,hE,hF⟩
     refine Kb hE ai.Atoms (fun az3=>?_)
     rcases zu with _|⟨x83,zu⟩
     · have au8:=dn af4
       rw[A7]at hF
       refine di ?_
       refine bR ?_
       refine aU ?_
       obtain⟨o90,arV,au9⟩:=bind_some hF
       refine au ?_
       refine fE (fun f' cs'=>∃(wF:Bool)(g:Fr),wF=o90/\f'=aM g [(0,ae.v),(3,(pz k1)),(5,v7.v),(6,(zi c9)),(7,(pz k26)),(66,(.bool wF))]/\aL cs' [ah ae ag,bi k1 39 (zg [aC.v,aR.v]),ah aC ai.Head,bH aR ai.Atoms,vg F8 v7 c6,b_ k26 39 (zg [p25.1.v,v76.v]),bC p25.2 p25.1 z23,rD AB v76 c75]) ?_ ?_
       · replace hF:=arV
         refine aW ?_
         refine bnd hF fun Dp hx93 hF=>su (.cons .q7 (.cons .q6 (.rd .h rfl .nil))) (mV (pre:=_) (.cons bU (.cons bU .nil)) (fun _=>.nil) (zk (.rd .q2 rfl (.rd .h rfl (.rd (.t .h) rfl .nil))) (dB atX.h bZ (Il hx93)))) (fun _=>?_)
         refine au ?_
         rcases bL Dp with Px|Px
         · rw[Px]
           try rw[Px]at hF; dsimp only[aO,aN]at hF
           refine bf ?_
           refine bnd hF fun GD Zf hF=>su (.cons .h (.cons .h (.rd .h rfl (.rd .q2 rfl (.rd .q3 rfl .nil))))) (mV (pre:=_) (.cons bU (.cons bU .nil)) (fun _=>.nil) (zk (.rd .q2 rfl (.rd .h rfl (.rd (.t .h) rfl (.rd .q3 rfl (.rd .q4 rfl .nil))))) (dB atY.h bZ (ah7 Zf)))) (fun _=>?_)
           exact bO hF
         rw[Px]
         try rw[Px]at hF; dsimp only[aO,aN]at hF
         exact bO hF
       rintro _ _ ⟨wF,aCh,rfl,rfl,hE⟩
       replace hF:=au9
       try dsimp only at hF
       refine bD hE ?_
       refine Ci hF (fun arW hF=>?_) (fun arW hF=>?_)
       · refine bq ?_
         refine dQ rfl (cz (g:=true) FC.h rJ.h bZ (vs:=[(zg [p25.1.v,v76.v])]) rfl rfl rfl (by intro v hv; simp at hv; rcases hv with rfl<;>rfl)) (fun au_=>?_)
         refine dP (.cons .h (.cons .q6 (.cons .q6 .nil))) (cK (Ro:=sF) (E:=39) (F:=((p25.2++AB)++[])) (xs:=([(⟨z23,c75⟩:Query)]:List Query)) (gq (afu (a:=(⟨z23,c75⟩:Query))) cB dz) rfl rfl) ?_
         refine bnd hF fun af3 hx102 hF=>dZ (.cons .q5 (.cons .h .nil)) (fT (Ro:=sF) FC.h aeE rJ.h rfl rfl rfl (.tmp rfl rfl) (.tmp rfl rfl) hx102 iF) (fun af5=>?_)
         refine aW ?_
         cases hF
         exact⟨_,af5.1,af5.2,_,rfl,aA,az⟩
       refine au ?_
       cases hF
       exact⟨_,v7,F8,_,rfl,aA,az⟩
     obtain⟨au8,UJ,au'⟩:=bN af4
     rw[A7]at hF
     refine di ?_
     refine bQ ?_
     refine au ?_
     obtain⟨Zd,aoY,arX⟩:=bind_some hF
     refine gX (fun f' cs'=>∃(Pv:List Atom)(v124:Sv)(Zg:List Nat)(g:Fr),Pv=Zd/\f'=aM g [(0,ae.v),(3,(pz k1)),(5,v7.v),(6,(zi c9)),(7,(pz k26)),(8,(zi (uC:Int)))]/\aL cs' [ah ae ag,bi k1 39 (zg [aC.v,aR.v]),ah aC ai.Head,bH aR ai.Atoms,vg F8 v7 c6,b_ k26 39 (zg [p25.1.v,v124.v]),bC p25.2 p25.1 z23,rD Zg v124 Pv]) ?_ ?_
     · replace hF:=aoY
       refine bn (fe (Cm (zi c9) rfl rfl ?_))
       refine au ?_
       refine bnd hF fun Zc Oc hF=>aI (aew (i:=c9) (j:=(uC:Int)) (.tmp rfl rfl) (.tmp rfl rfl) Oc) ?_
       refine aI (aex (i:=Zc) (j:=1) (.tmp rfl rfl) (.int _ _)) ?_
       refine aW ?_
       refine Ci hF (fun arY hF=>?_) (fun arY hF=>?_)
       · refine oW [0,1,2,3,4,5,6,7,8,9,10,11,12,13,14,15,16,17,18] [0,1,0,4,0,28,60,124,0,256,0,1792,3840,7936,16380,32764,65535,131071,262143] [14,16,18] mixed (by decide+kernel) ?_
         refine du ?_
         refine fA rfl .no .q5 (fun ha hp=>gu (v:=v76.v) OC.h (EN ha (.tmp rfl rfl) rfl) hp.2 rfl rfl) ?_
         refine dI ?_
         refine Di UJ (fun af1 af2=>?_)
         refine du ?_
         refine Dl XA ?_
         refine dI ?_
         refine Di UJ (fun ava aCi=>?_)
         refine du ?_
         refine uV (R':=(aJ 3 aK)) ji.h rfl .no (.tmp rfl rfl) rfl .h wZ (fun aCj=>?_)
         refine bnd hF fun UH Yk hF=>eU rfl rfl .no (.rd .h rfl .nil) (.own .q8 (fun _ h=>h) .nil) (fun ha=>dB aeA.h (.cons (EN ha (.tmp rfl rfl) rfl) (.cons (EN ha (.tmp rfl rfl) rfl) .nil)) (abT Yk)) (fun af6=>?_)
         refine jI rfl .no rfl (fun ha=>cz (g:=true) (len:=1) (parts:=[(0,.tmp 54)]) uh.h ou.h (.cons (EN ha (.tmp rfl rfl) rfl) .nil) (vs:=[(zg [(zi UH.Rel),af6.1.v])]) rfl rfl rfl (by intro v hv; simp at hv; rcases hv with rfl<;>rfl)) (fun aCk=>?_)
         refine jO (.cons .h (.cons .h .nil)) (cK (Ro:=kM) (E:=123) (F:=(af6.2++[])) (xs:=([UH]:List Atom)) (gq NW cB dz) rfl rfl) ?_
         refine bnd hF fun z119 arZ hF=>eU rfl rfl .no (.cons .q11 (.cons .h .nil)) (.dep rfl (.dep rfl .nil)) (fun ha=>fT (Ro:=kM) uh.h Um ou.h rfl rfl rfl (EN ha (.tmp rfl rfl) rfl) (EN ha (.tmp rfl rfl) rfl) arZ iF) (fun Zh=>?_)
         refine du ?_
         refine eU rfl rfl .no (.cons .q9 .nil) (.dep rfl (.dep rfl .nil)) (fun ha=>kg (e':=(zg [p25.1.v,Zh.1.v])) Uk.h.sz (EN ha (.tmp rfl rfl) rfl) (EN ha (.tmp rfl rfl) rfl) rfl rfl rfl rfl rfl) (fun _=>?_)
         refine du ?_
         cases hF
         exact⟨_,Zh.1,Zh.2,_,rfl,aA,az⟩
       refine au ?_
       cases hF
       exact⟨_,v76,AB,_,rfl,aA,az⟩
     rintro _ _ ⟨Pv,v124,Zg,auX,rfl,rfl,hE⟩
     replace hF:=arX
     try dsimp only at hF
     refine bD hE ?_
     refine aV ?_
     rw[wk uC]
     exact⟨_,bG _,_,uC+1,zu,_,v124,Zg,rfl,aA,au',az,hF⟩
   rintro _ _ ⟨Pw,UI,Ze,aCl,rfl,rfl,hE⟩
   replace hF:=O_
   try dsimp only at hF
   refine bD hE ?_
   refine aV ?_
   exact⟨m10,bG _,_,_,_,UI,Ze,aA,az,hF⟩
 refine dK ?_
 cases hF
 exact Er (v7,F8)
def Ei:List Method->Nat->(List Method)->Option ((List Method))
 |[],k8,c2=>some c2
 |dx::fC,k8,c2=>(if ((dx.Limit:Int)!=0)then (
       (app c2 ([(⟨(-1),dx.Inputs,dx.Limit,dx.Cost,dx.Quota⟩:Method)]:List Method)).bind fun z24=>
       some z24)
     else (
       (app c2 ([dx]:List Method)).bind fun z28=>
       some z28)).bind fun o17=>
   match o17 with
   |c32=>Ei fC (k8+1) c32
def Mj(ak:List Method):Option ((List Method)):=
 Ei ak 0 ([]:List Method)
theorem ajv{ak:List Method}{ae:Sv}{R:(List Method)}(hF:Mj ak=some R):
   Fw.Spec Tryz.prog 122 [ae.v] [dD ae ak] (fun p:Sv×List Nat=>p.1.v) (fun p=>[FQ p.2 p.1 R]):=by
 refine Se 26 Tryz.func122 [.tmp 2] ?_
 intro H0 F0
 unfold Mj at hF
 refine aU ?_
 refine dQ rfl (cz (g:=true) ug.h sD.h .nil (vs:=[]) rfl rfl rfl (by simp)) (fun k1=>?_)
 refine dP (.cons .h .nil) (cK (Ro:=(aG ma)) (E:=89) (F:=[]) (xs:=([]:List Method)) cB rfl rfl) ?_
 refine aZ ?_
 refine bn (bF (m:=ak.length) (fun m6 f' cs'=>∃(g:Fr)(k8:Nat)(fC c2:List Method)(v3:Sv)(F4:List Nat),m6=fC.length/\f'=aM g [(0,ae.v),(3,v3.v),(4,(zi (k8:Int)))]/\List.drop k8 ak=fC/\aL cs' [dD ae ak,FQ F4 v3 c2]/\Ei fC k8 c2=some R) ⟨_,0,_,_,⟨(some ⟨k1,0,none⟩),0,1⟩,(k1::[]),rfl,aA,rfl,az,hF⟩ ?_)
 rintro m6 _ _ ⟨g7,k8,fC,c2,v3,F4,rfl,rfl,gD,hE,hF⟩
 refine Kb hE ak (fun Od=>?_)
 rcases fC with _|⟨dx,fC⟩
 · have vJ:=dn gD
   rw[Ei]at hF
   refine bf ?_
   refine bR ?_
   refine dK ?_
   cases hF
   exact Er (v3,F4)
 obtain⟨vJ,jr,vK⟩:=bN gD
 rw[Ei]at hF
 refine bf ?_
 refine bQ ?_
 refine au ?_
 obtain⟨o17,ar0,avb⟩:=bind_some hF
 refine gX (fun f' cs'=>∃(c32:List Method)(v33:Sv)(Gz:List Nat)(g:Fr),c32=o17/\f'=aM g [(0,ae.v),(3,v33.v),(4,(zi (k8:Int)))]/\aL cs' [dD ae ak,FQ Gz v33 c32]) ?_ ?_
 · replace hF:=ar0
   refine bn (fe (Cm ae.v rfl rfl ?_))
   refine au ?_
   refine Ai jr (fun k19 Ke=>?_)
   refine iM (uL dx) wQ (fun qi=>?_)
   refine dH (fun k22=>?_)
   refine As (zg [(zi dx.Rel),qi.v,(zi dx.Limit),(zi dx.Cost),(zi dx.Quota)]) ?_
   refine bf ?_
   refine Ci hF (fun zU hF=>?_) (fun zU hF=>?_)
   · refine aW ?_
     refine As (zg [(zi (-1)),qi.v,(zi dx.Limit),(zi dx.Cost),(zi dx.Quota)]) ?_
     refine aU ?_
     refine dQ rfl (cz (g:=true) ug.h sD.h bZ (vs:=[(zg [(zi (-1)),qi.v,(zi dx.Limit),(zi dx.Cost),(zi dx.Quota)])]) rfl rfl rfl (by intro v hv; simp at hv; rcases hv with rfl<;>rfl)) (fun k23=>?_)
     refine dP (.cons .h (.rd (.t .h) rfl .nil)) (cK (Ro:=(aG ma)) (E:=89) (F:=([]++[])) (xs:=([(⟨(-1),dx.Inputs,dx.Limit,dx.Cost,dx.Quota⟩:Method)]:List Method)) (gq (afv (a:=(⟨(-1),dx.Inputs,dx.Limit,dx.Cost,dx.Quota⟩:Method))) cB dz) rfl rfl) ?_
     refine bnd hF fun z24 hx25 hF=>dZ (.cons .q5 (.cons .h .nil)) (fT (Ro:=(aG ma)) ug.h YD sD.h rfl rfl rfl (.tmp rfl rfl) (.tmp rfl rfl) hx25 iF) (fun p26=>?_)
     refine aW ?_
     cases hF
     exact⟨_,p26.1,p26.2,_,rfl,aA,az⟩
   refine aU ?_
   refine dQ rfl (cz (g:=true) ug.h sD.h bZ (vs:=[(zg [(zi dx.Rel),qi.v,(zi dx.Limit),(zi dx.Cost),(zi dx.Quota)])]) rfl rfl rfl (by intro v hv; simp at hv; rcases hv with rfl<;>rfl)) (fun k27=>?_)
   refine dP (.cons .h (.rd (.t .h) rfl .nil)) (cK (Ro:=(aG ma)) (E:=89) (F:=([]++[])) (xs:=([dx]:List Method)) (gq afv cB dz) rfl rfl) ?_
   refine bnd hF fun z28 hx29 hF=>dZ (.cons .q5 (.cons .h .nil)) (fT (Ro:=(aG ma)) ug.h YD sD.h rfl rfl rfl (.tmp rfl rfl) (.tmp rfl rfl) hx29 iF) (fun p30=>?_)
   refine aW ?_
   cases hF
   exact⟨_,p30.1,p30.2,_,rfl,aA,az⟩
 rintro _ _ ⟨c32,v33,Gz,g36,rfl,rfl,hE⟩
 replace hF:=avb
 try dsimp only at hF
 refine bD hE ?_
 refine aV ?_
 rw[wk k8]
 exact⟨_,bG _,_,k8+1,fC,_,v33,Gz,rfl,aA,vK,az,hF⟩
def D8(ak:List Method):List Step->Nat->Int->Option (Int)
 |[],k5,c1=>some c1
 |x7::bz,k5,c1=>(((iG x7.Method 0 (IntKind.i64.wrap ((ak.length:Int)-1))).bind fun il=>
       bif il then ((ix ak x7.Method).bind fun oO=>
         (iG oO.Cost 0 99).bind fun r32=>
         some r32)
       else (some false)).bind fun o16=>
     match o16 with
     |qV=>if qV then (
         (ix ak x7.Method).bind fun x38=>
         some (IntKind.i64.wrap (c1+x38.Cost)))
       else (
         some c1)).bind fun qW=>
   match qW with
   |c46=>D8 ak bz (k5+1) c46
def IB(ak:List Method)(dN:List Step):Option (Int):=
 D8 ak dN 0 0
theorem V9{ak:List Method}{ae:Sv}{dN:List Step}{aC:Sv}{R:Int}(hF:IB ak dN=some R):
   Fw.Spec Tryz.prog 123 [ae.v,aC.v] [dD ae ak,g_ aC dN] (fun _:Unit=>(zi R)) (fun _=>[]):=by
 refine Se 46 Tryz.func123 [.tmp 4] ?_
 intro H0 F0
 unfold IB at hF
 refine iU ?_
 refine bn (bF (m:=dN.length) (fun m3 f' cs'=>∃(g:Fr)(k5:Nat)(bz:List Step)(c1:Int),m3=bz.length/\f'=aM g [(0,ae.v),(1,aC.v),(5,(zi c1)),(6,(zi (k5:Int)))]/\List.drop k5 dN=bz/\aL cs' [dD ae ak,g_ aC dN]/\D8 ak bz k5 c1=some R) ⟨_,0,_,_,rfl,aA,rfl,az,hF⟩ ?_)
 rintro m3 _ _ ⟨g4,k5,bz,c1,rfl,rfl,gL,hE,hF⟩
 refine Kb hE dN (fun qz=>?_)
 rcases bz with _|⟨x7,bz⟩
 · have jP:=dn gL
   rw[D8]at hF
   refine bf ?_
   refine bR ?_
   exact ze hF
 obtain⟨jP,eX,gD⟩:=bN gL
 rw[D8]at hF
 refine bf ?_
 refine bQ ?_
 refine au ?_
 obtain⟨qW,FJ,CL⟩:=bind_some hF
 refine gX (fun f' cs'=>∃(c46:Int)(g:Fr),c46=qW/\f'=aM g [(0,ae.v),(1,aC.v),(5,(zi c46)),(6,(zi (k5:Int)))]/\aL cs' [dD ae ak,g_ aC dN]) ?_ ?_
 · replace hF:=FJ
   refine bn ?_
   obtain⟨o16,Yl,Zi⟩:=bind_some hF
   refine au ?_
   refine fE (fun f' cs'=>∃(qV:Bool)(g:Fr),qV=o16/\f'=aM g [(0,ae.v),(1,aC.v),(5,(zi c1)),(6,(zi (k5:Int))),(33,(.bool qV))]/\aL cs' [dD ae ak,g_ aC dN]) ?_ ?_
   · replace hF:=Yl
     refine aW ?_
     refine Ai eX (fun k18 j19=>?_)
     refine au ?_
     refine Al Jo ?_
     refine bq ?_
     refine bnd hF fun il kG hF=>aX (jl kG) (fun _=>?_)
     refine au ?_
     rcases bL il with j4|j4
     · rw[j4]
       try rw[j4]at hF; dsimp only[aO,aN]at hF
       refine bf ?_
       refine Ai eX (fun k24 j25=>?_)
       refine bq ?_
       refine Al Jo ?_
       refine au ?_
       refine zI hF fun oO auK hx29 hF=>?_
       refine Ai hx29 (fun pI j31=>?_)
       refine bq ?_
       refine Al ad2 ?_
       refine au ?_
       refine bnd hF fun r32 vz hF=>aX (jl vz) (fun _=>?_)
       exact bO hF
     rw[j4]
     try rw[j4]at hF; dsimp only[aO,aN]at hF
     exact bO hF
   rintro _ _ ⟨qV,g45,rfl,rfl,hE⟩
   replace hF:=Zi
   try dsimp only at hF
   refine bD hE ?_
   refine Ci hF (fun zY hF=>?_) (fun zY hF=>?_)
   · refine aV ?_
     refine Ai eX (fun bV j37=>?_)
     refine au ?_
     refine Al Jo ?_
     refine zI hF fun x38 auM mJ hF=>?_
     refine Ai mJ (fun k42 j43=>?_)
     refine au ?_
     refine Al ad2 ?_
     exact bO hF
   exact bO hF
 rintro _ _ ⟨c46,g48,rfl,rfl,hE⟩
 replace hF:=CL
 try dsimp only at hF
 refine bD hE ?_
 refine aV ?_
 rw[wk k5]
 exact⟨_,bG _,_,k5+1,bz,_,rfl,aA,gD,az,hF⟩
def Eo(aa:Atom)(cZ:List Int):List Int->Nat->Option (Bool)
 |[],k6=>some true
 |x8::nP,k6=>(iG x8 0 (IntKind.i64.wrap ((aa.Terms.length:Int)-1))).bind fun dS=>
   if (!dS)then (
     some false)
   else (
     (ix aa.Terms x8).bind fun uB=>
     ((w_ uB).bind fun uD=>
       bif uD then ((xc cZ uB).bind fun wu=>
         some (!wu))
       else (some false)).bind fun o28=>
     match o28 with
     |c37=>if c37 then (
         some false)
       else (
         Eo aa cZ nP (k6+1)))
def MU(aF:Method)(aa:Atom)(cZ:List Int):Option (Bool):=
 if ((aF.Rel:Int)!=aa.Rel)then (
   some false)
 else (
   Eo aa cZ aF.Inputs 0)
theorem akn{aF:Method}{ay:Sv}{aa:Atom}{aR:Sv}{cZ:List Int}{bJ:Sv}{R:Bool}(hF:MU aF aa cZ=some R):
   Fw.Spec Tryz.prog 208 [(zg [(zi aF.Rel),ay.v,(zi aF.Limit),(zi aF.Cost),(zi aF.Quota)]),(zg [(zi aa.Rel),aR.v]),bJ.v] [ah ay aF.Inputs,ah aR aa.Terms,ah bJ cZ] (fun _:Unit=>(.bool R)) (fun _=>[]):=by
 refine Se 49 Tryz.func208 [.tmp 6] ?_
 intro H0 F0
 unfold MU at hF
 refine au ?_
 refine bB (fun k1=>?_)
 refine bB (fun k2=>?_)
 refine iU ?_
 refine Ci hF (fun OV hF=>?_) (fun OV hF=>?_)
 · exact ze hF
 refine aV ?_
 refine bn (bF (m:=aF.Inputs.length) (fun m4 f' cs'=>∃(g:Fr)(k6:Nat)(nP:List Int),m4=nP.length/\f'=aM g [(2,bJ.v),(3,(pz k1)),(4,(pz k2)),(7,(zi (k6:Int)))]/\List.drop k6 aF.Inputs=nP/\aL cs' [ah bJ cZ,bi k1 89 (zg [(zi aF.Rel),ay.v,(zi aF.Limit),(zi aF.Cost),(zi aF.Quota)]),ah ay aF.Inputs,bi k2 123 (zg [(zi aa.Rel),aR.v]),ah aR aa.Terms]/\Eo aa cZ nP k6=some R) ⟨_,0,_,rfl,aA,rfl,az,hF⟩ ?_)
 rintro m4 _ _ ⟨g5,k6,nP,rfl,rfl,QD,hE,hF⟩
 refine Kb hE aF.Inputs (fun ari=>?_)
 rcases nP with _|⟨x8,nP⟩
 · have hk10:=dn QD
   rw[Eo]at hF
   refine di ?_
   refine bR ?_
   exact ze hF
 obtain⟨hk10,mf,lI⟩:=bN QD
 rw[Eo]at hF
 refine di ?_
 refine bQ ?_
 refine bq ?_
 refine dE [0,1,2,3,4,5,6,7,8,9,10] [0,1,0,7,15,0,32,96,224,511,1023] [9] mixed (by decide+kernel) ?_
 refine dI ?_
 refine Di mf (fun k15 j16=>?_)
 refine Dl bY ?_
 refine o9 ?_
 refine bnd hF fun dS fV hF=>dR (jl fV) (fun _=>?_)
 refine bS ?_
 refine Ci hF (fun OW hF=>?_) (fun OW hF=>?_)
 · exact ze hF
 refine au ?_
 refine dE [0,1,2,3,4,5,6,7,8,9] [0,1,0,4,0,28,60,127,255,511] [] mixed (by decide+kernel) ?_
 refine ve ?_
 refine Di mf (fun k20 pF=>?_)
 refine Dl bY ?_
 refine zI hF fun uB afF hx25 hF=>?_
 refine Di hx25 (fun k26 j27=>?_)
 refine Dl bY ?_
 refine bS ?_
 obtain⟨o28,ar1,avc⟩:=bind_some hF
 refine au ?_
 refine fE (fun f' cs'=>∃(c37:Bool)(g:Fr),c37=o28/\f'=aM g [(2,bJ.v),(3,(pz k1)),(4,(pz k2)),(7,(zi (k6:Int))),(48,(.bool c37))]/\aL cs' [ah bJ cZ,bi k1 89 (zg [(zi aF.Rel),ay.v,(zi aF.Limit),(zi aF.Cost),(zi aF.Quota)]),ah ay aF.Inputs,bi k2 123 (zg [(zi aa.Rel),aR.v]),ah aR aa.Terms]) ?_ ?_
 · replace hF:=ar1
   refine au ?_
   refine bnd hF fun uD hx31 hF=>aX (EG hx31) (fun _=>?_)
   refine au ?_
   rcases bL uD with vL|vL
   · rw[vL]
     try rw[vL]at hF; dsimp only[aO,aN]at hF
     refine aV ?_
     refine bnd hF fun wu qH hF=>aX (IQ qH) (fun _=>?_)
     exact bO hF
   rw[vL]
   try rw[vL]at hF; dsimp only[aO,aN]at hF
   exact bO hF
 rintro _ _ ⟨c37,g40,rfl,rfl,hE⟩
 replace hF:=avc
 try dsimp only at hF
 refine bD hE ?_
 refine Ci hF (fun OU hF=>?_) (fun OU hF=>?_)
 · exact ze hF
 refine aZ ?_
 rw[wk k6]
 exact⟨_,bG _,_,k6+1,nP,rfl,aA,lI,az,hF⟩
def Ey:List Int->Nat->(List Int)->Option ((List Int))
 |[],k12,c6=>some c6
 |GG::zw,k12,c6=>((w_ GG).bind fun nY=>
     if nY then (
       (E5 c6 GG).bind fun uD=>
       some uD)
     else (
       some c6)).bind fun Gt=>
   match Gt with
   |c34=>Ey zw (k12+1) c34
def Np(cZ:List Int)(aa:Atom):Option ((List Int)):=
 (app ([]:List Int) cZ).bind fun z3=>
 Ey aa.Terms 0 z3
theorem ak2{cZ:List Int}{ae:Sv}{aa:Atom}{aR:Sv}{R:(List Int)}(hF:Np cZ aa=some R):
   Fw.Spec Tryz.prog 209 [ae.v,(zg [(zi aa.Rel),aR.v])] [ah ae cZ,ah aR aa.Terms] (fun p:Sv×List Nat=>p.1.v) (fun p=>[bC p.2 p.1 R]):=by
 refine Se 31 Tryz.func209 [.tmp 4] ?_
 intro H0 F0
 unfold Np at hF
 refine au ?_
 refine bB (fun k1=>?_)
 refine bq ?_
 refine dQ rfl (cz (g:=true) dh.h dw.h .nil (vs:=[]) rfl rfl rfl (by simp)) (fun k2=>?_)
 refine dP (.cons .h .nil) (cK (Ro:=(aG aK)) (E:=3) (F:=[]) (xs:=([]:List Int)) cB rfl rfl) ?_
 refine au ?_
 refine bnd hF fun z3 hx4 hF=>dZ (.cons .h (.rd (.t .h) rfl .nil)) (fT (Ro:=(aG aK)) dh.h kF dw.h rfl rfl rfl (.tmp rfl rfl) (.tmp rfl rfl) hx4 qp) (fun p5=>?_)
 refine aZ ?_
 refine bn (bF (m:=aa.Terms.length) (fun m10 f' cs'=>∃(g:Fr)(k12:Nat)(zw c6:List Int)(v7:Sv)(F8:List Nat),m10=zw.length/\f'=aM g [(3,(pz k1)),(5,v7.v),(6,(zi (k12:Int)))]/\List.drop k12 aa.Terms=zw/\aL cs' [bi k1 123 (zg [(zi aa.Rel),aR.v]),ah aR aa.Terms,bC F8 v7 c6]/\Ey zw k12 c6=some R) ⟨_,0,_,_,p5.1,p5.2,rfl,aA,rfl,az,hF⟩ ?_)
 rintro m10 _ _ ⟨g11,k12,zw,c6,v7,F8,rfl,rfl,qb,hE,hF⟩
 refine Kb hE aa.Terms (fun az4=>?_)
 rcases zw with _|⟨GG,zw⟩
 · have avd:=dn qb
   rw[Ey]at hF
   refine di ?_
   refine bR ?_
   refine dK ?_
   cases hF
   exact Er (v7,F8)
 obtain⟨avd,iP,UK⟩:=bN qb
 rw[Ey]at hF
 refine di ?_
 refine bQ ?_
 refine au ?_
 obtain⟨Gt,Yc,YO⟩:=bind_some hF
 refine gX (fun f' cs'=>∃(c34:List Int)(v35:Sv)(AJ:List Nat)(g:Fr),c34=Gt/\f'=aM g [(3,(pz k1)),(5,v35.v),(6,(zi (k12:Int)))]/\aL cs' [bi k1 123 (zg [(zi aa.Rel),aR.v]),ah aR aa.Terms,bC AJ v35 c34]) ?_ ?_
 · replace hF:=Yc
   refine bn (fe (aI (kK (off:=1) anB.h (.tmp rfl rfl)) ?_))
   refine aW ?_
   refine Ai iP (fun k23 j24=>?_)
   refine Al bY ?_
   refine bnd hF fun nY nk hF=>aX (EG nk) (fun _=>?_)
   refine au ?_
   refine Ci hF (fun OG hF=>?_) (fun OG hF=>?_)
   · refine aV ?_
     refine Ai iP (fun k28 j29=>?_)
     refine Al bY ?_
     refine bnd hF fun uD hx31 hF=>eZ (WQ hx31) (fun p32=>?_)
     refine aW ?_
     cases hF
     exact⟨_,p32.1,p32.2,_,rfl,aA,az⟩
   refine au ?_
   cases hF
   exact⟨_,v7,F8,_,rfl,aA,az⟩
 rintro _ _ ⟨c34,v35,AJ,g38,rfl,rfl,hE⟩
 replace hF:=YO
 try dsimp only at hF
 refine bD hE ?_
 refine aV ?_
 rw[wk k12]
 exact⟨_,bG _,_,k12+1,zw,_,v35,AJ,rfl,aA,UK,az,hF⟩
def uH(ak:List Method)(ai:Query)(dN:List Step)(cZ:List Int)(ff:(List Method)->Query->(List Step)->(List Int)->(List Step)->Option ((List Step)))(k23:Nat)(x25:Atom)(c34:Bool):Nat->(List Step)->Int->Option ((List Step))
 |0,_,_=>none
 |GH+1,qX,c49=>if ((decide ((c49:Int)<(ak.length:Int)))&&(!c34))then (
     ((ix ak c49).bind fun Gv=>
       (MU Gv x25 cZ).bind fun r72=>
       if r72 then (
         (app ([]:List Step) dN).bind fun z76=>
         (app z76 ([(⟨(k23:Int),c49⟩:Step)]:List Step)).bind fun z80=>
         (Np cZ x25).bind fun Dp=>
         (ff ak ai z80 Dp qX).bind fun r95=>
         some r95)
       else (
         some qX)).bind fun o60=>
     match o60 with
     |wF=>uH ak ai dN cZ ff k23 x25 c34 GH wF (IntKind.i64.wrap (c49+1)))
   else (
     some qX)
def Bu(ak:List Method)(ai:Query)(dN:List Step)(cZ:List Int)(ff:(List Method)->Query->(List Step)->(List Int)->(List Step)->Option ((List Step)))(c18:List Step)(k23:Nat)(x25:Atom):List Step->Nat->Bool->Option ((List Step))
 |[],mo,c34=>uH ak ai dN cZ ff k23 x25 c34 (((ak.length:Int)-0).toNat+2) c18 0
 |x40::nJ,mo,c34=>Bu ak ai dN cZ ff c18 k23 x25 nJ (mo+1) (c34||((x40.Atom:Int)==(k23:Int)))
def Ej(ak:List Method)(ai:Query)(dN:List Step)(cZ:List Int)(ff:(List Method)->Query->(List Step)->(List Int)->(List Step)->Option ((List Step))):List Atom->Nat->(List Step)->Option ((List Step))
 |[],k23,c18=>some c18
 |x25::jW,k23,c18=>(Bu ak ai dN cZ ff c18 k23 x25 dN 0 false).bind fun o32=>
   match o32 with
   |Py=>Ej ak ai dN cZ ff jW (k23+1) Py
def Wp(ff:(List Method)->Query->(List Step)->(List Int)->(List Step)->Option ((List Step)))(fuel:Nat)(ak:List Method)(ai:Query)(dN:List Step)(cZ:List Int)(oq:List Step):Option ((List Step)):=
 if (((dN.length:Int):Int)==(ai.Atoms.length:Int))then (
   (bif (((oq.length:Int):Int)==0)then (some true)
     else ((IB ak dN).bind fun r5=>
       (IB ak oq).bind fun r8=>
       some (decide ((r5:Int)<r8)))).bind fun o2=>
   match o2 with
   |c11=>if c11 then (
       (app ([]:List Step) dN).bind fun QJ=>
       some QJ)
     else (
       some oq))
 else (
   Ej ak ai dN cZ ff ai.Atoms 0 oq)
def Ep(fuel:Nat):Nat->(List Method)->Query->(List Step)->(List Int)->(List Step)->Option ((List Step))
 |0,_,_,_,_,_=>none
 |n+1,ak,ai,dN,cZ,oq=>Wp (Ep fuel n) fuel ak ai dN cZ oq
def WR(fuel:Nat)(ak:List Method)(ai:Query)(dN:List Step)(cZ:List Int)(oq:List Step):Option ((List Step)):=
 Ep fuel fuel ak ai dN cZ oq
theorem aaP(fuel:Nat):∀(n:Nat)(ak:List Method)(ae:Sv)(ai:Query)(aC:Sv)(aR:Sv)(dN:List Step)(bJ:Sv)(cZ:List Int)(mg:Sv)(oq:List Step)(vM:Sv)(R:(List Step))(hF:Ep fuel n ak ai dN cZ oq=some R),
   Fw.Spec Tryz.prog 121 [ae.v,(zg [aC.v,aR.v]),bJ.v,mg.v,vM.v] [dD ae ak,ah aC ai.Head,bH aR ai.Atoms,g_ bJ dN,ah mg cZ,g_ vM oq] (fun p:Sv=>p.v) (fun p=>[g_ p R])
 |0,_,_,_,_,_,_,_,_,_,_,_,_,hF=>by cases hF
 |n+1,ak,ae,ai,aC,aR,dN,bJ,cZ,mg,oq,vM,R,hF=>by
   have ih:=aaP fuel n
   unfold Ep at hF
   generalize Ep fuel n=ff at hF ih
   refine Se 103 Tryz.func121 [.tmp 10] ?_
   intro H0 F0
   unfold Wp at hF
   refine au ?_
   refine bB (fun k1=>?_)
   refine oC ?_
   refine Ci hF (fun ar2 hF=>?_) (fun ar2 hF=>?_)
   · refine au ?_
     obtain⟨o2,gK,hO3⟩:=bind_some hF
     refine au ?_
     refine fE (fun f' cs'=>∃(c11:Bool)(g:Fr),c11=o2/\f'=aM g [(2,bJ.v),(4,vM.v),(33,(.bool c11))]/\aL cs' [g_ bJ dN,g_ vM oq]) ?_ ?_
     · replace hF:=gK
       refine aU ?_
       rcases bL (((oq.length:Int):Int)==0)with hg4|hg4
       · rw[hg4]
         try rw[hg4]at hF; dsimp only[aO,aN]at hF
         exact bO hF
       rw[hg4]
       try rw[hg4]at hF; dsimp only[aO,aN]at hF
       refine aV ?_
       refine bnd hF fun r5 hx6 hF=>aX (V9 hx6) (fun _=>?_)
       refine aV ?_
       refine bnd hF fun r8 bP hF=>aX (V9 bP) (fun _=>?_)
       exact bO hF
     rintro _ _ ⟨c11,g17,rfl,rfl,hE⟩
     replace hF:=hO3
     try dsimp only at hF
     refine bD hE ?_
     refine Ci hF (fun z_ hF=>?_) (fun z_ hF=>?_)
     · refine au ?_
       refine dQ rfl (cz (g:=true) oz.h qy.h .nil (vs:=[]) rfl rfl rfl (by simp)) (fun k12=>?_)
       refine dP (.cons .h .nil) (cK (Ro:=(aG gZ)) (E:=204) (F:=[]) (xs:=([]:List Step)) cB rfl rfl) ?_
       refine au ?_
       refine bnd hF fun QJ iy hF=>dZ (.cons .h (.rd .h rfl .nil)) (fT (Ro:=(aG gZ)) oz.h NZ qy.h rfl rfl rfl (.tmp rfl rfl) (.tmp rfl rfl) iy qp) (fun jd=>?_)
       refine bq ?_
       cases hF
       exact iX jd.1 (.tmp rfl rfl .nil) rfl (.frz .h bU (.sel (.rd .h rfl .nil)))
     refine aZ ?_
     cases hF
     exact Er vM
   refine aV ?_
   refine bn (bF (m:=ai.Atoms.length) (fun m21 f' cs'=>∃(g:Fr)(k23:Nat)(jW:List Atom)(c18:List Step)(v19:Sv),m21=jW.length/\f'=aM g [(0,ae.v),(2,bJ.v),(3,mg.v),(4,v19.v),(6,(pz k1)),(11,(zi (k23:Int)))]/\List.drop k23 ai.Atoms=jW/\aL cs' [dD ae ak,g_ bJ dN,ah mg cZ,g_ v19 c18,bi k1 39 (zg [aC.v,aR.v]),ah aC ai.Head,bH aR ai.Atoms]/\Ej ak ai dN cZ ff jW k23 c18=some R) ⟨_,0,_,_,vM,rfl,aA,rfl,az,hF⟩ ?_)
   rintro m21 _ _ ⟨g22,k23,jW,c18,v19,rfl,rfl,xJ,hE,hF⟩
   refine Kb hE ai.Atoms (fun aeO=>?_)
   rcases jW with _|⟨x25,jW⟩
   · have OX:=dn xJ
     rw[Ej]at hF
     refine di ?_
     refine bR ?_
     refine dK ?_
     cases hF
     exact Er v19
   obtain⟨OX,hx28,hd29⟩:=bN xJ
   rw[Ej]at hF
   refine di ?_
   refine bQ ?_
   refine au ?_
   obtain⟨o32,Yf,YV⟩:=bind_some hF
   refine gX (fun f' cs'=>∃(Py:List Step)(v109:Sv)(g:Fr),Py=o32/\f'=aM g [(0,ae.v),(2,bJ.v),(3,mg.v),(4,v109.v),(6,(pz k1)),(11,(zi (k23:Int)))]/\aL cs' [dD ae ak,g_ bJ dN,ah mg cZ,g_ v109 Py,bi k1 39 (zg [aC.v,aR.v]),ah aC ai.Head,bH aR ai.Atoms]) ?_ ?_
   · replace hF:=Yf
     refine bn (fe (aI (lD (v:=(.bool false)) (.bool _)) ?_))
     refine aV ?_
     refine bn (bF (m:=dN.length) (fun QI f' cs'=>∃(g:Fr)(mo:Nat)(nJ:List Step)(c34:Bool),QI=nJ.length/\f'=aM g [(0,ae.v),(2,bJ.v),(3,mg.v),(4,v19.v),(6,(pz k1)),(11,(zi (k23:Int))),(12,(.bool c34)),(13,(zi (mo:Int)))]/\List.drop mo dN=nJ/\aL cs' [dD ae ak,g_ bJ dN,ah mg cZ,g_ v19 c18,bi k1 39 (zg [aC.v,aR.v]),ah aC ai.Head,bH aR ai.Atoms]/\Bu ak ai dN cZ ff c18 k23 x25 nJ mo c34=some o32) ⟨_,0,_,_,rfl,aA,rfl,az,hF⟩ ?_)
     rintro QI _ _ ⟨g37,mo,nJ,c34,rfl,rfl,vF,hE,hF⟩
     refine Kb hE dN (fun arl=>?_)
     rcases nJ with _|⟨x40,nJ⟩
     · have YT:=dn vF
       rw[Bu]at hF
       refine bf ?_
       refine bR ?_
       refine bf ?_
       refine bn (bF (m:=(((ak.length:Int)-0).toNat+2)) (fun GH f' cs'=>∃(g:Fr)(qX:List Step)(c49:Int)(v48:Sv),f'=aM g [(0,ae.v),(2,bJ.v),(3,mg.v),(4,v48.v),(6,(pz k1)),(11,(zi (k23:Int))),(12,(.bool c34)),(14,(zi c49))]/\aL cs' [dD ae ak,g_ bJ dN,ah mg cZ,g_ v48 qX,bi k1 39 (zg [aC.v,aR.v]),ah aC ai.Head,bH aR ai.Atoms]/\uH ak ai dN cZ ff k23 x25 c34 GH qX c49=some o32) ⟨_,_,_,v19,aA,az,hF⟩ ?_)
       rintro GH _ _ ⟨g51,qX,c49,v48,rfl,hE,hF⟩
       refine bD hE ?_
       rcases GH with _|GH
       · rw[uH]at hF
         exact absurd hF (by simp)
       rw[uH]at hF
       refine aW ?_
       refine fE (fun f' cs'=>∃(g:Fr),f'=aM g [(0,ae.v),(2,bJ.v),(3,mg.v),(4,v48.v),(6,(pz k1)),(11,(zi (k23:Int))),(12,(.bool c34)),(14,(zi c49)),(68,(.bool ((decide ((c49:Int)<(ak.length:Int)))&&(!c34))))]/\aL cs' [dD ae ak,g_ bJ dN,ah mg cZ,g_ v48 qX,bi k1 39 (zg [aC.v,aR.v]),ah aC ai.Head,bH aR ai.Atoms]) ?_ ?_
       · refine aV ?_
         rcases bL (decide ((c49:Int)<(ak.length:Int)))with Pz|Pz
         · rw[Pz]
           try rw[Pz]at hF; dsimp only[aO,aN]at hF
           refine aZ ?_
           exact⟨_,aA,az⟩
         rw[Pz]
         try rw[Pz]at hF; dsimp only[aO,aN]at hF
         refine aU ?_
         exact⟨_,aA,az⟩
       rintro _ _ ⟨g59,rfl,hE⟩
       refine bD hE ?_
       refine Ci hF (fun ar3 hF=>?_) (fun ar3 hF=>?_)
       · refine au ?_
         obtain⟨o60,ar4,ave⟩:=bind_some hF
         refine gX (fun f' cs'=>∃(wF:List Step)(UL:Sv)(g:Fr),wF=o60/\f'=aM g [(0,ae.v),(2,bJ.v),(3,mg.v),(4,UL.v),(6,(pz k1)),(11,(zi (k23:Int))),(12,(.bool c34)),(14,(zi c49))]/\aL cs' [dD ae ak,g_ bJ dN,ah mg cZ,g_ UL wF,bi k1 39 (zg [aC.v,aR.v]),ah aC ai.Head,bH aR ai.Atoms]) ?_ ?_
         · replace hF:=ar4
           refine bn (dE [0,1,2,3,4,5,6,7,8,9,10] [0,0,3,7,0,16,0,112,240,0,1023] [10] mixed (by decide+kernel) ?_)
           refine bS ?_
           refine zI hF fun Gv aCm zZ hF=>?_
           refine Di zZ (fun k66 j67=>?_)
           refine lc (uL Gv) wQ (fun p68=>?_)
           refine dI ?_
           refine Di hx28 (fun k69 j70=>?_)
           refine lc (oV x25) pO (fun p71=>?_)
           refine du ?_
           refine bnd hF fun r72 avf hF=>dR (akn avf) (fun _=>?_)
           refine du ?_
           refine Ci hF (fun avg hF=>?_) (fun avg hF=>?_)
           · refine au ?_
             refine dQ rfl (cz (g:=true) oz.h qy.h .nil (vs:=[]) rfl rfl rfl (by simp)) (fun k75=>?_)
             refine dP (.cons .h .nil) (cK (Ro:=(aG gZ)) (E:=204) (F:=[]) (xs:=([]:List Step)) cB rfl rfl) ?_
             refine au ?_
             refine bnd hF fun z76 Zj hF=>dZ (.cons .h (.rd .q5 rfl .nil)) (fT (Ro:=(aG gZ)) oz.h NZ qy.h rfl rfl rfl (.tmp rfl rfl) (.tmp rfl rfl) Zj qp) (fun QF=>?_)
             refine aW ?_
             refine aI (jm qy.h rfl (vs:=[(zi (k23:Int)),(zi c49)]) bZ (cells:=[(zi (k23:Int)),(zi c49)]) rfl) ?_
             refine dQ rfl (cz (g:=true) oz.h qy.h bZ (vs:=[(zg [(zi (k23:Int)),(zi c49)])]) rfl rfl rfl (by intro v hv; simp at hv; rcases hv with rfl<;>rfl)) (fun k79=>?_)
             refine dP (.cons .h .nil) (cK (Ro:=(aG gZ)) (E:=204) (F:=([]++[])) (xs:=([(⟨(k23:Int),c49⟩:Step)]:List Step)) (gq (jF (fun _=>rfl)) cB dz) rfl rfl) ?_
             refine bnd hF fun z80 Zk hF=>dZ (.cons (.t .h) (.cons .h .nil)) (fT (Ro:=(aG gZ)) oz.h NZ qy.h rfl rfl rfl (.tmp rfl rfl) (.tmp rfl rfl) Zk iF) (fun p82=>?_)
             refine aW ?_
             refine rZ .h bU ?_
             refine oW [0,1,2,3,4,5,6,7,8,10,9,11,12] [0,0,0,0,0,16,0,112,240,504,0,2047,4095] [9,11] mixed (by decide+kernel) ?_
             refine afx ?_
             refine Di hx28 (fun pM j90=>?_)
             refine lc (oV x25) pO (fun p91=>?_)
             refine du ?_
             refine bnd hF fun Dp hx93 hF=>eU rfl rfl .no (.rd .q9 rfl (.rd .h rfl .nil)) .nil (fun ha=>NG (post':=fun VB:Sv×List Nat=>[ah VB.1 Dp]) (fun VB=>(.frz .h bU az)) (dB aqu.h (.cons (EN ha (.tmp rfl rfl) rfl) (.cons (EN ha (.tmp rfl rfl) rfl) .nil)) (@ak2 cZ mg x25 p91 _ hx93))) (fun VB=>?_)
             refine bnd hF fun r95 hx96 hF=>eU rfl rfl .no (.rd .q8 rfl (.rd .q13 rfl (.rd .q14 rfl (.rd .q3 rfl (.rd .h rfl (.rd .q11 rfl .nil)))))) .nil (fun ha=>dB aqt.h (.cons (EN ha (.tmp rfl rfl) rfl) (.cons (EN ha (.tmp rfl rfl) rfl) (.cons (EN ha (.tmp rfl rfl) rfl) (.cons (EN ha (.tmp rfl rfl) rfl) (.cons (EN ha (.tmp rfl rfl) rfl) .nil))))) (ih ak ae ai aC aR z80 p82.1 Dp VB.1 qX v48 _ hx96)) (fun p97=>?_)
             refine bS ?_
             cases hF
             exact⟨_,p97,_,rfl,aA,az⟩
           refine au ?_
           cases hF
           exact⟨_,v48,_,rfl,aA,az⟩
         rintro _ _ ⟨wF,UL,aCn,rfl,rfl,hE⟩
         replace hF:=ave
         try dsimp only at hF
         refine bD hE ?_
         refine aV ?_
         exact⟨GH,bG _,_,_,_,UL,aA,az,hF⟩
       refine aU ?_
       cases hF
       exact⟨_,v48,_,rfl,aA,az⟩
     obtain⟨YT,oD,JO⟩:=bN vF
     rw[Bu]at hF
     refine bf ?_
     refine bQ ?_
     refine bq ?_
     refine fE (fun f' cs'=>∃(g:Fr),f'=aM g [(0,ae.v),(2,bJ.v),(3,mg.v),(4,v19.v),(6,(pz k1)),(11,(zi (k23:Int))),(12,(.bool (c34||((x40.Atom:Int)==(k23:Int))))),(13,(zi (mo:Int)))]/\aL cs' [dD ae ak,g_ bJ dN,ah mg cZ,g_ v19 c18,bi k1 39 (zg [aC.v,aR.v]),ah aC ai.Head,bH aR ai.Atoms]) ?_ ?_
     · refine aW ?_
       rcases bL c34 with u_|u_
       · rw[u_]
         try rw[u_]at hF; dsimp only[aO,aN]at hF
         refine iU ?_
         exact⟨_,aA,az⟩
       rw[u_]
       try rw[u_]at hF; dsimp only[aO,aN]at hF
       refine aV ?_
       refine Ai oD (fun au3 au4=>?_)
       refine bq ?_
       refine Al Tk ?_
       refine bf ?_
       exact⟨_,aA,az⟩
     rintro _ _ ⟨aCo,rfl,hE⟩
     refine bD hE ?_
     refine aV ?_
     rw[wk mo]
     exact⟨_,bG _,_,mo+1,nJ,_,rfl,aA,JO,az,hF⟩
   rintro _ _ ⟨Py,v109,aCp,rfl,rfl,hE⟩
   replace hF:=YV
   try dsimp only at hF
   refine bD hE ?_
   refine aV ?_
   rw[wk k23]
   exact⟨_,bG _,_,k23+1,jW,_,v109,rfl,aA,hd29,az,hF⟩
theorem ajw{fuel:Nat}{ak:List Method}{ae:Sv}{ai:Query}{aC aR:Sv}{dN:List Step}{bJ:Sv}{cZ:List Int}{mg:Sv}{oq:List Step}{vM:Sv}{R:(List Step)}(hF:WR fuel ak ai dN cZ oq=some R):
   Fw.Spec Tryz.prog 121 [ae.v,(zg [aC.v,aR.v]),bJ.v,mg.v,vM.v] [dD ae ak,ah aC ai.Head,bH aR ai.Atoms,g_ bJ dN,ah mg cZ,g_ vM oq] (fun p:Sv=>p.v) (fun p=>[g_ p R]):=aaP fuel fuel ak ae ai aC aR dN bJ cZ mg oq vM R hF
def DI(ak:List Method)(fuel:Nat):List Query->Nat->(List Int)->(List Atom)->(List Step)->Int->Bool->Option (lH×Bool)
 |[],vN,c175,CO,CP,c183,vO=>some ((⟨(⟨c175,CO⟩:Query),CP,c183⟩:lH),vO)
 |PD::yT,vN,c175,CO,CP,c183,vO=>((Mj ak).bind fun Zl=>
     (WR fuel Zl PD ([]:List Step) ([]:List Int) ([]:List Step)).bind fun F_=>
     (IB ak F_).bind fun CQ=>
     if ((decide ((0:Int)<(F_.length:Int)))&&((!vO)||(decide ((CQ:Int)<c183))))then (
       (Jf PD).bind fun Zm=>
       some (Zm.Head,Zm.Atoms,F_,CQ,true))
     else (
       some (c175,CO,CP,c183,vO))).bind fun Zn=>
   match Zn with
   |(PE,c227,PG,c232,c233)=>DI ak fuel yT (vN+1) PE c227 PG c232 c233
def KV(fuel:Nat)(ag:List Int)(ak:List Method)(ai:Query):Option (lH×Bool):=
 (Nn ag ak ai).bind fun r4=>
 if (!r4)then (
   some ((⟨(⟨[],[]⟩:Query),[],0⟩:lH),false))
 else (
   (KM fuel ag ai).bind fun r7=>
   DI ak fuel r7 0 ([]:List Int) ([]:List Atom) ([]:List Step) 0 false)
theorem ahU{fuel:Nat}{ag:List Int}{ae:Sv}{ak:List Method}{aC:Sv}{ai:Query}{bJ eP:Sv}{R:lH×Bool}(hF:KV fuel ag ak ai=some R):
   Fw.Spec Tryz.prog 52 [ae.v,aC.v,(zg [bJ.v,eP.v])] [ah ae ag,dD aC ak,ah bJ ai.Head,bH eP ai.Atoms] (fun p:Sv×List Nat×Sv×List Nat×Sv=>(.tuple [(zg [p.1.v,p.2.2.1.v,p.2.2.2.2.v,(zi R.1.Cost)]),(.bool R.2)].toArray)) (fun p=>[bC p.2.1 p.1 R.1.Query.Head,rD p.2.2.2.1 p.2.2.1 R.1.Query.Atoms,g_ p.2.2.2.2 R.1.Steps]):=by
 refine Se 66 Tryz.func52 [.cell 6 105,.tmp 7] ?_
 intro H0 F0
 unfold KV at hF
 refine au ?_
 refine bB (fun k1=>?_)
 refine dH (fun k2=>?_)
 refine bq ?_
 refine aI (jm zL.h rfl (vs:=[]) .nil (cells:=[(.slice none 0 0),(.slice none 0 0),(.slice none 0 0),(zi 0)]) rfl) ?_
 refine dH (fun k3=>?_)
 refine As (.agg ([(.slice none 0 0),(.slice none 0 0),(.slice none 0 0),(zi 0)]:List Value).toArray) ?_
 refine dK ?_
 refine bnd hF fun r4 hx5 hF=>aX (ak0 hx5) (fun _=>?_)
 refine aW ?_
 refine Ci hF (fun ar5 hF=>?_) (fun ar5 hF=>?_)
 · refine aW ?_
   refine As (.agg ([(.slice none 0 0),(.slice none 0 0),(.slice none 0 0),(zi 0)]:List Value).toArray) ?_
   refine bq ?_
   cases hF
   exact iX (⟨none,0,0⟩,[],⟨none,0,0⟩,[],⟨none,0,0⟩) (.cellA rfl rfl .h rfl TR.h zL.h.sz rfl rfl (.tmp rfl rfl .nil)) rfl (.conv .nil (iD (Ro:=(aG aK)) (E:=3)) (.cons .nil) (.conv .nil (iD (Ro:=kM) (E:=123)) (.cons .nil) (.conv .nil (zf (R:=gZ) (E:=204)) (.cons .nil) (.sel (.cons .q2 (.cons (.t .h) (.rd .h rfl .nil)))))))
 refine aU ?_
 refine bnd hF fun r7 jy hF=>eZ (ahD jy) (fun p9=>?_)
 refine aZ ?_
 refine bn (rZ .h bU ?_)
 refine bF (m:=r7.length) (fun af7 f' cs'=>∃(g:Fr)(vN:Nat)(yT:List Query)(c175:List Int)(CO:List Atom)(CP:List Step)(c183:Int)(vO:Bool)(CR:Sv)(PH:List Nat)(CS:Sv)(PI:List Nat)(v182:Sv),af7=yT.length/\f'=aM g [(1,aC.v),(6,(pz k2)),(8,(pz k3)),(9,(.bool vO)),(10,p9.1.v),(11,(zi (vN:Int)))]/\List.drop vN r7=yT/\aL cs' [dD aC ak,b_ k2 105 (.agg ([(.slice none 0 0),(.slice none 0 0),(.slice none 0 0),(zi 0)]:List Value).toArray),b_ k3 105 (zg [CR.v,CS.v,v182.v,(zi c183)]),bC PH CR c175,rD PI CS CO,g_ v182 CP,JI p9.1 r7]/\DI ak fuel yT vN c175 CO CP c183 vO=some R) ⟨_,0,_,_,_,_,_,_,⟨none,0,0⟩,[],⟨none,0,0⟩,[],⟨none,0,0⟩,rfl,aA,rfl,(.conv .nil (iD (Ro:=(aG aK)) (E:=3)) (.cons .nil) (.conv .nil (iD (Ro:=kM) (E:=123)) (.cons .nil) (.conv .nil (zf (R:=gZ) (E:=204)) (.cons .nil) az))),hF⟩ ?_
 rintro af7 _ _ ⟨aCq,vN,yT,c175,CO,CP,c183,vO,CR,PH,CS,PI,v182,rfl,rfl,aeV,hE,hF⟩
 refine Kb hE r7 (fun axU=>?_)
 rcases yT with _|⟨PD,yT⟩
 · have ar6:=dn aeV
   rw[DI]at hF
   refine bf ?_
   refine bR ?_
   refine bf ?_
   refine As (zg [CR.v,CS.v,v182.v,(zi c183)]) ?_
   refine bq ?_
   cases hF
   exact iX (CR,PH,CS,PI,v182) (.cellA rfl rfl .h rfl TR.h zL.h.sz rfl rfl (.tmp rfl rfl .nil)) rfl (.sel (.cons .q3 (.cons .q3 (.rd .q3 rfl .nil))))
 obtain⟨ar6,aeW,ar7⟩:=bN aeV
 rw[DI]at hF
 refine bf ?_
 refine bQ ?_
 refine au ?_
 obtain⟨Zn,aoZ,ar8⟩:=bind_some hF
 refine gX (fun f' cs'=>∃(PE:List Int)(c227:List Atom)(PG:List Step)(c232:Int)(c233:Bool)(UM:Sv)(Zo:List Nat)(v228:Sv)(Zp:List Nat)(UN:Sv)(g:Fr),Zn=(PE,c227,PG,c232,c233)/\f'=aM g [(1,aC.v),(6,(pz k2)),(8,(pz k3)),(9,(.bool c233)),(10,p9.1.v),(11,(zi (vN:Int)))]/\aL cs' [dD aC ak,b_ k2 105 (.agg ([(.slice none 0 0),(.slice none 0 0),(.slice none 0 0),(zi 0)]:List Value).toArray),b_ k3 105 (zg [UM.v,v228.v,UN.v,(zi c232)]),bC Zo UM PE,rD Zp v228 c227,g_ UN PG,JI p9.1 r7]) ?_ ?_
 · replace hF:=aoZ
   refine bn (dE [0,2,3,4,5,6,7,8,1,9,10] [0,1,0,0,12,28,0,0,0,511,1023] [1,9] mixed (by decide+kernel) ?_)
   refine dI ?_
   refine Di aeW (fun auZ aCr=>?_)
   refine OB (SA PD) WY (fun aCs=>?_)
   refine jI rfl .no rfl (fun ha=>cz (g:=true) (len:=0) (parts:=[]) oz.h qy.h .nil (vs:=[]) rfl rfl rfl (by simp)) (fun qK=>?_)
   refine jO (.cons .h .nil) (cK (Ro:=(aG gZ)) (E:=204) (F:=[]) (xs:=([]:List Step)) cB rfl rfl) ?_
   refine jO .nil (XR (R:=gZ) (E:=204) (k:=qK) (i:=0) (m:=1)) ?_
   refine jI rfl .no rfl (fun ha=>cz (g:=true) (len:=0) (parts:=[]) dh.h dw.h .nil (vs:=[]) rfl rfl rfl (by simp)) (fun af8=>?_)
   refine jO (.cons .h .nil) (cK (Ro:=(aG aK)) (E:=3) (F:=[]) (xs:=([]:List Int)) cB rfl rfl) ?_
   refine jO .nil (XR (R:=aK) (E:=3) (k:=af8) (i:=0) (m:=1)) ?_
   refine jI rfl .no rfl (fun ha=>cz (g:=true) (len:=0) (parts:=[]) oz.h qy.h .nil (vs:=[]) rfl rfl rfl (by simp)) (fun af9=>?_)
   refine jO (.cons .h .nil) (cK (Ro:=(aG gZ)) (E:=204) (F:=[]) (xs:=([]:List Step)) cB rfl rfl) ?_
   refine jO .nil (XR (R:=gZ) (E:=204) (k:=af9) (i:=0) (m:=1)) ?_
   refine bnd hF fun Zl ar9 hF=>eU rfl rfl .no (.rd .q9 rfl .nil) (.own (.t .h) (by simp[aQ]) (.own .q3 (by simp[aQ]) (.own .q5 (by simp[aQ]) .nil))) (fun ha=>NG (post':=fun Zq:Sv×List Nat=>[dD Zq.1 Zl]) (fun Zq=>(.frz .h bU az)) (dB aqs.h (.cons (EN ha (.tmp rfl rfl) rfl) .nil) (@ajv ak aC _ ar9))) (fun Zq=>?_)
   refine bnd hF fun F_ ar_ hF=>Aw (@ajw _ _ _ _ _ _ _ (⟨(some ⟨qK,0,none⟩),0,1⟩) _ (⟨(some ⟨af8,0,none⟩),0,1⟩) _ (⟨(some ⟨af9,0,none⟩),0,1⟩) _ ar_) (fun JX=>?_)
   refine bS ?_
   refine bq ?_
   refine bnd hF fun CQ ar' hF=>aX (V9 ar') (fun _=>?_)
   refine bq ?_
   refine fE (fun f' cs'=>∃(g:Fr),f'=aM g [(1,aC.v),(6,(pz k2)),(8,(pz k3)),(9,(.bool vO)),(10,p9.1.v),(11,(zi (vN:Int))),(12,JX.v),(13,(zi CQ)),(55,(.bool ((decide ((0:Int)<(F_.length:Int)))&&((!vO)||(decide ((CQ:Int)<c183))))))]/\aL cs' [dD aC ak,b_ k2 105 (.agg ([(.slice none 0 0),(.slice none 0 0),(.slice none 0 0),(zi 0)]:List Value).toArray),b_ k3 105 (zg [CR.v,CS.v,v182.v,(zi c183)]),bC PH CR c175,rD PI CS CO,g_ v182 CP,JI p9.1 r7,g_ JX F_]) ?_ ?_
   · refine aU ?_
     rcases bL (decide ((0:Int)<(F_.length:Int)))with Oe|Oe
     · rw[Oe]
       try rw[Oe]at hF; dsimp only[aO,aN]at hF
       refine aZ ?_
       rcases bL (!vO)with Og|Og
       · rw[Og]
         try rw[Og]at hF; dsimp only[aO,aN]at hF
         refine di ?_
         exact⟨_,aA,az⟩
       rw[Og]
       try rw[Og]at hF; dsimp only[aO,aN]at hF
       refine Cs ?_
       exact⟨_,aA,az⟩
     rw[Oe]
     try rw[Oe]at hF; dsimp only[aO,aN]at hF
     refine iU ?_
     exact⟨_,aA,az⟩
   rintro _ _ ⟨aCt,rfl,hE⟩
   refine bD hE ?_
   refine Ci hF (fun asa hF=>?_) (fun asa hF=>?_)
   · refine bq ?_
     refine Ai aeW (fun aCu aCv=>?_)
     refine zT (SA PD) WY (fun aCw=>?_)
     refine bnd hF fun Zm asb hF=>Dg (abU asb) (fun xL=>?_)
     refine aW ?_
     refine aI (jm zL.h rfl (vs:=[(zg [xL.1.v,xL.2.2.1.v]),JX.v,(zi CQ)]) bZ (cells:=[xL.1.v,xL.2.2.1.v,JX.v,(zi CQ)]) rfl) ?_
     refine As (zg [xL.1.v,xL.2.2.1.v,JX.v,(zi CQ)]) ?_
     refine aU ?_
     cases hF
     exact⟨_,_,_,_,_,xL.1,xL.2.1,xL.2.2.1,xL.2.2.2,JX,_,rfl,aA,az⟩
   refine au ?_
   cases hF
   exact⟨_,_,_,_,_,CR,PH,CS,PI,v182,_,rfl,aA,az⟩
 rintro _ _ ⟨PE,c227,PG,c232,c233,UM,Zo,v228,Zp,UN,aCx,rfl,rfl,hE⟩
 replace hF:=ar8
 try dsimp only at hF
 refine bD hE ?_
 refine aV ?_
 rw[wk vN]
 exact⟨_,bG _,_,vN+1,yT,_,_,_,_,_,UM,Zo,v228,Zp,UN,rfl,aA,ar7,az,hF⟩
def wN:Nat->Int->(List UInt8)->Option ((List UInt8))
 |0,_,_=>none
 |m5+1,c3,c4=>if ((c3:Int)!=0)then (
     if (decide (((Int.tmod c3 10):Int)<0))then (
       (fG [(rG (IntKind.i64.wrap (48+(IntKind.i64.wrap (-(Int.tmod c3 10))))))] c4).bind fun GG=>
       wN m5 (IntKind.i64.wrap (Int.tdiv c3 10)) GG)
     else (
       (fG [(rG (IntKind.i64.wrap (48+(Int.tmod c3 10))))] c4).bind fun mU=>
       wN m5 (IntKind.i64.wrap (Int.tdiv c3 10)) mU))
   else (
     some c4)
def rW(fuel:Nat)(fF:Int):Option ((List UInt8)):=
 if ((fF:Int)==0)then (
   some [48])
 else (
   (wN fuel fF []).bind fun o1=>
   match o1 with
   |GI=>if (decide ((fF:Int)<0))then (
       (fG [45] GI).bind fun oO=>
       some oO)
     else (
       some GI))
theorem Bn{fuel:Nat}{fF:Int}{R:(List UInt8)}(hF:rW fuel fF=some R):
   Fw.Spec Tryz.prog 79 [(zi fF)] [] (fun _:Unit=>(sv R)) (fun _=>[]):=by
 refine Se 31 Tryz.func79 [.tmp 2] ?_
 intro H0 F0
 unfold rW at hF
 refine di ?_
 refine Ci hF (fun FU hF=>?_) (fun FU hF=>?_)
 · exact ze hF
 refine dK ?_
 obtain⟨o1,qI,hO2⟩:=bind_some hF
 refine gX (fun f' cs'=>∃(GI:List UInt8)(g:Fr),GI=o1/\f'=aM g [(3,(sv GI)),(4,(.bool (decide ((fF:Int)<0))))]/\aL cs' []) ?_ ?_
 · replace hF:=qI
   refine bn (bF (m:=fuel) (fun m5 f' cs'=>∃(g:Fr)(c3:Int)(c4:List UInt8),f'=aM g [(0,(zi c3)),(3,(sv c4)),(4,(.bool (decide ((fF:Int)<0))))]/\aL cs' []/\wN m5 c3 c4=some o1) ⟨_,_,_,aA,az,hF⟩ ?_)
   rintro m5 _ _ ⟨g6,c3,c4,rfl,hE,hF⟩
   refine bD hE ?_
   rcases m5 with _|m5
   · rw[wN]at hF
     exact absurd hF (by simp)
   rw[wN]at hF
   refine aV ?_
   refine Ci hF (fun avh hF=>?_) (fun avh hF=>?_)
   · refine au ?_
     refine bn (fe (Cm (zi c3) rfl rfl ?_))
     refine aI (apf (i:=c3) (j:=10) (.tmp rfl rfl) (.int _ _) (by decide)) ?_
     refine bf ?_
     refine Ci hF (fun Ab hF=>?_) (fun Ab hF=>?_)
     · refine aW ?_
       refine aI (apB (i:=(Int.tmod c3 10)) (.tmp rfl rfl)) ?_
       refine aV ?_
       refine aI (acU (i:=(IntKind.i64.wrap (48+(IntKind.i64.wrap (-(Int.tmod c3 10)))))) Vn Vo (.tmp rfl rfl)) ?_
       refine dQ rfl (cz (g:=true) TT.h Vp.h bZ (vs:=[(.int .u8 ((rG (IntKind.i64.wrap (48+(IntKind.i64.wrap (-(Int.tmod c3 10)))))).toNat:Int))]) rfl rfl rfl (by intro v hv; simp at hv; rcases hv with rfl<;>rfl)) (fun k13=>?_)
       refine dP (.cons .h .nil) (cK (Ro:=(aG Ct)) (E:=5) (F:=([]++[])) (xs:=([(rG (IntKind.i64.wrap (48+(IntKind.i64.wrap (-(Int.tmod c3 10))))))]:List UInt8)) (gq (jF (fun _=>rfl)) cB dz) rfl rfl) ?_
       refine fq .h (fun hp=>acY (u:=(rG (IntKind.i64.wrap (48+(IntKind.i64.wrap (-(Int.tmod c3 10))))))) TT.h Vo afw Vp.h.sz (.tmp rfl rfl) hp) ?_
       refine au ?_
       refine bnd hF fun GG jS hF=>?_
       obtain⟨aCy,aCz⟩:=gQ jS
       refine aI (gU (s:=[(rG (IntKind.i64.wrap (48+(IntKind.i64.wrap (-(Int.tmod c3 10))))))]) (t:=c4) (u:=GG) (.tmp rfl rfl) (.tmp rfl rfl) jS) ?_
       refine aU ?_
       refine aI (aen (i:=c3) (j:=10) (.tmp rfl rfl) (.int _ _) (by decide)) ?_
       refine aW ?_
       exact⟨m5,bG _,_,_,_,aA,az,hF⟩
     refine aU ?_
     refine aI (acU (i:=(IntKind.i64.wrap (48+(Int.tmod c3 10)))) Vn Vo (.tmp rfl rfl)) ?_
     refine dQ rfl (cz (g:=true) TT.h Vp.h bZ (vs:=[(.int .u8 ((rG (IntKind.i64.wrap (48+(Int.tmod c3 10)))).toNat:Int))]) rfl rfl rfl (by intro v hv; simp at hv; rcases hv with rfl<;>rfl)) (fun k18=>?_)
     refine dP (.cons .h .nil) (cK (Ro:=(aG Ct)) (E:=5) (F:=([]++[])) (xs:=([(rG (IntKind.i64.wrap (48+(Int.tmod c3 10))))]:List UInt8)) (gq (jF (fun _=>rfl)) cB dz) rfl rfl) ?_
     refine fq .h (fun hp=>acY (u:=(rG (IntKind.i64.wrap (48+(Int.tmod c3 10))))) TT.h Vo afw Vp.h.sz (.tmp rfl rfl) hp) ?_
     refine au ?_
     refine bnd hF fun mU lT hF=>?_
     obtain⟨Zr,Zt⟩:=gQ lT
     refine aI (gU (s:=[(rG (IntKind.i64.wrap (48+(Int.tmod c3 10))))]) (t:=c4) (u:=mU) (.tmp rfl rfl) (.tmp rfl rfl) lT) ?_
     refine aU ?_
     refine aI (aen (i:=c3) (j:=10) (.tmp rfl rfl) (.int _ _) (by decide)) ?_
     refine aW ?_
     exact⟨m5,bG _,_,_,_,aA,az,hF⟩
   exact bO hF
 rintro _ _ ⟨GI,g31,rfl,rfl,hE⟩
 replace hF:=hO2
 try dsimp only at hF
 refine bD hE ?_
 refine aU ?_
 refine Ci hF (fun o_ hF=>?_) (fun o_ hF=>?_)
 · refine aW ?_
   refine bnd hF fun oO hx27 hF=>?_
   obtain⟨af_,af'⟩:=gQ hx27
   refine aI (gU (s:=[45]) (t:=GI) (u:=oO) (.sv _) (.tmp rfl rfl) hx27) ?_
   exact ze hF
 exact ze hF
def Jh(fuel:Nat)(fu:Int):Option ((List UInt8)):=
 (w_ fu).bind fun r1=>
 if r1 then (
   (rW fuel (IntKind.i64.wrap (fu-10))).bind fun r4=>
   (fG [120] r4).bind fun x7=>
   some x7)
 else (
   (rW fuel fu).bind fun qf=>
   some qf)
theorem abX{fuel:Nat}{fu:Int}{R:(List UInt8)}(hF:Jh fuel fu=some R):
   Fw.Spec Tryz.prog 273 [(zi fu)] [] (fun _:Unit=>(sv R)) (fun _=>[]):=by
 refine Se 11 Tryz.func273 [.tmp 2] ?_
 intro H0 F0
 unfold Jh at hF
 refine aZ ?_
 refine bnd hF fun r1 hx2 hF=>aX (EG hx2) (fun _=>?_)
 refine au ?_
 refine Ci hF (fun PK hF=>?_) (fun PK hF=>?_)
 · refine bq ?_
   refine bnd hF fun r4 hx5 hF=>aX (Bn hx5) (fun _=>?_)
   refine bnd hF fun x7 jy hF=>?_
   obtain⟨avi,hz9⟩:=gQ jy
   refine aI (gU (s:=[120]) (t:=r4) (u:=x7) (.sv _) (.tmp rfl rfl) jy) ?_
   exact ze hF
 refine bq ?_
 refine bnd hF fun qf qD hF=>aX (Bn qD) (fun _=>?_)
 exact ze hF
def yw(fuel:Nat):List Int->Nat->(List UInt8)->Option ((List UInt8))
 |[],k5,c1=>some c1
 |x7::bz,k5,c1=>(if (decide ((0:Int)<(k5:Int)))then (
       (fG c1 [44]).bind fun gF=>
       (Jh fuel x7).bind fun gH=>
       (fG gF gH).bind fun x25=>
       some x25)
     else (
       (Jh fuel x7).bind fun Gy=>
       (fG c1 Gy).bind fun x34=>
       some x34)).bind fun qW=>
   match qW with
   |wB=>yw fuel bz (k5+1) wB
def I5(fuel:Nat)(ak:List Int):Option ((List UInt8)):=
 yw fuel ak 0 []
theorem abw{fuel:Nat}{ak:List Int}{ae:Sv}{R:(List UInt8)}(hF:I5 fuel ak=some R):
   Fw.Spec Tryz.prog 210 [ae.v] [ah ae ak] (fun _:Unit=>(sv R)) (fun _=>[]):=by
 refine Se 23 Tryz.func210 [.tmp 2] ?_
 intro H0 F0
 unfold I5 at hF
 refine iU ?_
 refine bn (bF (m:=ak.length) (fun m3 f' cs'=>∃(g:Fr)(k5:Nat)(bz:List Int)(c1:List UInt8),m3=bz.length/\f'=aM g [(0,ae.v),(3,(sv c1)),(4,(zi (k5:Int)))]/\List.drop k5 ak=bz/\aL cs' [ah ae ak]/\yw fuel bz k5 c1=some R) ⟨_,0,_,_,rfl,aA,rfl,az,hF⟩ ?_)
 rintro m3 _ _ ⟨g4,k5,bz,c1,rfl,rfl,gL,hE,hF⟩
 refine Kb hE ak (fun qz=>?_)
 rcases bz with _|⟨x7,bz⟩
 · have jP:=dn gL
   rw[yw]at hF
   refine bf ?_
   refine bR ?_
   exact ze hF
 obtain⟨jP,eX,gD⟩:=bN gL
 rw[yw]at hF
 refine bf ?_
 refine bQ ?_
 refine au ?_
 obtain⟨qW,FJ,CL⟩:=bind_some hF
 refine gX (fun f' cs'=>∃(wB:List UInt8)(g:Fr),wB=qW/\f'=aM g [(0,ae.v),(3,(sv wB)),(4,(zi (k5:Int)))]/\aL cs' [ah ae ak]) ?_ ?_
 · replace hF:=FJ
   refine bn (qC (fe (Cm (zi (k5:Int)) rfl rfl ?_)))
   refine aW ?_
   refine Ci hF (fun zX hF=>?_) (fun zX hF=>?_)
   · refine aW ?_
     refine bnd hF fun gF iP hF=>?_
     obtain⟨aCA,aCB⟩:=gQ iP
     refine aI (gU (s:=c1) (t:=[44]) (u:=gF) (.tmp rfl rfl) (.sv _) iP) ?_
     refine aZ ?_
     refine Ai eX (fun k20 pF=>?_)
     refine Al bY ?_
     refine bnd hF fun gH mK hF=>aX (abX mK) (fun _=>?_)
     refine bnd hF fun x25 nk hF=>?_
     obtain⟨aCC,aCD⟩:=gQ nk
     refine aI (gU (s:=gF) (t:=gH) (u:=x25) (.tmp rfl rfl) (.tmp rfl rfl) nk) ?_
     exact bO hF
   refine aV ?_
   refine Ai eX (fun k29 j30=>?_)
   refine Al bY ?_
   refine bnd hF fun Gy hx32 hF=>aX (abX hx32) (fun _=>?_)
   refine bnd hF fun x34 qH hF=>?_
   obtain⟨avj,avk⟩:=gQ qH
   refine aI (gU (s:=c1) (t:=Gy) (u:=x34) (.tmp rfl rfl) (.tmp rfl rfl) qH) ?_
   exact bO hF
 rintro _ _ ⟨wB,g41,rfl,rfl,hE⟩
 replace hF:=CL
 try dsimp only at hF
 refine bD hE ?_
 refine aV ?_
 rw[wk k5]
 exact⟨_,bG _,_,k5+1,bz,_,rfl,aA,gD,az,hF⟩
def Bj(aa:Atom)(fuel:Nat):List Int->Nat->Option ((List UInt8))
 |[],k15=>(rW fuel aa.Rel).bind fun mR=>
   (fG [114] mR).bind fun x27=>
   (fG x27 [40]).bind fun x31=>
   (I5 fuel aa.Terms).bind fun xX=>
   (fG x31 xX).bind fun x38=>
   (fG x38 [41]).bind fun GJ=>
   some GJ
 |Dk::zy,k15=>(ET Dk).bind fun gM=>
   if (!gM)then (
     some [])
   else (
     Bj aa fuel zy (k15+1))
def Io(fuel:Nat)(aa:Atom):Option ((List UInt8)):=
 ((iG aa.Rel 0 2).bind fun r4=>
   bif (!r4)then (some true)
   else ((iG (aa.Terms.length:Int) 1 3).bind fun r8=>
     some (!r8))).bind fun o2=>
 match o2 with
 |c11=>if c11 then (
     some [])
   else (
     Bj aa fuel aa.Terms 0)
theorem aaQ{fuel:Nat}{aa:Atom}{ay:Sv}{R:(List UInt8)}(hF:Io fuel aa=some R):
   Fw.Spec Tryz.prog 211 [(zg [(zi aa.Rel),ay.v])] [ah ay aa.Terms] (fun _:Unit=>(sv R)) (fun _=>[]):=by
 refine Se 39 Tryz.func211 [.tmp 2] ?_
 intro H0 F0
 unfold Io at hF
 refine au ?_
 refine bB (fun k1=>?_)
 refine bq ?_
 obtain⟨o2,gK,hO3⟩:=bind_some hF
 refine au ?_
 refine fE (fun f' cs'=>∃(c11:Bool)(g:Fr),c11=o2/\f'=aM g [(1,(pz k1)),(14,(.bool c11))]/\aL cs' [bi k1 123 (zg [(zi aa.Rel),ay.v]),ah ay aa.Terms]) ?_ ?_
 · replace hF:=gK
   refine aW ?_
   refine bnd hF fun r4 hx5 hF=>aX (jl hx5) (fun _=>?_)
   refine aW ?_
   rcases bL (!r4)with bI|bI
   · rw[bI]
     try rw[bI]at hF; dsimp only[aO,aN]at hF
     exact bO hF
   rw[bI]
   try rw[bI]at hF; dsimp only[aO,aN]at hF
   refine bf ?_
   refine bnd hF fun r8 bP hF=>aX (jl bP) (fun _=>?_)
   exact bO hF
 rintro _ _ ⟨c11,g54,rfl,rfl,hE⟩
 replace hF:=hO3
 try dsimp only at hF
 refine bD hE ?_
 refine Ci hF (fun Zu hF=>?_) (fun Zu hF=>?_)
 · exact ze hF
 refine aV ?_
 refine bn (bF (m:=aa.Terms.length) (fun m13 f' cs'=>∃(g:Fr)(k15:Nat)(zy:List Int),m13=zy.length/\f'=aM g [(1,(pz k1)),(3,(zi (k15:Int)))]/\List.drop k15 aa.Terms=zy/\aL cs' [bi k1 123 (zg [(zi aa.Rel),ay.v]),ah ay aa.Terms]/\Bj aa fuel zy k15=some R) ⟨_,0,_,rfl,aA,rfl,az,hF⟩ ?_)
 rintro m13 _ _ ⟨g14,k15,zy,rfl,rfl,UK,hE,hF⟩
 refine Kb hE aa.Terms (fun az5=>?_)
 rcases zy with _|⟨Dk,zy⟩
 · have avl:=dn UK
   rw[Bj]at hF
   refine di ?_
   refine bR ?_
   refine aU ?_
   refine dE [0,1,5,6,2,3,4,7,8,9,10] [0,1,3,7,15,0,32,103,255,511,1023] [2,7] mixed (by decide+kernel) ?_
   refine o9 ?_
   refine bnd hF fun mR hx25 hF=>dR (Bn hx25) (fun _=>?_)
   refine bnd hF fun x27 hx28 hF=>?_
   obtain⟨avm,avn⟩:=gQ hx28
   refine dX rfl .no (fun ha=>gU (s:=[114]) (t:=mR) (u:=x27) (EN ha (.sv _) rfl) (EN ha (.tmp rfl rfl) rfl) hx28) ?_
   refine bnd hF fun x31 hx32 hF=>?_
   obtain⟨aCE,aCF⟩:=gQ hx32
   refine dX rfl .no (fun ha=>gU (s:=x27) (t:=[40]) (u:=x31) (EN ha (.tmp rfl rfl) rfl) (EN ha (.sv _) rfl) hx32) ?_
   refine bnd hF fun xX uk hF=>dR (abw uk) (fun _=>?_)
   refine bnd hF fun x38 hx39 hF=>?_
   obtain⟨aCG,aCH⟩:=gQ hx39
   refine dX rfl .no (fun ha=>gU (s:=x31) (t:=xX) (u:=x38) (EN ha (.tmp rfl rfl) rfl) (EN ha (.tmp rfl rfl) rfl) hx39) ?_
   refine bnd hF fun GJ oD hF=>?_
   obtain⟨avo,avp⟩:=gQ oD
   refine dX rfl .no (fun ha=>gU (s:=x38) (t:=[41]) (u:=GJ) (EN ha (.tmp rfl rfl) rfl) (EN ha (.sv _) rfl) oD) ?_
   refine bS ?_
   exact ze hF
 obtain⟨avl,lT,UO⟩:=bN UK
 rw[Bj]at hF
 refine di ?_
 refine bQ ?_
 refine aZ ?_
 refine Ai lT (fun Vv j47=>?_)
 refine Al bY ?_
 refine bnd hF fun gM iO hF=>aX (abS iO) (fun _=>?_)
 refine aW ?_
 refine Ci hF (fun PL hF=>?_) (fun PL hF=>?_)
 · exact ze hF
 refine aZ ?_
 rw[wk k15]
 exact⟨_,bG _,_,k15+1,zy,rfl,aA,UO,az,hF⟩
def wL(fuel:Nat):List Atom->Nat->(List UInt8)->Option ((List UInt8))
 |[],iB,c31=>some c31
 |lJ::jX,iB,c31=>(((Io fuel lJ).bind fun wG=>
     if (wG==[])then (
       some (.inl []))
     else (
       if (decide ((0:Int)<(iB:Int)))then (
         (fG c31 [32,97,110,100,32]).bind fun rR=>
         (fG rR wG).bind fun x56=>
         some (.inr x56))
       else (
         (fG c31 wG).bind fun Kh=>
         some (.inr Kh)))):Option (Sum ((List UInt8)) ((List UInt8)))).bind fun wH=>
   match wH with
   | .inl r=>some r
   | .inr QP=>wL fuel jX (iB+1) QP
def Bg(ai:Query)(fuel:Nat)(r9:(List UInt8))(ig:(List Int)):List Int->Nat->Option ((List UInt8))
 |[],k18=>(fG r9 [32,105,102,32]).bind fun x27=>
   wL fuel ai.Atoms 0 x27
 |x20::zz,k18=>(xc ig x20).bind fun Ki=>
   if (!Ki)then (
     some [])
   else (
     Bg ai fuel r9 ig zz (k18+1))
def wM(fuel:Nat):List Atom->Nat->(List UInt8)->Option ((List UInt8))
 |[],uE,xY=>some xY
 |x101::yU,uE,xY=>(((Io fuel x101).bind fun Gc=>
     if (Gc==[])then (
       some (.inl []))
     else (
       if (decide ((0:Int)<(uE:Int)))then (
         (fG xY [32,97,110,100,32]).bind fun UQ=>
         (fG UQ Gc).bind fun Zv=>
         some (.inr Zv))
       else (
         (fG xY Gc).bind fun Zw=>
         some (.inr Zw)))):Option (Sum ((List UInt8)) ((List UInt8)))).bind fun Zx=>
   match Zx with
   | .inl r=>some r
   | .inr c130=>wM fuel yU (uE+1) c130
def DV(ai:Query)(fuel:Nat)(GK:(List Int)):List Int->Nat->Option ((List UInt8))
 |[],AL=>(fG [121,101,115] [32,105,102,32]).bind fun x91=>
   wM fuel ai.Atoms 0 x91
 |x84::zA,AL=>(xc GK x84).bind fun aga=>
   if (!aga)then (
     some [])
   else (
     DV ai fuel GK zA (AL+1))
def K9(fuel:Nat)(ai:Query):Option ((List UInt8)):=
 ((iG (ai.Atoms.length:Int) 1 4).bind fun r4=>
   bif (!r4)then (some true)
   else (some (decide ((3:Int)<(ai.Head.length:Int))))).bind fun o2=>
 match o2 with
 |c8=>if c8 then (
     some [])
   else (
     if (decide ((0:Int)<(ai.Head.length:Int)))then (
       (I5 fuel ai.Head).bind fun r9=>
       (BU ai).bind fun ig=>
       Bg ai fuel r9 ig ai.Head 0)
     else (
       (BU ai).bind fun GK=>
       DV ai fuel GK ai.Head 0))
theorem ah8{fuel:Nat}{ai:Query}{ae ay:Sv}{R:(List UInt8)}(hF:K9 fuel ai=some R):
   Fw.Spec Tryz.prog 125 [(zg [ae.v,ay.v])] [ah ae ai.Head,bH ay ai.Atoms] (fun _:Unit=>(sv R)) (fun _=>[]):=by
 refine Se 68 Tryz.func125 [.tmp 2] ?_
 intro H0 F0
 unfold K9 at hF
 refine au ?_
 refine bB (fun k1=>?_)
 refine bq ?_
 obtain⟨o2,gK,hO3⟩:=bind_some hF
 refine au ?_
 refine fE (fun f' cs'=>∃(c8:Bool)(g:Fr),c8=o2/\f'=aM g [(1,(pz k1)),(18,(.bool c8))]/\aL cs' [bi k1 39 (zg [ae.v,ay.v]),ah ae ai.Head,bH ay ai.Atoms]) ?_ ?_
 · replace hF:=gK
   refine bq ?_
   refine bnd hF fun r4 hx5 hF=>aX (jl hx5) (fun _=>?_)
   refine aW ?_
   rcases bL (!r4)with bI|bI
   · rw[bI]
     try rw[bI]at hF; dsimp only[aO,aN]at hF
     exact bO hF
   rw[bI]
   try rw[bI]at hF; dsimp only[aO,aN]at hF
   exact bO hF
 rintro _ _ ⟨c8,aCI,rfl,rfl,hE⟩
 replace hF:=hO3
 try dsimp only at hF
 refine bD hE ?_
 refine Ci hF (fun asc hF=>?_) (fun asc hF=>?_)
 · exact ze hF
 refine oC ?_
 refine Ci hF (fun ase hF=>?_) (fun ase hF=>?_)
 · refine bq ?_
   refine bnd hF fun r9 eX hF=>aX (abw eX) (fun _=>?_)
   refine aU ?_
   refine bnd hF fun ig jr hF=>eZ (R7 jr) (fun Dq=>?_)
   refine aZ ?_
   refine bn (bF (m:=ai.Head.length) (fun m16 f' cs'=>∃(g:Fr)(k18:Nat)(zz:List Int),m16=zz.length/\f'=aM g [(1,(pz k1)),(3,(sv r9)),(4,Dq.1.v),(5,(zi (k18:Int)))]/\List.drop k18 ai.Head=zz/\aL cs' [bi k1 39 (zg [ae.v,ay.v]),ah ae ai.Head,bH ay ai.Atoms,bC Dq.2 Dq.1 ig]/\Bg ai fuel r9 ig zz k18=some R) ⟨_,0,_,rfl,aA,rfl,az,hF⟩ ?_)
   rintro m16 _ _ ⟨g17,k18,zz,rfl,rfl,UO,hE,hF⟩
   refine Kb hE ai.Head (fun az6=>?_)
   rcases zz with _|⟨x20,zz⟩
   · have avq:=dn UO
     rw[Bg]at hF
     refine di ?_
     refine bR ?_
     refine aZ ?_
     refine bnd hF fun x27 hx28 hF=>?_
     obtain⟨avm,avn⟩:=gQ hx28
     refine aI (gU (s:=r9) (t:=[32,105,102,32]) (u:=x27) (.tmp rfl rfl) (.sv _) hx28) ?_
     refine aZ ?_
     refine bn (bF (m:=ai.Atoms.length) (fun Dr f' cs'=>∃(g:Fr)(iB:Nat)(jX:List Atom)(c31:List UInt8),Dr=jX.length/\f'=aM g [(1,(pz k1)),(3,(sv c31)),(6,(zi (iB:Int)))]/\List.drop iB ai.Atoms=jX/\aL cs' [bi k1 39 (zg [ae.v,ay.v]),ah ae ai.Head,bH ay ai.Atoms]/\wL fuel jX iB c31=some R) ⟨_,0,_,_,rfl,aA,rfl,az,hF⟩ ?_)
     rintro Dr _ _ ⟨g34,iB,jX,c31,rfl,rfl,hd38,hE,hF⟩
     refine Kb hE ai.Atoms (fun aeX=>?_)
     rcases jX with _|⟨lJ,jX⟩
     · have PM:=dn hd38
       rw[wL]at hF
       refine di ?_
       refine bR ?_
       exact ze hF
     obtain⟨PM,sG,vF⟩:=bN hd38
     rw[wL]at hF
     refine di ?_
     refine bQ ?_
     refine au ?_
     obtain⟨wH,Oh,JY⟩:=bind_some hF
     refine gX (fun f' cs'=>∃(QP:List UInt8)(g:Fr),wH= .inr QP/\f'=aM g [(1,(pz k1)),(3,(sv QP)),(6,(zi (iB:Int)))]/\aL cs' [bi k1 39 (zg [ae.v,ay.v]),ah ae ai.Head,bH ay ai.Atoms]) ?_ ?_
     · replace hF:=Oh
       refine bn (fe (aI (kK (off:=1) NI.h (.tmp rfl rfl)) ?_))
       refine aW ?_
       refine Ai sG (fun Vv j47=>?_)
       refine iM (oV lJ) pO (fun p48=>?_)
       refine bnd hF fun wG JM hF=>aX (aaQ JM) (fun _=>?_)
       refine aV ?_
       refine aI (Fs (s:=wG) (t:=[]) (.tmp rfl rfl) (.sv _)) ?_
       refine au ?_
       refine Ci hF (fun avr hF=>?_) (fun avr hF=>?_)
       · refine aU ?_
         cases hF
         replace hF:=JY
         try dsimp only at hF
         exact ze hF
       refine aZ ?_
       refine Ci hF (fun avs hF=>?_) (fun avs hF=>?_)
       · refine aW ?_
         refine bnd hF fun rR vG hF=>?_
         obtain⟨avt,avu⟩:=gQ vG
         refine aI (gU (s:=c31) (t:=[32,97,110,100,32]) (u:=rR) (.tmp rfl rfl) (.sv _) vG) ?_
         refine aV ?_
         refine bnd hF fun x56 iI hF=>?_
         obtain⟨aCJ,aCK⟩:=gQ iI
         refine aI (gU (s:=rR) (t:=wG) (u:=x56) (.tmp rfl rfl) (.tmp rfl rfl) iI) ?_
         exact bO hF
       refine aU ?_
       refine bnd hF fun Kh Gd hF=>?_
       obtain⟨aCL,aCM⟩:=gQ Gd
       refine aI (gU (s:=c31) (t:=wG) (u:=Kh) (.tmp rfl rfl) (.tmp rfl rfl) Gd) ?_
       exact bO hF
     rintro _ _ ⟨QP,g68,rfl,rfl,hE⟩
     replace hF:=JY
     try dsimp only at hF
     refine bD hE ?_
     refine aV ?_
     rw[wk iB]
     exact⟨_,bG _,_,iB+1,jX,_,rfl,aA,vF,az,hF⟩
   obtain⟨avq,mK,hd24⟩:=bN UO
   rw[Bg]at hF
   refine di ?_
   refine bQ ?_
   refine bf ?_
   refine Ai mK (fun k69 j70=>?_)
   refine Al bY ?_
   refine bnd hF fun Ki O3 hF=>dZ (.cons .q4 .nil) (lF bU (fun _=>.nil) (dB OD.h bZ (IQ O3))) (fun _=>?_)
   refine aW ?_
   refine Ci hF (fun avv hF=>?_) (fun avv hF=>?_)
   · exact ze hF
   refine aZ ?_
   rw[wk k18]
   exact⟨_,bG _,_,k18+1,zz,rfl,aA,hd24,az,hF⟩
 refine bq ?_
 refine bnd hF fun GK Zj hF=>eZ (R7 Zj) (fun QF=>?_)
 refine aZ ?_
 refine bn (bF (m:=ai.Head.length) (fun m80 f' cs'=>∃(g:Fr)(AL:Nat)(zA:List Int),m80=zA.length/\f'=aM g [(1,(pz k1)),(3,(sv [121,101,115])),(4,QF.1.v),(5,(zi (AL:Int)))]/\List.drop AL ai.Head=zA/\aL cs' [bi k1 39 (zg [ae.v,ay.v]),ah ae ai.Head,bH ay ai.Atoms,bC QF.2 QF.1 GK]/\DV ai fuel GK zA AL=some R) ⟨_,0,_,rfl,aA,rfl,az,hF⟩ ?_)
 rintro m80 _ _ ⟨g81,AL,zA,rfl,rfl,agb,hE,hF⟩
 refine Kb hE ai.Head (fun az7=>?_)
 rcases zA with _|⟨x84,zA⟩
 · have avw:=dn agb
   rw[DV]at hF
   refine di ?_
   refine bR ?_
   refine aZ ?_
   refine bnd hF fun x91 agc hF=>?_
   obtain⟨aCN,aCO⟩:=gQ agc
   refine aI (gU (s:=[121,101,115]) (t:=[32,105,102,32]) (u:=x91) (.tmp rfl rfl) (.sv _) agc) ?_
   refine aZ ?_
   refine bn (bF (m:=ai.Atoms.length) (fun m97 f' cs'=>∃(g:Fr)(uE:Nat)(yU:List Atom)(xY:List UInt8),m97=yU.length/\f'=aM g [(1,(pz k1)),(3,(sv xY)),(6,(zi (uE:Int)))]/\List.drop uE ai.Atoms=yU/\aL cs' [bi k1 39 (zg [ae.v,ay.v]),ah ae ai.Head,bH ay ai.Atoms]/\wM fuel yU uE xY=some R) ⟨_,0,_,_,rfl,aA,rfl,az,hF⟩ ?_)
   rintro m97 _ _ ⟨g98,uE,yU,xY,rfl,rfl,hd102,hE,hF⟩
   refine Kb hE ai.Atoms (fun axV=>?_)
   rcases yU with _|⟨x101,yU⟩
   · have asf:=dn hd102
     rw[wM]at hF
     refine di ?_
     refine bR ?_
     exact ze hF
   obtain⟨asf,hx104,asg⟩:=bN hd102
   rw[wM]at hF
   refine di ?_
   refine bQ ?_
   refine au ?_
   obtain⟨Zx,ao0,aeY⟩:=bind_some hF
   refine gX (fun f' cs'=>∃(c130:List UInt8)(g:Fr),Zx= .inr c130/\f'=aM g [(1,(pz k1)),(3,(sv c130)),(6,(zi (uE:Int)))]/\aL cs' [bi k1 39 (zg [ae.v,ay.v]),ah ae ai.Head,bH ay ai.Atoms]) ?_ ?_
   · replace hF:=ao0
     refine bn (fe (aI (kK (off:=1) NI.h (.tmp rfl rfl)) ?_))
     refine aW ?_
     refine Ai hx104 (fun af1 af2=>?_)
     refine iM (oV x101) pO (fun aCP=>?_)
     refine bnd hF fun Gc hx114 hF=>aX (aaQ hx114) (fun _=>?_)
     refine aV ?_
     refine aI (Fs (s:=Gc) (t:=[]) (.tmp rfl rfl) (.sv _)) ?_
     refine au ?_
     refine Ci hF (fun ash hF=>?_) (fun ash hF=>?_)
     · refine aU ?_
       cases hF
       replace hF:=aeY
       try dsimp only at hF
       exact ze hF
     refine aZ ?_
     refine Ci hF (fun Yi hF=>?_) (fun Yi hF=>?_)
     · refine aW ?_
       refine bnd hF fun UQ aeZ hF=>?_
       obtain⟨az8,az9⟩:=gQ aeZ
       refine aI (gU (s:=xY) (t:=[32,97,110,100,32]) (u:=UQ) (.tmp rfl rfl) (.sv _) aeZ) ?_
       refine aV ?_
       refine bnd hF fun Zv T_ hF=>?_
       obtain⟨az_,az'⟩:=gQ T_
       refine aI (gU (s:=UQ) (t:=Gc) (u:=Zv) (.tmp rfl rfl) (.tmp rfl rfl) T_) ?_
       exact bO hF
     refine aU ?_
     refine bnd hF fun Zw ae0 hF=>?_
     obtain⟨aAa,aAb⟩:=gQ ae0
     refine aI (gU (s:=xY) (t:=Gc) (u:=Zw) (.tmp rfl rfl) (.tmp rfl rfl) ae0) ?_
     exact bO hF
   rintro _ _ ⟨c130,aCQ,rfl,rfl,hE⟩
   replace hF:=aeY
   try dsimp only at hF
   refine bD hE ?_
   refine aV ?_
   rw[wk uE]
   exact⟨_,bG _,_,uE+1,yU,_,rfl,aA,asg,az,hF⟩
 obtain⟨avw,avx,avy⟩:=bN agb
 rw[DV]at hF
 refine di ?_
 refine bQ ?_
 refine bf ?_
 refine Ai avx (fun aCR aCS=>?_)
 refine Al bY ?_
 refine bnd hF fun aga Ym hF=>dZ (.cons .q4 .nil) (lF bU (fun _=>.nil) (dB OD.h bZ (IQ Ym))) (fun _=>?_)
 refine aW ?_
 refine Ci hF (fun asi hF=>?_) (fun asi hF=>?_)
 · exact ze hF
 refine aZ ?_
 rw[wk AL]
 exact⟨_,bG _,_,AL+1,zA,rfl,aA,avy,az,hF⟩
def yf(fuel:Nat):List Step->Nat->(List UInt8)->Option ((List UInt8))
 |[],k5,c1=>some c1
 |x7::bz,k5,c1=>((((iG x7.Atom 0 3).bind fun il=>
       bif (!il)then (some true)
       else ((iG x7.Method 0 4).bind fun xV=>
         some (!xV))).bind fun o16=>
     match o16 with
     |l6=>if l6 then (
         some (.inl []))
       else (
         if (decide ((0:Int)<(k5:Int)))then (
           (fG c1 [32]).bind fun x30=>
           (rW fuel x7.Atom).bind fun sS=>
           (fG x30 sS).bind fun x41=>
           (fG x41 [47,109]).bind fun VC=>
           (rW fuel x7.Method).bind fun wG=>
           (fG VC wG).bind fun rR=>
           some (.inr rR))
         else (
           (rW fuel x7.Atom).bind fun r60=>
           (fG c1 r60).bind fun VD=>
           (fG VD [47,109]).bind fun VE=>
           (rW fuel x7.Method).bind fun Ki=>
           (fG VE Ki).bind fun x74=>
           some (.inr x74)))):Option (Sum ((List UInt8)) ((List UInt8)))).bind fun qW=>
   match qW with
   | .inl r=>some r
   | .inr QQ=>yf fuel bz (k5+1) QQ
def K_(fuel:Nat)(dN:List Step):Option ((List UInt8)):=
 yf fuel dN 0 []
theorem ah9{fuel:Nat}{dN:List Step}{ae:Sv}{R:(List UInt8)}(hF:K_ fuel dN=some R):
   Fw.Spec Tryz.prog 126 [ae.v] [g_ ae dN] (fun _:Unit=>(sv R)) (fun _=>[]):=by
 refine Se 48 Tryz.func126 [.tmp 2] ?_
 intro H0 F0
 unfold K_ at hF
 refine iU ?_
 refine bn (bF (m:=dN.length) (fun m3 f' cs'=>∃(g:Fr)(k5:Nat)(bz:List Step)(c1:List UInt8),m3=bz.length/\f'=aM g [(0,ae.v),(3,(sv c1)),(4,(zi (k5:Int)))]/\List.drop k5 dN=bz/\aL cs' [g_ ae dN]/\yf fuel bz k5 c1=some R) ⟨_,0,_,_,rfl,aA,rfl,az,hF⟩ ?_)
 rintro m3 _ _ ⟨g4,k5,bz,c1,rfl,rfl,gL,hE,hF⟩
 refine Kb hE dN (fun qz=>?_)
 rcases bz with _|⟨x7,bz⟩
 · have jP:=dn gL
   rw[yf]at hF
   refine bf ?_
   refine bR ?_
   exact ze hF
 obtain⟨jP,eX,gD⟩:=bN gL
 rw[yf]at hF
 refine bf ?_
 refine bQ ?_
 refine au ?_
 obtain⟨qW,FJ,CL⟩:=bind_some hF
 refine gX (fun f' cs'=>∃(QQ:List UInt8)(g:Fr),qW= .inr QQ/\f'=aM g [(0,ae.v),(3,(sv QQ)),(4,(zi (k5:Int)))]/\aL cs' [g_ ae dN]) ?_ ?_
 · replace hF:=FJ
   refine bn (qC ?_)
   obtain⟨o16,Yl,Zi⟩:=bind_some hF
   refine au ?_
   refine fE (fun f' cs'=>∃(l6:Bool)(g:Fr),l6=o16/\f'=aM g [(0,ae.v),(3,(sv c1)),(4,(zi (k5:Int))),(26,(.bool l6))]/\aL cs' [g_ ae dN]) ?_ ?_
   · replace hF:=Yl
     refine aW ?_
     refine Ai eX (fun k18 j19=>?_)
     refine au ?_
     refine Al Tk ?_
     refine bnd hF fun il kG hF=>aX (jl kG) (fun _=>?_)
     refine aW ?_
     rcases bL (!il)with j4|j4
     · rw[j4]
       try rw[j4]at hF; dsimp only[aO,aN]at hF
       exact bO hF
     rw[j4]
     try rw[j4]at hF; dsimp only[aO,aN]at hF
     refine aV ?_
     refine Ai eX (fun k24 j25=>?_)
     refine bq ?_
     refine Al Jo ?_
     refine au ?_
     refine bnd hF fun xV hx27 hF=>aX (jl hx27) (fun _=>?_)
     exact bO hF
   rintro _ _ ⟨l6,g80,rfl,rfl,hE⟩
   replace hF:=Zi
   try dsimp only at hF
   refine bD hE ?_
   refine Ci hF (fun avz hF=>?_) (fun avz hF=>?_)
   · refine aU ?_
     cases hF
     replace hF:=CL
     try dsimp only at hF
     exact ze hF
   refine aZ ?_
   refine Ci hF (fun avA hF=>?_) (fun avA hF=>?_)
   · refine aW ?_
     refine bnd hF fun x30 hx31 hF=>?_
     obtain⟨avB,hz32⟩:=gQ hx31
     refine aI (gU (s:=c1) (t:=[32]) (u:=x30) (.tmp rfl rfl) (.sv _) hx31) ?_
     refine aW ?_
     refine oW [0,1,2,3,4,5,9,10,11,12,13,6,7,8,14,15,16] [0,0,0,6,14,30,62,127,255,0,0,1536,3584,7680,15998,32767,65535] [6,14] mixed (by decide+kernel) ?_
     refine dI ?_
     refine Di eX (fun k34 j35=>?_)
     refine du ?_
     refine Dl Tk ?_
     refine bS ?_
     refine Di eX (fun bV j37=>?_)
     refine du ?_
     refine Dl Jo ?_
     refine bnd hF fun sS hx39 hF=>dR (Bn hx39) (fun _=>?_)
     refine bnd hF fun x41 JL hF=>?_
     obtain⟨aCT,aCU⟩:=gQ JL
     refine dX rfl .no (fun ha=>gU (s:=x30) (t:=sS) (u:=x41) (EN ha (.tmp rfl rfl) rfl) (EN ha (.tmp rfl rfl) rfl) JL) ?_
     refine bnd hF fun VC Ac hF=>?_
     obtain⟨aCV,aCW⟩:=gQ Ac
     refine dX rfl .no (fun ha=>gU (s:=x41) (t:=[47,109]) (u:=VC) (EN ha (.tmp rfl rfl) rfl) (EN ha (.sv _) rfl) Ac) ?_
     refine bnd hF fun wG JM hF=>dR (Bn JM) (fun _=>?_)
     refine bnd hF fun rR vG hF=>?_
     obtain⟨avt,avu⟩:=gQ vG
     refine dX rfl .no (fun ha=>gU (s:=VC) (t:=wG) (u:=rR) (EN ha (.tmp rfl rfl) rfl) (EN ha (.tmp rfl rfl) rfl) vG) ?_
     exact eO hF
   refine au ?_
   refine oW [0,1,2,3,4,5,9,10,11,12,13,6,7,8,14,15,16] [0,0,0,6,14,30,62,127,255,0,0,1536,3584,7680,15998,32767,65535] [6,14] mixed (by decide+kernel) ?_
   refine dI ?_
   refine Di eX (fun k56 j57=>?_)
   refine du ?_
   refine Dl Tk ?_
   refine bS ?_
   refine Di eX (fun k58 j59=>?_)
   refine du ?_
   refine Dl Jo ?_
   refine bnd hF fun r60 Gd hF=>dR (Bn Gd) (fun _=>?_)
   refine bnd hF fun VD agd hF=>?_
   obtain⟨aCX,aCY⟩:=gQ agd
   refine dX rfl .no (fun ha=>gU (s:=c1) (t:=r60) (u:=VD) (EN ha (.tmp rfl rfl) rfl) (EN ha (.tmp rfl rfl) rfl) agd) ?_
   refine bnd hF fun VE age hF=>?_
   obtain⟨aCZ,aC0⟩:=gQ age
   refine dX rfl .no (fun ha=>gU (s:=VD) (t:=[47,109]) (u:=VE) (EN ha (.tmp rfl rfl) rfl) (EN ha (.sv _) rfl) age) ?_
   refine bnd hF fun Ki O3 hF=>dR (Bn O3) (fun _=>?_)
   refine bnd hF fun x74 agf hF=>?_
   obtain⟨aC1,aC2⟩:=gQ agf
   refine dX rfl .no (fun ha=>gU (s:=VE) (t:=Ki) (u:=x74) (EN ha (.tmp rfl rfl) rfl) (EN ha (.tmp rfl rfl) rfl) agf) ?_
   exact eO hF
 rintro _ _ ⟨QQ,g83,rfl,rfl,hE⟩
 replace hF:=CL
 try dsimp only at hF
 refine bD hE ?_
 refine aV ?_
 rw[wk k5]
 exact⟨_,bG _,_,k5+1,bz,_,rfl,aA,gD,az,hF⟩
def Ls(fuel:Nat)(ed:lH):Option ((List UInt8)):=
 (K9 fuel ed.Query).bind fun r2=>
 (K_ fuel ed.Steps).bind fun r5=>
 if ((r2==[])||((r5==[])||(decide ((ed.Cost:Int)<0))))then (
   some [])
 else (
   (fG r2 [32,98,121,32]).bind fun eB=>
   (fG eB r5).bind fun j5=>
   (fG j5 [32,99,111,115,116,32]).bind fun mU=>
   (rW fuel ed.Cost).bind fun iJ=>
   (fG mU iJ).bind fun oO=>
   some oO)
theorem air{fuel:Nat}{ed:lH}{ae ay dm:Sv}{R:(List UInt8)}(hF:Ls fuel ed=some R):
   Fw.Spec Tryz.prog 53 [(zg [ae.v,ay.v,dm.v,(zi ed.Cost)])] [ah ae ed.Query.Head,bH ay ed.Query.Atoms,g_ dm ed.Steps] (fun _:Unit=>(sv R)) (fun _=>[]):=by
 refine Se 31 Tryz.func53 [.tmp 2] ?_
 intro H0 F0
 unfold Ls at hF
 refine au ?_
 refine bB (fun k1=>?_)
 refine aU ?_
 refine fq .h (fun hp=>ko (s:=2) (l:=[ae.v,ay.v]) Ul.h rJ.h.sz (.tmp rfl rfl) hp.2 rfl (by decide) (Nat.le_of_ble_eq_true rfl) rfl) ?_
 refine bnd hF fun r2 hx3 hF=>aX (ah8 hx3) (fun _=>?_)
 refine aV ?_
 refine bnd hF fun r5 hx6 hF=>aX (ah9 hx6) (fun _=>?_)
 refine aU ?_
 refine fE (fun f' cs'=>∃(g:Fr),f'=aM g [(1,(pz k1)),(3,(sv r2)),(4,(sv r5)),(21,(.bool ((r2==[])||((r5==[])||(decide ((ed.Cost:Int)<0))))))]/\aL cs' [bi k1 105 (zg [ae.v,ay.v,dm.v,(zi ed.Cost)]),ah ae ed.Query.Head,bH ay ed.Query.Atoms,g_ dm ed.Steps]) ?_ ?_
 · refine au ?_
   refine aI (Fs (s:=r2) (t:=[]) (.tmp rfl rfl) (.sv _)) ?_
   refine au ?_
   rcases bL (r2==[])with fD|fD
   · rw[fD]
     try rw[fD]at hF; dsimp only[aO,aN]at hF
     refine dK ?_
     exact⟨_,aA,az⟩
   rw[fD]
   try rw[fD]at hF; dsimp only[aO,aN]at hF
   refine bq ?_
   refine aI (Fs (s:=r5) (t:=[]) (.tmp rfl rfl) (.sv _)) ?_
   refine aW ?_
   rcases bL (r5==[])with pK|pK
   · rw[pK]
     try rw[pK]at hF; dsimp only[aO,aN]at hF
     refine aV ?_
     exact⟨_,aA,az⟩
   rw[pK]
   try rw[pK]at hF; dsimp only[aO,aN]at hF
   refine di ?_
   exact⟨_,aA,az⟩
 rintro _ _ ⟨g10,rfl,hE⟩
 refine bD hE ?_
 refine Ci hF (fun o_ hF=>?_) (fun o_ hF=>?_)
 · exact ze hF
 refine bq ?_
 refine bnd hF fun eB qD hF=>?_
 obtain⟨avC,avD⟩:=gQ qD
 refine aI (gU (s:=r2) (t:=[32,98,121,32]) (u:=eB) (.tmp rfl rfl) (.sv _) qD) ?_
 refine au ?_
 refine bnd hF fun j5 hx16 hF=>?_
 obtain⟨avE,avF⟩:=gQ hx16
 refine aI (gU (s:=eB) (t:=r5) (u:=j5) (.tmp rfl rfl) (.tmp rfl rfl) hx16) ?_
 refine bnd hF fun mU lT hF=>?_
 obtain⟨Zr,Zt⟩:=gQ lT
 refine aI (gU (s:=j5) (t:=[32,99,111,115,116,32]) (u:=mU) (.tmp rfl rfl) (.sv _) lT) ?_
 refine aW ?_
 refine bnd hF fun iJ hx24 hF=>aX (Bn hx24) (fun _=>?_)
 refine bnd hF fun oO hx27 hF=>?_
 obtain⟨af_,af'⟩:=gQ hx27
 refine aI (gU (s:=mU) (t:=iJ) (u:=oO) (.tmp rfl rfl) (.tmp rfl rfl) hx27) ?_
 exact ze hF
def Ml(fuel:Nat)(aF:gV)(ai:Query):Option ((List UInt8)):=
 ((Lp aF).bind fun r5=>
   bif (!r5)then (some true)
   else ((wR aF.Schema ai).bind fun r9=>
     some (!r9))).bind fun o3=>
 match o3 with
 |c12=>if c12 then (
     some [])
   else (
     (KV fuel aF.Schema aF.Methods ai).bind fun ik=>
     if (!ik.2)then (
       some [110,111,32,112,108,97,110])
     else (
       (Ls fuel ik.1).bind fun dS=>
       some dS))
theorem ajx{fuel:Nat}{aF:gV}{ae ay dm gy iw iN iV jf:Sv}{ai:Query}{aC aR:Sv}{R:(List UInt8)}(hF:Ml fuel aF ai=some R):
   Fw.Spec Tryz.prog 19 [(zg [ae.v,ay.v,dm.v,gy.v,(zi aF.Source.Version),iw.v,(zi aF.Cache.Age),(zi aF.Now),iN.v,iV.v,(zi aF.Spent),jf.v]),(zg [aC.v,aR.v])] [ah ae aF.Schema,dD ay aF.Methods,lN dm aF.Rules,dY gy aF.Source.Facts,kv iw aF.Cache.Entries,ng iN aF.Log,ah iV aF.Times,bK (aJ 171 (aJ 22 (aJ 3 aK))) jf.v aF.Results,ah aC ai.Head,bH aR ai.Atoms] (fun _:Unit=>(sv R)) (fun _=>[]):=by
 refine Se 30 Tryz.func19 [.tmp 4] ?_
 intro H0 F0
 unfold Ml at hF
 refine au ?_
 refine bB (fun k1=>?_)
 refine bB (fun k2=>?_)
 refine bq ?_
 obtain⟨o3,vI,hO4⟩:=bind_some hF
 refine au ?_
 refine fE (fun f' cs'=>∃(c12:Bool)(g:Fr),c12=o3/\f'=aM g [(2,(pz k1)),(3,(pz k2)),(16,(.bool c12))]/\aL cs' [bi k1 66 (zg [ae.v,ay.v,dm.v,gy.v,(zi aF.Source.Version),iw.v,(zi aF.Cache.Age),(zi aF.Now),iN.v,iV.v,(zi aF.Spent),jf.v]),ah ae aF.Schema,dD ay aF.Methods,lN dm aF.Rules,dY gy aF.Source.Facts,kv iw aF.Cache.Entries,ng iN aF.Log,ah iV aF.Times,bK (aJ 171 (aJ 22 (aJ 3 aK))) jf.v aF.Results,bi k2 39 (zg [aC.v,aR.v]),ah aC ai.Head,bH aR ai.Atoms]) ?_ ?_
 · replace hF:=vI
   refine au ?_
   refine bnd hF fun r5 hx6 hF=>aX (aip hx6) (fun _=>?_)
   refine aW ?_
   rcases bL (!r5)with fD|fD
   · rw[fD]
     try rw[fD]at hF; dsimp only[aO,aN]at hF
     exact bO hF
   rw[fD]
   try rw[fD]at hF; dsimp only[aO,aN]at hF
   refine bf ?_
   refine bnd hF fun r9 eX hF=>aX (Il eX) (fun _=>?_)
   exact bO hF
 rintro _ _ ⟨c12,g22,rfl,rfl,hE⟩
 replace hF:=hO4
 try dsimp only at hF
 refine bD hE ?_
 refine Ci hF (fun mH hF=>?_) (fun mH hF=>?_)
 · exact ze hF
 refine bf ?_
 refine bnd hF fun ik iy hF=>Cx3 (ahU iy) (fun jd=>?_)
 refine au ?_
 refine zx ?_
 refine zx ?_
 refine dH (fun k16=>?_)
 refine As (zg [jd.1.v,jd.2.2.1.v,jd.2.2.2.2.v,(zi ik.1.Cost)]) ?_
 refine bf ?_
 refine Ci hF (fun nT hF=>?_) (fun nT hF=>?_)
 · exact ze hF
 refine bq ?_
 refine bnd hF fun dS fV hF=>su (.cons .q2 (.cons (.t .h) (.rd (.t .h) rfl .nil))) (mV (pre:=_) (.cons bU (.cons bU .nil)) (fun _=>.nil) (dB at5.h bZ (air fV))) (fun _=>?_)
 exact ze hF
def kL(fF:Int)(si:Int)(uU:Int):Option (Bool):=
 some ((decide ((si:Int)<=fF))&&(decide ((fF:Int)<=uU)))
theorem l8{fF si uU:Int}{R:Bool}(hF:kL fF si uU=some R):
   Fw.Spec Tryz.prog 91 [(zi fF),(zi si),(zi uU)] [] (fun _:Unit=>(.bool R)) (fun _=>[]):=by
 refine Se 15 Tryz.func91 [.tmp 6] ?_
 intro H0 F0
 unfold kL at hF
 refine aU ?_
 refine fE (fun f' cs'=>∃(g:Fr),f'=aM g [(6,(.bool ((decide ((si:Int)<=fF))&&(decide ((fF:Int)<=uU)))))]/\aL cs' []) ?_ ?_
 · refine aU ?_
   rcases bL (decide ((si:Int)<=fF))with hg1|hg1
   · rw[hg1]
     try rw[hg1]at hF; dsimp only[aO,aN]at hF
     refine dK ?_
     exact⟨_,aA,az⟩
   rw[hg1]
   try rw[hg1]at hF; dsimp only[aO,aN]at hF
   refine aZ ?_
   exact⟨_,aA,az⟩
 rintro _ _ ⟨g2,rfl,hE⟩
 refine bD hE ?_
 exact ze hF
def RN(fF:Int):Option (Bool):=
 (kL fF 1 3).bind fun r1=>
 some (!r1)
theorem ais{fF:Int}{R:Bool}(hF:RN fF=some R):
   Fw.Spec Tryz.prog 177 [(zi fF)] [] (fun _:Unit=>(.bool R)) (fun _=>[]):=by
 refine Se 6 Tryz.func177 [.tmp 2] ?_
 intro H0 F0
 unfold RN at hF
 refine aV ?_
 refine bnd hF fun r1 hx2 hF=>aX (l8 hx2) (fun _=>?_)
 exact ze hF
def Hf:List Int->Nat->Option (Int)
 |[],k4=>some (-1)
 |x6::ax,k4=>(RN x6).bind fun fI=>
   if fI then (
     some (k4:Int))
   else (
     Hf ax (k4+1))
def Re(ag:List Int):Option (Int):=
 Hf ag 0
theorem ahn{ag:List Int}{ae:Sv}{R:Int}(hF:Re ag=some R):
   Fw.Spec Tryz.prog 242 [ae.v,(.func (.func 177) [].toArray [].toArray)] [ah ae ag] (fun _:Unit=>(zi R)) (fun _=>[]):=by
 refine Se 19 Tryz.func242 [.tmp 4] ?_
 intro H0 F0
 unfold Re at hF
 refine dK ?_
 refine bn (bF (m:=ag.length) (fun m2 f' cs'=>∃(g:Fr)(k4:Nat)(ax:List Int),m2=ax.length/\f'=aM g [(0,ae.v),(1,(.func (.func 177) [].toArray [].toArray)),(7,(zi (ag.length:Int))),(8,(zi (k4:Int)))]/\List.drop k4 ag=ax/\aL cs' [ah ae ag]/\Hf ax k4=some R) ⟨_,0,_,rfl,aA,rfl,az,hF⟩ ?_)
 rintro m2 _ _ ⟨g3,k4,ax,rfl,rfl,hd7,hE,hF⟩
 refine Kb hE ag (fun iK=>?_)
 rcases ax with _|⟨x6,ax⟩
 · have dM:=dn hd7
   rw[Hf]at hF
   refine aU ?_
   refine bR ?_
   exact ze hF
 obtain⟨dM,bP,dL⟩:=bN hd7
 rw[Hf]at hF
 refine aU ?_
 refine bQ ?_
 refine iU ?_
 refine Ai bP (fun k13 j6=>?_)
 refine Al bY ?_
 refine bnd hF fun fI hx16 hF=>kE .nil (oo aqv.h (.tmp rfl rfl) bZ (ais hx16)) (fun _=>?_)
 refine au ?_
 refine Ci hF (fun pq hF=>?_) (fun pq hF=>?_)
 · exact ze hF
 refine aV ?_
 rw[wk k4]
 exact⟨_,bG _,_,k4+1,ax,rfl,aA,dL,az,hF⟩
def Kz(ag:List Int):Option (Bool):=
 (Re ag).bind fun r1=>
 some (decide ((0:Int)<=r1))
theorem ahd{ag:List Int}{ae:Sv}{R:Bool}(hF:Kz ag=some R):
   Fw.Spec Tryz.prog 176 [ae.v,(.func (.func 177) [].toArray [].toArray)] [ah ae ag] (fun _:Unit=>(.bool R)) (fun _=>[]):=by
 refine Se 9 Tryz.func176 [.tmp 4] ?_
 intro H0 F0
 unfold Kz at hF
 refine aZ ?_
 refine bnd hF fun r1 hx2 hF=>aX (ahn hx2) (fun _=>?_)
 exact ze hF
def yC(ag:List Int):Option (Bool):=
 ((kL (ag.length:Int) 1 3).bind fun r3=>
   bif r3 then ((Kz ag).bind fun r7=>
     some (!r7))
   else (some false)).bind fun o1=>
 match o1 with
 |c10=>some c10
theorem Lc{ag:List Int}{ae:Sv}{R:Bool}(hF:yC ag=some R):
   Fw.Spec Tryz.prog 90 [ae.v] [ah ae ag] (fun _:Unit=>(.bool R)) (fun _=>[]):=by
 refine Se 11 Tryz.func90 [.tmp 2] ?_
 intro H0 F0
 unfold yC at hF
 refine bq ?_
 obtain⟨o1,qI,hO2⟩:=bind_some hF
 refine au ?_
 refine fE (fun f' cs'=>∃(c10:Bool)(g:Fr),c10=o1/\f'=aM g [(2,(.bool c10))]/\aL cs' []) ?_ ?_
 · replace hF:=qI
   refine aW ?_
   refine bnd hF fun r3 hx4 hF=>aX (l8 hx4) (fun _=>?_)
   refine au ?_
   rcases bL r3 with gm|gm
   · rw[gm]
     try rw[gm]at hF; dsimp only[aO,aN]at hF
     refine bq ?_
     refine bnd hF fun r7 jy hF=>aX (ahd jy) (fun _=>?_)
     exact bO hF
   rw[gm]
   try rw[gm]at hF; dsimp only[aO,aN]at hF
   exact bO hF
 rintro _ _ ⟨c10,g11,rfl,rfl,hE⟩
 replace hF:=hO2
 try dsimp only at hF
 refine bD hE ?_
 exact ze hF
def yL(ag:List Int)(kY:Int):Option (Bool):=
 ((yC ag).bind fun r3=>
   bif r3 then ((kL kY 0 (IntKind.i64.wrap ((ag.length:Int)-1))).bind fun r7=>
     some r7)
   else (some false)).bind fun o1=>
 match o1 with
 |c10=>some c10
theorem LM{ag:List Int}{ae:Sv}{kY:Int}{R:Bool}(hF:yL ag kY=some R):
   Fw.Spec Tryz.prog 179 [ae.v,(zi kY)] [ah ae ag] (fun _:Unit=>(.bool R)) (fun _=>[]):=by
 refine Se 14 Tryz.func179 [.tmp 4] ?_
 intro H0 F0
 unfold yL at hF
 refine bq ?_
 obtain⟨o1,qI,hO2⟩:=bind_some hF
 refine au ?_
 refine fE (fun f' cs'=>∃(c10:Bool)(g:Fr),c10=o1/\f'=aM g [(4,(.bool c10))]/\aL cs' []) ?_ ?_
 · replace hF:=qI
   refine au ?_
   refine bnd hF fun r3 hx4 hF=>aX (Lc hx4) (fun _=>?_)
   refine au ?_
   rcases bL r3 with gm|gm
   · rw[gm]
     try rw[gm]at hF; dsimp only[aO,aN]at hF
     refine dK ?_
     refine bnd hF fun r7 jy hF=>aX (l8 jy) (fun _=>?_)
     exact bO hF
   rw[gm]
   try rw[gm]at hF; dsimp only[aO,aN]at hF
   exact bO hF
 rintro _ _ ⟨c10,g11,rfl,rfl,hE⟩
 replace hF:=hO2
 try dsimp only at hF
 refine bD hE ?_
 exact ze hF
def D9(ak:List Int):List Int->Nat->Option (Bool)
 |[],k4=>some true
 |x6::ax,k4=>(bif (decide ((0:Int)<(k4:Int)))then ((ix ak (IntKind.i64.wrap ((k4:Int)-1))).bind fun iC=>
       some (decide ((x6:Int)<=iC)))
     else (some false)).bind fun lZ=>
   match lZ with
   |c24=>if c24 then (
       some false)
     else (
       D9 ak ax (k4+1))
def LP(ak:List Int):Option (Bool):=
 D9 ak ak 0
theorem aiW{ak:List Int}{ae:Sv}{R:Bool}(hF:LP ak=some R):
   Fw.Spec Tryz.prog 282 [ae.v] [ah ae ak] (fun _:Unit=>(.bool R)) (fun _=>[]):=by
 refine Se 24 Tryz.func282 [.tmp 2] ?_
 intro H0 F0
 unfold LP at hF
 refine dK ?_
 refine bn (bF (m:=ak.length) (fun m2 f' cs'=>∃(g:Fr)(k4:Nat)(ax:List Int),m2=ax.length/\f'=aM g [(0,ae.v),(5,(zi (ak.length:Int))),(6,(zi (k4:Int)))]/\List.drop k4 ak=ax/\aL cs' [ah ae ak]/\D9 ak ax k4=some R) ⟨_,0,_,rfl,aA,rfl,az,hF⟩ ?_)
 rintro m2 _ _ ⟨g3,k4,ax,rfl,rfl,hd7,hE,hF⟩
 refine Kb hE ak (fun iK=>?_)
 rcases ax with _|⟨x6,ax⟩
 · have dM:=dn hd7
   rw[D9]at hF
   refine aU ?_
   refine bR ?_
   exact ze hF
 obtain⟨dM,bP,dL⟩:=bN hd7
 rw[D9]at hF
 refine aU ?_
 refine bQ ?_
 refine aZ ?_
 obtain⟨lZ,uY,vo⟩:=bind_some hF
 refine dE [0,1,2,3,4,5,6,7,8,9,10,11,12,13] [0,1,3,7,7,31,63,7,7,263,903,1927,4095,8191] [] mixed (by decide+kernel) ?_
 refine mD (fun f' cs'=>∃(c24:Bool)(g:Fr),c24=lZ/\f'=aM g [(0,ae.v),(5,(zi (ak.length:Int))),(6,(zi (k4:Int))),(22,(.bool c24))]/\aL cs' [ah ae ak]) ?_ ?_
 · replace hF:=uY
   refine dI ?_
   rcases bL (decide ((0:Int)<(k4:Int)))with jb|jb
   · rw[jb]
     try rw[jb]at hF; dsimp only[aO,aN]at hF
     refine bS ?_
     refine Di bP (fun k16 Gr=>?_)
     refine Dl bY ?_
     refine dI ?_
     refine zI hF fun iC auu kG hF=>?_
     refine Di kG (fun k22 j23=>?_)
     refine Dl bY ?_
     exact eO hF
   rw[jb]
   try rw[jb]at hF; dsimp only[aO,aN]at hF
   exact eO hF
 rintro _ _ ⟨c24,g27,rfl,rfl,hE⟩
 replace hF:=vo
 try dsimp only at hF
 refine bD hE ?_
 refine Ci hF (fun zW hF=>?_) (fun zW hF=>?_)
 · exact ze hF
 refine aV ?_
 rw[wk k4]
 exact⟨_,bG _,_,k4+1,ax,rfl,aA,dL,az,hF⟩
def KQ(kT:Int)(aH:Int):Option (Bool):=
 (kL kT 0 (IntKind.i64.wrap (aH-1))).bind fun r1=>
 some (!r1)
theorem ahQ{kT:Int}{bM:Nat}{aH:Int}{R:Bool}(hF:KQ kT aH=some R):
   Fw.Spec Tryz.prog 283 [(zi kT),(pz bM)] [bi bM 3 (zi aH)] (fun _:Unit=>(.bool R)) (fun _=>[]):=by
 refine Se 9 Tryz.func283 [.tmp 3] ?_
 intro H0 F0
 unfold KQ at hF
 refine bf ?_
 refine bnd hF fun r1 hx2 hF=>aX (l8 hx2) (fun _=>?_)
 exact ze hF
def Hd(aH:Int):List Int->Nat->Option (Int)
 |[],k4=>some (-1)
 |x6::ax,k4=>(KQ x6 aH).bind fun fI=>
   if fI then (
     some (k4:Int))
   else (
     Hd aH ax (k4+1))
def Ra(ag:List Int)(aH:Int):Option (Int):=
 Hd aH ag 0
theorem ahi{ag:List Int}{ae:Sv}{bM:Nat}{aH R:Int}(hF:Ra ag aH=some R):
   Fw.Spec Tryz.prog 242 [ae.v,(.func (.func 283) [].toArray [(pz bM)].toArray)] [ah ae ag,bi bM 3 (zi aH)] (fun _:Unit=>(zi R)) (fun _=>[]):=by
 refine Se 19 Tryz.func242 [.tmp 4] ?_
 intro H0 F0
 unfold Ra at hF
 refine dK ?_
 refine bn (bF (m:=ag.length) (fun m2 f' cs'=>∃(g:Fr)(k4:Nat)(ax:List Int),m2=ax.length/\f'=aM g [(0,ae.v),(1,(.func (.func 283) [].toArray [(pz bM)].toArray)),(7,(zi (ag.length:Int))),(8,(zi (k4:Int)))]/\List.drop k4 ag=ax/\aL cs' [ah ae ag,bi bM 3 (zi aH)]/\Hd aH ax k4=some R) ⟨_,0,_,rfl,aA,rfl,az,hF⟩ ?_)
 rintro m2 _ _ ⟨g3,k4,ax,rfl,rfl,hd7,hE,hF⟩
 refine Kb hE ag (fun iK=>?_)
 rcases ax with _|⟨x6,ax⟩
 · have dM:=dn hd7
   rw[Hd]at hF
   refine aU ?_
   refine bR ?_
   exact ze hF
 obtain⟨dM,bP,dL⟩:=bN hd7
 rw[Hd]at hF
 refine aU ?_
 refine bQ ?_
 refine iU ?_
 refine Ai bP (fun k13 j6=>?_)
 refine Al bY ?_
 refine bnd hF fun fI hx16 hF=>kE (.rd .q2 rfl .nil) (oo aqx.h (.tmp rfl rfl) bZ (ahQ hx16)) (fun _=>?_)
 refine au ?_
 refine Ci hF (fun pq hF=>?_) (fun pq hF=>?_)
 · exact ze hF
 refine aV ?_
 rw[wk k4]
 exact⟨_,bG _,_,k4+1,ax,rfl,aA,dL,az,hF⟩
def Kw(ag:List Int)(aH:Int):Option (Bool):=
 (Ra ag aH).bind fun r1=>
 some (decide ((0:Int)<=r1))
theorem ag_{ag:List Int}{ae:Sv}{bM:Nat}{aH:Int}{R:Bool}(hF:Kw ag aH=some R):
   Fw.Spec Tryz.prog 176 [ae.v,(.func (.func 283) [].toArray [(pz bM)].toArray)] [ah ae ag,bi bM 3 (zi aH)] (fun _:Unit=>(.bool R)) (fun _=>[]):=by
 refine Se 9 Tryz.func176 [.tmp 4] ?_
 intro H0 F0
 unfold Kw at hF
 refine aZ ?_
 refine bnd hF fun r1 hx2 hF=>aX (ahi hx2) (fun _=>?_)
 exact ze hF
def S9(fF:Int):Option (Bool):=
 (kL fF 0 99).bind fun r1=>
 some r1
theorem ak3{fF:Int}{R:Bool}(hF:S9 fF=some R):
   Fw.Spec Tryz.prog 284 [(zi fF)] [] (fun _:Unit=>(.bool R)) (fun _=>[]):=by
 refine Se 5 Tryz.func284 [.tmp 2] ?_
 intro H0 F0
 unfold S9 at hF
 refine aV ?_
 refine bnd hF fun r1 hx2 hF=>aX (l8 hx2) (fun _=>?_)
 exact ze hF
def RD(aF:Method)(yV:Int):Option (Bool):=
 ((LP aF.Inputs).bind fun r5=>
   bif r5 then ((Kw aF.Inputs yV).bind fun r9=>
     bif (!r9)then ((kL aF.Limit 0 9).bind fun ik=>
       bif ik then ((S9 aF.Cost).bind fun dS=>
         bif dS then ((kL aF.Quota 1 99).bind fun l5=>
           some l5)
         else (some false))
       else (some false))
     else (some false))
   else (some false)).bind fun o3=>
 match o3 with
 |c24=>some c24
theorem ah_{aF:Method}{ay:Sv}{yV:Int}{R:Bool}(hF:RD aF yV=some R):
   Fw.Spec Tryz.prog 239 [(zg [(zi aF.Rel),ay.v,(zi aF.Limit),(zi aF.Cost),(zi aF.Quota)]),(zi yV)] [ah ay aF.Inputs] (fun _:Unit=>(.bool R)) (fun _=>[]):=by
 refine Se 30 Tryz.func239 [.tmp 4] ?_
 intro H0 F0
 unfold RD at hF
 refine au ?_
 refine bB (fun k1=>?_)
 refine bB (fun k2=>?_)
 refine aW ?_
 obtain⟨o3,vI,hO4⟩:=bind_some hF
 refine au ?_
 refine fE (fun f' cs'=>∃(c24:Bool)(g:Fr),c24=o3/\f'=aM g [(4,(.bool c24))]/\aL cs' []) ?_ ?_
 · replace hF:=vI
   refine aW ?_
   refine bnd hF fun r5 hx6 hF=>aX (aiW hx6) (fun _=>?_)
   refine au ?_
   rcases bL r5 with fD|fD
   · rw[fD]
     try rw[fD]at hF; dsimp only[aO,aN]at hF
     refine aV ?_
     refine aI (uK (fn:=.func 283) (vs:=[]) (us:=[(pz k2)]) .nil bZ) ?_
     refine au ?_
     refine bnd hF fun r9 eX hF=>aX (ag_ eX) (fun _=>?_)
     refine aU ?_
     rcases bL (!r9)with lV|lV
     · rw[lV]
       try rw[lV]at hF; dsimp only[aO,aN]at hF
       refine aV ?_
       refine bnd hF fun ik iy hF=>aX (l8 iy) (fun _=>?_)
       refine aW ?_
       rcases bL ik with pu|pu
       · rw[pu]
         try rw[pu]at hF; dsimp only[aO,aN]at hF
         refine aV ?_
         refine bnd hF fun dS fV hF=>aX (ak3 fV) (fun _=>?_)
         refine aW ?_
         rcases bL dS with vC|vC
         · rw[vC]
           try rw[vC]at hF; dsimp only[aO,aN]at hF
           refine aV ?_
           refine bnd hF fun l5 sJ hF=>aX (l8 sJ) (fun _=>?_)
           exact bO hF
         rw[vC]
         try rw[vC]at hF; dsimp only[aO,aN]at hF
         exact bO hF
       rw[pu]
       try rw[pu]at hF; dsimp only[aO,aN]at hF
       exact bO hF
     rw[lV]
     try rw[lV]at hF; dsimp only[aO,aN]at hF
     exact bO hF
   rw[fD]
   try rw[fD]at hF; dsimp only[aO,aN]at hF
   exact bO hF
 rintro _ _ ⟨c24,QB,rfl,rfl,hE⟩
 replace hF:=hO4
 try dsimp only at hF
 refine bD hE ?_
 exact ze hF
def Mm(ag:List Int)(aF:Method):Option (Bool):=
 ((yL ag aF.Rel).bind fun r4=>
   bif r4 then ((ix ag aF.Rel).bind fun x8=>
     (RD aF x8).bind fun jw=>
     some jw)
   else (some false)).bind fun o2=>
 match o2 with
 |c17=>some c17
theorem ajy{ag:List Int}{ae:Sv}{aF:Method}{aR:Sv}{R:Bool}(hF:Mm ag aF=some R):
   Fw.Spec Tryz.prog 172 [ae.v,(zg [(zi aF.Rel),aR.v,(zi aF.Limit),(zi aF.Cost),(zi aF.Quota)])] [ah ae ag,ah aR aF.Inputs] (fun _:Unit=>(.bool R)) (fun _=>[]):=by
 refine Se 18 Tryz.func172 [.tmp 4] ?_
 intro H0 F0
 unfold Mm at hF
 refine au ?_
 refine bB (fun k1=>?_)
 refine aW ?_
 obtain⟨o2,gK,hO3⟩:=bind_some hF
 refine dE [0,1,2,3,4,5,6,7,8,9,10,11,12,13] [0,0,2,7,15,31,31,31,159,479,991,2047,4095,8191] [3,11] mixed (by decide+kernel) ?_
 refine mD (fun f' cs'=>∃(c17:Bool)(g:Fr),c17=o2/\f'=aM g [(4,(.bool c17))]/\aL cs' []) ?_ ?_
 · replace hF:=gK
   refine dI ?_
   refine bnd hF fun r4 hx5 hF=>dR (LM hx5) (fun _=>?_)
   refine du ?_
   rcases bL r4 with bI|bI
   · rw[bI]
     try rw[bI]at hF; dsimp only[aO,aN]at hF
     refine o9 ?_
     refine zI hF fun x8 Zy mf hF=>?_
     refine Di mf (fun k12 j13=>?_)
     refine Dl bY ?_
     refine bnd hF fun jw jS hF=>dR (ah_ jS) (fun _=>?_)
     exact eO hF
   rw[bI]
   try rw[bI]at hF; dsimp only[aO,aN]at hF
   exact eO hF
 rintro _ _ ⟨c17,g18,rfl,rfl,hE⟩
 replace hF:=hO3
 try dsimp only at hF
 refine bD hE ?_
 exact ze hF
def KW(aF:Method)(aH:List Int):Option (Bool):=
 (Mm aH aF).bind fun r2=>
 some (!r2)
theorem ahV{aF:Method}{ay:Sv}{bM:Nat}{aH:List Int}{fP:Sv}{R:Bool}(hF:KW aF aH=some R):
   Fw.Spec Tryz.prog 171 [(zg [(zi aF.Rel),ay.v,(zi aF.Limit),(zi aF.Cost),(zi aF.Quota)]),(pz bM)] [ah ay aF.Inputs,bi bM 22 fP.v,ah fP aH] (fun _:Unit=>(.bool R)) (fun _=>[]):=by
 refine Se 8 Tryz.func171 [.tmp 3] ?_
 intro H0 F0
 unfold KW at hF
 refine au ?_
 refine bB (fun k1=>?_)
 refine aV ?_
 refine bnd hF fun r2 hx3 hF=>aX (ajy hx3) (fun _=>?_)
 exact ze hF
def GZ(aH:List Int):List Method->Nat->Option (Int)
 |[],k4=>some (-1)
 |x6::ax,k4=>(KW x6 aH).bind fun r16=>
   if r16 then (
     some (k4:Int))
   else (
     GZ aH ax (k4+1))
def Q0(ag:List Method)(aH:List Int):Option (Int):=
 GZ aH ag 0
theorem agR{ag:List Method}{ae:Sv}{bM:Nat}{aH:List Int}{fP:Sv}{R:Int}(hF:Q0 ag aH=some R):
   Fw.Spec Tryz.prog 238 [ae.v,(.func (.func 171) [].toArray [(pz bM)].toArray)] [dD ae ag,bi bM 22 fP.v,ah fP aH] (fun _:Unit=>(zi R)) (fun _=>[]):=by
 refine Se 19 Tryz.func238 [.tmp 4] ?_
 intro H0 F0
 unfold Q0 at hF
 refine dK ?_
 refine bn (bF (m:=ag.length) (fun m2 f' cs'=>∃(g:Fr)(k4:Nat)(ax:List Method),m2=ax.length/\f'=aM g [(0,ae.v),(1,(.func (.func 171) [].toArray [(pz bM)].toArray)),(7,(zi (ag.length:Int))),(8,(zi (k4:Int)))]/\List.drop k4 ag=ax/\aL cs' [dD ae ag,bi bM 22 fP.v,ah fP aH]/\GZ aH ax k4=some R) ⟨_,0,_,rfl,aA,rfl,az,hF⟩ ?_)
 rintro m2 _ _ ⟨g3,k4,ax,rfl,rfl,hd7,hE,hF⟩
 refine Kb hE ag (fun iK=>?_)
 rcases ax with _|⟨x6,ax⟩
 · have dM:=dn hd7
   rw[GZ]at hF
   refine aU ?_
   refine bR ?_
   exact ze hF
 obtain⟨dM,bP,dL⟩:=bN hd7
 rw[GZ]at hF
 refine aU ?_
 refine bQ ?_
 refine iU ?_
 refine Ai bP (fun k13 j6=>?_)
 refine iM (uL x6) wQ (fun jd=>?_)
 refine bnd hF fun r16 iP hF=>kE (.rd .h rfl (.rd .q3 rfl (.rd .q4 rfl .nil))) (oo aqw.h (.tmp rfl rfl) bZ (ahV iP)) (fun _=>?_)
 refine au ?_
 refine Ci hF (fun nT hF=>?_) (fun nT hF=>?_)
 · exact ze hF
 refine aV ?_
 rw[wk k4]
 exact⟨_,bG _,_,k4+1,ax,rfl,aA,dL,az,hF⟩
def Ko(ag:List Method)(aH:List Int):Option (Bool):=
 (Q0 ag aH).bind fun r1=>
 some (decide ((0:Int)<=r1))
theorem agN{ag:List Method}{ae:Sv}{bM:Nat}{aH:List Int}{fP:Sv}{R:Bool}(hF:Ko ag aH=some R):
   Fw.Spec Tryz.prog 170 [ae.v,(.func (.func 171) [].toArray [(pz bM)].toArray)] [dD ae ag,bi bM 22 fP.v,ah fP aH] (fun _:Unit=>(.bool R)) (fun _=>[]):=by
 refine Se 9 Tryz.func170 [.tmp 4] ?_
 intro H0 F0
 unfold Ko at hF
 refine aZ ?_
 refine bnd hF fun r1 hx2 hF=>aX (agR hx2) (fun _=>?_)
 exact ze hF
end Go.Proofs.YtdmapdjncfkhhaaGreatDoor
