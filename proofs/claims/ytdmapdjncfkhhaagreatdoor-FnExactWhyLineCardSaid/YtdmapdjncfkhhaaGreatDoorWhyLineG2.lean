/-
  Functions of the program as Lean functions, and that the calls return what these say: part 3. No conditions.
-/
import Derived.Shelf.Sort.Plain
import Derived.Shelf.Slices.In.SortNone
import Derived.Shelf.Slices.CompactI
import Derived.Shelf.Strings.OnBuilder
import Derived.Shelf.Strconv.Itoa3
import Derived.Test.YtdmapdjncfkhhaaGreatDoorWhyLineG1
import Derived.KernelRfl
set_option maxRecDepth 100000
set_option maxHeartbeats 1000000
set_option linter.unusedVariables false
namespace Go.Proofs.YtdmapdjncfkhhaaGreatDoor
open Go Go.Fw

def QA(fuel:Nat)(ah:List Int)(ai:List Method)(bL:List Rule)(ak:aV):Option ((List UInt8)):=
 ((ER ah ai bL).bind fun r4=>
   bif (!r4)then (some true)
   else ((xS ah ak).bind fun r8=>
     some (!r8))).bind fun o2=>
 match o2 with
 |c11=>if c11 then (
     some [])
   else (
     (Pw fuel ah ai ak).bind fun iC=>
     if iC then (
       some [102,101,97,115,105,98,108,101])
     else (
       (Pi fuel ah ai bL ak).bind fun ik=>
       if ik.2 then (
         (Bb fuel ik.1).bind fun qp=>
         (gV [102,101,97,115,105,98,108,101,32,98,121,32,114,117,108,101,115,32] qp).bind fun mg=>
         some mg)
       else (
         (O0 fuel ah ai bL ak).bind fun jl=>
         if (!jl.2)then (
           some [117,110,107,110,111,119,110])
         else (
           (Bb fuel jl.1.Tuple).bind fun vg=>
           (gV [105,110,102,101,97,115,105,98,108,101,58,32,40] vg).bind fun x32=>
           (gV x32 [41,32,105,110,32]).bind fun Dz=>
           (M5 fuel jl.1.All).bind fun Lh=>
           (gV Dz Lh).bind fun x43=>
           (gV x43 [32,110,111,116,32,105,110,32]).bind fun DD=>
           (M5 fuel jl.1.Some).bind fun qw=>
           (gV DD qw).bind fun x54=>
           some x54))))
theorem apP{fuel:Nat}{ah:List Int}{aa:Sv}{ai:List Method}{aA:Sv}{bL:List Rule}{bi:Sv}{ak:aV}{gu gY:Sv}{R:(List UInt8)}(hF:QA fuel ah ai bL ak=some R):
   Fw.Spec Tryz.prog 8 [aa.v,aA.v,bi.v,(zg [gu.v,gY.v])] [ag aa ah,dO aA ai,dV bi bL,ag gu ak.Head,bZ gY ak.Atoms] (fun _:Unit=>(sv R)) (fun _=>[]):=by
 refine Se 64 Tryz.func8 [.tmp 8] ?_
 intro H0 F0
 unfold QA at hF
 refine au ?_
 refine bM (fun k1=>?_)
 refine bC ?_
 obtain⟨o2,jq,hO3⟩:=bind_some hF
 refine au ?_
 refine gG (fun f' cs'=>∃(c11:Bool)(g:Fr),c11=o2/\f'=aN g [(0,aa.v),(1,aA.v),(2,bi.v),(7,(pz k1)),(23,(.bool c11))]/\aK cs' [ag aa ah,dO aA ai,dV bi bL,aQ k1 39 (zg [gu.v,gY.v]),ag gu ak.Head,bZ gY ak.Atoms]) ?_ ?_
 · replace hF:=jq
   refine bC ?_
   refine bnd hF fun r4 hx5 hF=>bJ (Ws hx5) (fun _=>?_)
   refine bg ?_
   rcases dK (!r4)with dB|dB
   · rw[dB]
     try rw[dB]at hF; dsimp only[bB,bA]at hF
     exact dw hF
   rw[dB]
   try rw[dB]at hF; dsimp only[bB,bA]at hF
   refine aX ?_
   refine bnd hF fun r8 dF hF=>bJ (IC dF) (fun _=>?_)
   exact dw hF
 rintro _ _ ⟨c11,g62,rfl,rfl,hE⟩
 replace hF:=hO3
 try dsimp only at hF
 refine bH hE ?_
 refine Ci hF (fun CO hF=>?_) (fun CO hF=>?_)
 · exact ze hF
 refine bu ?_
 refine bnd hF fun iC iM hF=>bJ (an_ iM) (fun _=>?_)
 refine au ?_
 refine Ci hF (fun aek hF=>?_) (fun aek hF=>?_)
 · exact ze hF
 refine bu ?_
 refine bnd hF fun ik hx16 hF=>fq (anM hx16) (fun p17=>?_)
 refine au ?_
 refine zx ?_
 refine zx ?_
 refine bF ?_
 refine Ci hF (fun ael hF=>?_) (fun ael hF=>?_)
 · refine bg ?_
   refine bnd hF fun qp nK hF=>dU (.cons .h .nil) (gH bq (fun _=>.nil) (bU alv.h bN (aaT nK))) (fun _=>?_)
   refine bnd hF fun mg mY hF=>?_
   obtain⟨aA_,aA'⟩:=jR mY
   refine aO (j6 (s:=[102,101,97,115,105,98,108,101,32,98,121,32,114,117,108,101,115,32]) (t:=qp) (u:=mg) (.sv _) (.tmp rfl rfl) mY) ?_
   exact ze hF
 refine bu ?_
 refine bnd hF fun jl ll hF=>GN (anp ll) (fun p27=>?_)
 refine au ?_
 refine zx ?_
 refine zx ?_
 refine dJ (fun k28=>?_)
 refine As (zg [p27.1.v,p27.2.1.v,p27.2.2.2.1.v]) ?_
 refine bF ?_
 refine Ci hF (fun KG hF=>?_) (fun KG hF=>?_)
 · exact ze hF
 refine au ?_
 refine dS [0,1,5,6,10,11,2,3,4,7,8,9,12,13,14] [0,1,3,7,15,0,32,103,255,511,0,1024,3303,8191,16383] [2,7,12] mixed (by decide+kernel) ?_
 refine du ?_
 refine ed rfl .no .h (fun ha hp=>fI (v:=p27.2.2.2.1.v) iF.h (EN ha (.tmp rfl rfl) rfl) hp.2 rfl rfl) ?_
 refine du ?_
 refine ed rfl .no .h (fun ha hp=>fI (v:=p27.1.v) nJ.h (EN ha (.tmp rfl rfl) rfl) hp.2 rfl rfl) ?_
 refine du ?_
 refine ed rfl .no .h (fun ha hp=>fI (v:=p27.2.1.v) nJ.h (EN ha (.tmp rfl rfl) rfl) hp.2 rfl rfl) ?_
 refine bnd hF fun vg rR hF=>df rfl rfl .no (.cons .q3 .nil) (.own .h (fun _ h=>h) (.own .h (fun _ h=>h) (.dep rfl .nil))) (fun ha=>gH bq (fun _=>.nil) (bU alv.h (.cons (EN ha (.tmp rfl rfl) rfl) .nil) (aaT rR))) (fun _=>?_)
 refine bnd hF fun x32 yF hF=>?_
 obtain⟨aBa,aBb⟩:=jR yF
 refine bQ rfl .no (fun ha=>j6 (s:=[105,110,102,101,97,115,105,98,108,101,58,32,40]) (t:=vg) (u:=x32) (EN ha (.sv _) rfl) (EN ha (.tmp rfl rfl) rfl) yF) ?_
 refine bnd hF fun Dz vU hF=>?_
 obtain⟨aBc,aBd⟩:=jR vU
 refine bQ rfl .no (fun ha=>j6 (s:=x32) (t:=[41,32,105,110,32]) (u:=Dz) (EN ha (.tmp rfl rfl) rfl) (EN ha (.sv _) rfl) vU) ?_
 refine bnd hF fun Lh yA hF=>ND rfl rfl .no (.rd .q2 rfl .nil) (.own (.t .h) (fun _ h=>h) (.dep rfl (.dep rfl .nil))) (fun ha=>bU aly.h (.cons (EN ha (.tmp rfl rfl) rfl) .nil) (aga yA)) (fun _=>?_)
 refine bnd hF fun x43 yE hF=>?_
 obtain⟨aBe,aBf⟩:=jR yE
 refine bQ rfl .no (fun ha=>j6 (s:=Dz) (t:=Lh) (u:=x43) (EN ha (.tmp rfl rfl) rfl) (EN ha (.tmp rfl rfl) rfl) yE) ?_
 refine bnd hF fun DD CY hF=>?_
 obtain⟨aBg,aBh⟩:=jR CY
 refine bQ rfl .no (fun ha=>j6 (s:=x43) (t:=[32,110,111,116,32,105,110,32]) (u:=DD) (EN ha (.tmp rfl rfl) rfl) (EN ha (.sv _) rfl) CY) ?_
 refine bnd hF fun qw uP hF=>df rfl rfl .no (.cons .q3 .nil) (.dep rfl (.dep rfl (.dep rfl .nil))) (fun ha=>gH bq (fun _=>.nil) (bU aly.h (.cons (EN ha (.tmp rfl rfl) rfl) .nil) (aga uP))) (fun _=>?_)
 refine bnd hF fun x54 ma hF=>?_
 obtain⟨aBi,aBj⟩:=jR ma
 refine bQ rfl .no (fun ha=>j6 (s:=DD) (t:=qw) (u:=x54) (EN ha (.tmp rfl rfl) rfl) (EN ha (.tmp rfl rfl) rfl) ma) ?_
 refine cB ?_
 exact ze hF
def pX(bT:Int)(vJ:Int)(xZ:Int):Option (Bool):=
 some ((decide ((vJ:Int)<=bT))&&(decide ((bT:Int)<=xZ)))
theorem t_{bT vJ xZ:Int}{R:Bool}(hF:pX bT vJ xZ=some R):
   Fw.Spec Tryz.prog 91 [(zi bT),(zi vJ),(zi xZ)] [] (fun _:Unit=>(.bool R)) (fun _=>[]):=by
 refine Se 15 Tryz.func91 [.tmp 6] ?_
 intro H0 F0
 unfold pX at hF
 refine aP ?_
 refine gG (fun f' cs'=>∃(g:Fr),f'=aN g [(6,(.bool ((decide ((vJ:Int)<=bT))&&(decide ((bT:Int)<=xZ)))))]/\aK cs' []) ?_ ?_
 · refine aP ?_
   rcases dK (decide ((vJ:Int)<=bT))with hg1|hg1
   · rw[hg1]
     try rw[hg1]at hF; dsimp only[bB,bA]at hF
     refine eG ?_
     exact⟨_,ay,ax⟩
   rw[hg1]
   try rw[hg1]at hF; dsimp only[bB,bA]at hF
   refine bu ?_
   exact⟨_,ay,ax⟩
 rintro _ _ ⟨g2,rfl,hE⟩
 refine bH hE ?_
 exact ze hF
def Wv(bT:Int):Option (Bool):=
 (pX bT 1 3).bind fun r1=>
 some (!r1)
theorem aoa{bT:Int}{R:Bool}(hF:Wv bT=some R):
   Fw.Spec Tryz.prog 177 [(zi bT)] [] (fun _:Unit=>(.bool R)) (fun _=>[]):=by
 refine Se 6 Tryz.func177 [.tmp 2] ?_
 intro H0 F0
 unfold Wv at hF
 refine aX ?_
 refine bnd hF fun r1 hx2 hF=>bJ (t_ hx2) (fun _=>?_)
 exact ze hF
def LX:List Int->Nat->Option (Int)
 |[],k4=>some (-1)
 |x6::aJ,k4=>(Wv x6).bind fun ik=>
   if ik then (
     some (k4:Int))
   else (
     LX aJ (k4+1))
def VR(ah:List Int):Option (Int):=
 LX ah 0
theorem anc{ah:List Int}{aa:Sv}{R:Int}(hF:VR ah=some R):
   Fw.Spec Tryz.prog 242 [aa.v,(.func (.func 177) [].toArray [].toArray)] [ag aa ah] (fun _:Unit=>(zi R)) (fun _=>[]):=by
 refine Se 19 Tryz.func242 [.tmp 4] ?_
 intro H0 F0
 unfold VR at hF
 refine eG ?_
 refine aY (bK (m:=ah.length) (fun m2 f' cs'=>∃(g:Fr)(k4:Nat)(aJ:List Int),m2=aJ.length/\f'=aN g [(0,aa.v),(1,(.func (.func 177) [].toArray [].toArray)),(7,(zi (ah.length:Int))),(8,(zi (k4:Int)))]/\List.drop k4 ah=aJ/\aK cs' [ag aa ah]/\LX aJ k4=some R) ⟨_,0,_,rfl,ay,rfl,ax,hF⟩ ?_)
 rintro m2 _ _ ⟨g3,k4,aJ,rfl,rfl,hd7,hE,hF⟩
 refine Kb hE ah (fun jV=>?_)
 rcases aJ with _|⟨x6,aJ⟩
 · have fB:=dn hd7
   rw[LX]at hF
   refine aP ?_
   refine cO ?_
   exact ze hF
 obtain⟨fB,dF,fw⟩:=bW hd7
 rw[LX]at hF
 refine aP ?_
 refine cK ?_
 refine jD ?_
 refine Ai dF (fun k13 lY=>?_)
 refine Al dG ?_
 refine bnd hF fun ik hx16 hF=>mX .nil (lg awQ.h (.tmp rfl rfl) bN (aoa hx16)) (fun _=>?_)
 refine au ?_
 refine Ci hF (fun tC hF=>?_) (fun tC hF=>?_)
 · exact ze hF
 refine aX ?_
 rw[wk k4]
 exact⟨_,bO _,_,k4+1,aJ,rfl,ay,fw,ax,hF⟩
def OU(ah:List Int):Option (Bool):=
 (VR ah).bind fun r1=>
 some (decide ((0:Int)<=r1))
theorem am6{ah:List Int}{aa:Sv}{R:Bool}(hF:OU ah=some R):
   Fw.Spec Tryz.prog 176 [aa.v,(.func (.func 177) [].toArray [].toArray)] [ag aa ah] (fun _:Unit=>(.bool R)) (fun _=>[]):=by
 refine Se 9 Tryz.func176 [.tmp 4] ?_
 intro H0 F0
 unfold OU at hF
 refine bu ?_
 refine bnd hF fun r1 hx2 hF=>bJ (anc hx2) (fun _=>?_)
 exact ze hF
def EL(ah:List Int):Option (Bool):=
 ((pX (ah.length:Int) 1 3).bind fun r3=>
   bif r3 then ((OU ah).bind fun r7=>
     some (!r7))
   else (some false)).bind fun o1=>
 match o1 with
 |c10=>some c10
theorem We{ah:List Int}{aa:Sv}{R:Bool}(hF:EL ah=some R):
   Fw.Spec Tryz.prog 90 [aa.v] [ag aa ah] (fun _:Unit=>(.bool R)) (fun _=>[]):=by
 refine Se 11 Tryz.func90 [.tmp 2] ?_
 intro H0 F0
 unfold EL at hF
 refine bC ?_
 obtain⟨o1,sW,hO2⟩:=bind_some hF
 refine au ?_
 refine gG (fun f' cs'=>∃(c10:Bool)(g:Fr),c10=o1/\f'=aN g [(2,(.bool c10))]/\aK cs' []) ?_ ?_
 · replace hF:=sW
   refine bg ?_
   refine bnd hF fun r3 hx4 hF=>bJ (t_ hx4) (fun _=>?_)
   refine au ?_
   rcases dK r3 with gD|gD
   · rw[gD]
     try rw[gD]at hF; dsimp only[bB,bA]at hF
     refine bC ?_
     refine bnd hF fun r7 pJ hF=>bJ (am6 pJ) (fun _=>?_)
     exact dw hF
   rw[gD]
   try rw[gD]at hF; dsimp only[bB,bA]at hF
   exact dw hF
 rintro _ _ ⟨c10,g11,rfl,rfl,hE⟩
 replace hF:=hO2
 try dsimp only at hF
 refine bH hE ?_
 exact ze hF
def E9(ah:List Int)(lL:Int):Option (Bool):=
 ((EL ah).bind fun r3=>
   bif r3 then ((pX lL 0 (IntKind.i64.wrap ((ah.length:Int)-1))).bind fun r7=>
     some r7)
   else (some false)).bind fun o1=>
 match o1 with
 |c10=>some c10
theorem WG{ah:List Int}{aa:Sv}{lL:Int}{R:Bool}(hF:E9 ah lL=some R):
   Fw.Spec Tryz.prog 179 [aa.v,(zi lL)] [ag aa ah] (fun _:Unit=>(.bool R)) (fun _=>[]):=by
 refine Se 14 Tryz.func179 [.tmp 4] ?_
 intro H0 F0
 unfold E9 at hF
 refine bC ?_
 obtain⟨o1,sW,hO2⟩:=bind_some hF
 refine au ?_
 refine gG (fun f' cs'=>∃(c10:Bool)(g:Fr),c10=o1/\f'=aN g [(4,(.bool c10))]/\aK cs' []) ?_ ?_
 · replace hF:=sW
   refine au ?_
   refine bnd hF fun r3 hx4 hF=>bJ (We hx4) (fun _=>?_)
   refine au ?_
   rcases dK r3 with gD|gD
   · rw[gD]
     try rw[gD]at hF; dsimp only[bB,bA]at hF
     refine eG ?_
     refine bnd hF fun r7 pJ hF=>bJ (t_ pJ) (fun _=>?_)
     exact dw hF
   rw[gD]
   try rw[gD]at hF; dsimp only[bB,bA]at hF
   exact dw hF
 rintro _ _ ⟨c10,g11,rfl,rfl,hE⟩
 replace hF:=hO2
 try dsimp only at hF
 refine bH hE ?_
 exact ze hF
def Ii(ai:List Int):List Int->Nat->Option (Bool)
 |[],k4=>some true
 |x6::aJ,k4=>(bif (decide ((0:Int)<(k4:Int)))then ((ix ai (IntKind.i64.wrap ((k4:Int)-1))).bind fun Vi=>
       some (decide ((x6:Int)<=Vi)))
     else (some false)).bind fun yS=>
   match yS with
   |c24=>if c24 then (
       some false)
     else (
       Ii ai aJ (k4+1))
def PU(ai:List Int):Option (Bool):=
 Ii ai ai 0
theorem aoD{ai:List Int}{aa:Sv}{R:Bool}(hF:PU ai=some R):
   Fw.Spec Tryz.prog 282 [aa.v] [ag aa ai] (fun _:Unit=>(.bool R)) (fun _=>[]):=by
 refine Se 24 Tryz.func282 [.tmp 2] ?_
 intro H0 F0
 unfold PU at hF
 refine eG ?_
 refine aY (bK (m:=ai.length) (fun m2 f' cs'=>∃(g:Fr)(k4:Nat)(aJ:List Int),m2=aJ.length/\f'=aN g [(0,aa.v),(5,(zi (ai.length:Int))),(6,(zi (k4:Int)))]/\List.drop k4 ai=aJ/\aK cs' [ag aa ai]/\Ii ai aJ k4=some R) ⟨_,0,_,rfl,ay,rfl,ax,hF⟩ ?_)
 rintro m2 _ _ ⟨g3,k4,aJ,rfl,rfl,hd7,hE,hF⟩
 refine Kb hE ai (fun jV=>?_)
 rcases aJ with _|⟨x6,aJ⟩
 · have fB:=dn hd7
   rw[Ii]at hF
   refine aP ?_
   refine cO ?_
   exact ze hF
 obtain⟨fB,dF,fw⟩:=bW hd7
 rw[Ii]at hF
 refine aP ?_
 refine cK ?_
 refine bu ?_
 obtain⟨yS,RV,TM⟩:=bind_some hF
 refine dS [0,1,2,3,4,5,6,7,8,9,10,11,12,13] [0,1,3,7,7,31,63,7,7,263,903,1927,4095,8191] [] mixed (by decide+kernel) ?_
 refine yc (fun f' cs'=>∃(c24:Bool)(g:Fr),c24=yS/\f'=aN g [(0,aa.v),(5,(zi (ai.length:Int))),(6,(zi (k4:Int))),(22,(.bool c24))]/\aK cs' [ag aa ai]) ?_ ?_
 · replace hF:=RV
   refine fT ?_
   rcases dK (decide ((0:Int)<(k4:Int)))with mH|mH
   · rw[mH]
     try rw[mH]at hF; dsimp only[bB,bA]at hF
     refine cB ?_
     refine Di dF (fun k16 Z6=>?_)
     refine Dl dG ?_
     refine fT ?_
     refine zI hF fun Vi aAI yB hF=>?_
     refine Di yB (fun k22 j23=>?_)
     refine Dl dG ?_
     exact j3 hF
   rw[mH]
   try rw[mH]at hF; dsimp only[bB,bA]at hF
   exact j3 hF
 rintro _ _ ⟨c24,g27,rfl,rfl,hE⟩
 replace hF:=TM
 try dsimp only at hF
 refine bH hE ?_
 refine Ci hF (fun Us hF=>?_) (fun Us hF=>?_)
 · exact ze hF
 refine aX ?_
 rw[wk k4]
 exact⟨_,bO _,_,k4+1,aJ,rfl,ay,fw,ax,hF⟩
def O9(lD:Int)(aC:Int):Option (Bool):=
 (pX lD 0 (IntKind.i64.wrap (aC-1))).bind fun r1=>
 some (!r1)
theorem anI{lD:Int}{bD:Nat}{aC:Int}{R:Bool}(hF:O9 lD aC=some R):
   Fw.Spec Tryz.prog 283 [(zi lD),(pz bD)] [aQ bD 3 (zi aC)] (fun _:Unit=>(.bool R)) (fun _=>[]):=by
 refine Se 9 Tryz.func283 [.tmp 3] ?_
 intro H0 F0
 unfold O9 at hF
 refine bF ?_
 refine bnd hF fun r1 hx2 hF=>bJ (t_ hx2) (fun _=>?_)
 exact ze hF
def LV(aC:Int):List Int->Nat->Option (Int)
 |[],k4=>some (-1)
 |x6::aJ,k4=>(O9 x6 aC).bind fun ik=>
   if ik then (
     some (k4:Int))
   else (
     LV aC aJ (k4+1))
def VO(ah:List Int)(aC:Int):Option (Int):=
 LV aC ah 0
theorem am9{ah:List Int}{aa:Sv}{bD:Nat}{aC R:Int}(hF:VO ah aC=some R):
   Fw.Spec Tryz.prog 242 [aa.v,(.func (.func 283) [].toArray [(pz bD)].toArray)] [ag aa ah,aQ bD 3 (zi aC)] (fun _:Unit=>(zi R)) (fun _=>[]):=by
 refine Se 19 Tryz.func242 [.tmp 4] ?_
 intro H0 F0
 unfold VO at hF
 refine eG ?_
 refine aY (bK (m:=ah.length) (fun m2 f' cs'=>∃(g:Fr)(k4:Nat)(aJ:List Int),m2=aJ.length/\f'=aN g [(0,aa.v),(1,(.func (.func 283) [].toArray [(pz bD)].toArray)),(7,(zi (ah.length:Int))),(8,(zi (k4:Int)))]/\List.drop k4 ah=aJ/\aK cs' [ag aa ah,aQ bD 3 (zi aC)]/\LV aC aJ k4=some R) ⟨_,0,_,rfl,ay,rfl,ax,hF⟩ ?_)
 rintro m2 _ _ ⟨g3,k4,aJ,rfl,rfl,hd7,hE,hF⟩
 refine Kb hE ah (fun jV=>?_)
 rcases aJ with _|⟨x6,aJ⟩
 · have fB:=dn hd7
   rw[LV]at hF
   refine aP ?_
   refine cO ?_
   exact ze hF
 obtain⟨fB,dF,fw⟩:=bW hd7
 rw[LV]at hF
 refine aP ?_
 refine cK ?_
 refine jD ?_
 refine Ai dF (fun k13 lY=>?_)
 refine Al dG ?_
 refine bnd hF fun ik hx16 hF=>mX (.rd .q2 rfl .nil) (lg awT.h (.tmp rfl rfl) bN (anI hx16)) (fun _=>?_)
 refine au ?_
 refine Ci hF (fun tC hF=>?_) (fun tC hF=>?_)
 · exact ze hF
 refine aX ?_
 rw[wk k4]
 exact⟨_,bO _,_,k4+1,aJ,rfl,ay,fw,ax,hF⟩
def OQ(ah:List Int)(aC:Int):Option (Bool):=
 (VO ah aC).bind fun r1=>
 some (decide ((0:Int)<=r1))
theorem am1{ah:List Int}{aa:Sv}{bD:Nat}{aC:Int}{R:Bool}(hF:OQ ah aC=some R):
   Fw.Spec Tryz.prog 176 [aa.v,(.func (.func 283) [].toArray [(pz bD)].toArray)] [ag aa ah,aQ bD 3 (zi aC)] (fun _:Unit=>(.bool R)) (fun _=>[]):=by
 refine Se 9 Tryz.func176 [.tmp 4] ?_
 intro H0 F0
 unfold OQ at hF
 refine bu ?_
 refine bnd hF fun r1 hx2 hF=>bJ (am9 hx2) (fun _=>?_)
 exact ze hF
def Xo(bT:Int):Option (Bool):=
 (pX bT 0 99).bind fun r1=>
 some r1
theorem aqu{bT:Int}{R:Bool}(hF:Xo bT=some R):
   Fw.Spec Tryz.prog 284 [(zi bT)] [] (fun _:Unit=>(.bool R)) (fun _=>[]):=by
 refine Se 5 Tryz.func284 [.tmp 2] ?_
 intro H0 F0
 unfold Xo at hF
 refine aX ?_
 refine bnd hF fun r1 hx2 hF=>bJ (t_ hx2) (fun _=>?_)
 exact ze hF
def Wh(bE:Method)(Bu:Int):Option (Bool):=
 ((PU bE.Inputs).bind fun r5=>
   bif r5 then ((OQ bE.Inputs Bu).bind fun r9=>
     bif (!r9)then ((pX bE.Limit 0 9).bind fun mK=>
       bif mK then ((Xo bE.Cost).bind fun d_=>
         bif d_ then ((pX bE.Quota 1 99).bind fun jr=>
           some jr)
         else (some false))
       else (some false))
     else (some false))
   else (some false)).bind fun o3=>
 match o3 with
 |c24=>some c24
theorem an0{bE:Method}{aM:Sv}{Bu:Int}{R:Bool}(hF:Wh bE Bu=some R):
   Fw.Spec Tryz.prog 239 [(zg [(zi bE.Rel),aM.v,(zi bE.Limit),(zi bE.Cost),(zi bE.Quota)]),(zi Bu)] [ag aM bE.Inputs] (fun _:Unit=>(.bool R)) (fun _=>[]):=by
 refine Se 30 Tryz.func239 [.tmp 4] ?_
 intro H0 F0
 unfold Wh at hF
 refine au ?_
 refine bM (fun k1=>?_)
 refine bM (fun k2=>?_)
 refine bg ?_
 obtain⟨o3,vX,hO4⟩:=bind_some hF
 refine au ?_
 refine gG (fun f' cs'=>∃(c24:Bool)(g:Fr),c24=o3/\f'=aN g [(4,(.bool c24))]/\aK cs' []) ?_ ?_
 · replace hF:=vX
   refine bg ?_
   refine bnd hF fun r5 hx6 hF=>bJ (aoD hx6) (fun _=>?_)
   refine au ?_
   rcases dK r5 with fG|fG
   · rw[fG]
     try rw[fG]at hF; dsimp only[bB,bA]at hF
     refine aX ?_
     refine aO (rC (fn:=.func 283) (vs:=[]) (us:=[(pz k2)]) .nil bN) ?_
     refine au ?_
     refine bnd hF fun r9 fU hF=>bJ (am1 fU) (fun _=>?_)
     refine aP ?_
     rcases dK (!r9)with kv|kv
     · rw[kv]
       try rw[kv]at hF; dsimp only[bB,bA]at hF
       refine aX ?_
       refine bnd hF fun mK iA hF=>bJ (t_ iA) (fun _=>?_)
       refine bg ?_
       rcases dK mK with qX|qX
       · rw[qX]
         try rw[qX]at hF; dsimp only[bB,bA]at hF
         refine aX ?_
         refine bnd hF fun d_ gq hF=>bJ (aqu gq) (fun _=>?_)
         refine bg ?_
         rcases dK d_ with Uy|Uy
         · rw[Uy]
           try rw[Uy]at hF; dsimp only[bB,bA]at hF
           refine aX ?_
           refine bnd hF fun jr mY hF=>bJ (t_ mY) (fun _=>?_)
           exact dw hF
         rw[Uy]
         try rw[Uy]at hF; dsimp only[bB,bA]at hF
         exact dw hF
       rw[qX]
       try rw[qX]at hF; dsimp only[bB,bA]at hF
       exact dw hF
     rw[kv]
     try rw[kv]at hF; dsimp only[bB,bA]at hF
     exact dw hF
   rw[fG]
   try rw[fG]at hF; dsimp only[bB,bA]at hF
   exact dw hF
 rintro _ _ ⟨c24,U6,rfl,rfl,hE⟩
 replace hF:=hO4
 try dsimp only at hF
 refine bH hE ?_
 exact ze hF
def Qj(ah:List Int)(bE:Method):Option (Bool):=
 ((E9 ah bE.Rel).bind fun r4=>
   bif r4 then ((ix ah bE.Rel).bind fun x8=>
     (Wh bE x8).bind fun jH=>
     some jH)
   else (some false)).bind fun o2=>
 match o2 with
 |c17=>some c17
theorem apb{ah:List Int}{aa:Sv}{bE:Method}{aW:Sv}{R:Bool}(hF:Qj ah bE=some R):
   Fw.Spec Tryz.prog 172 [aa.v,(zg [(zi bE.Rel),aW.v,(zi bE.Limit),(zi bE.Cost),(zi bE.Quota)])] [ag aa ah,ag aW bE.Inputs] (fun _:Unit=>(.bool R)) (fun _=>[]):=by
 refine Se 18 Tryz.func172 [.tmp 4] ?_
 intro H0 F0
 unfold Qj at hF
 refine au ?_
 refine bM (fun k1=>?_)
 refine bg ?_
 obtain⟨o2,jq,hO3⟩:=bind_some hF
 refine dS [0,1,2,3,4,5,6,7,8,9,10,11,12,13] [0,0,2,7,15,31,31,31,159,479,991,2047,4095,8191] [3,11] mixed (by decide+kernel) ?_
 refine yc (fun f' cs'=>∃(c17:Bool)(g:Fr),c17=o2/\f'=aN g [(4,(.bool c17))]/\aK cs' []) ?_ ?_
 · replace hF:=jq
   refine fT ?_
   refine bnd hF fun r4 hx5 hF=>jk (WG hx5) (fun _=>?_)
   refine du ?_
   rcases dK r4 with dB|dB
   · rw[dB]
     try rw[dB]at hF; dsimp only[bB,bA]at hF
     refine sU ?_
     refine zI hF fun x8 amd uQ hF=>?_
     refine Di uQ (fun k12 j13=>?_)
     refine Dl dG ?_
     refine bnd hF fun jH mf hF=>jk (an0 mf) (fun _=>?_)
     exact j3 hF
   rw[dB]
   try rw[dB]at hF; dsimp only[bB,bA]at hF
   exact j3 hF
 rintro _ _ ⟨c17,g18,rfl,rfl,hE⟩
 replace hF:=hO3
 try dsimp only at hF
 refine bH hE ?_
 exact ze hF
def Pj(bE:Method)(aC:List Int):Option (Bool):=
 (Qj aC bE).bind fun r2=>
 some (!r2)
theorem anN{bE:Method}{aM:Sv}{bD:Nat}{aC:List Int}{eU:Sv}{R:Bool}(hF:Pj bE aC=some R):
   Fw.Spec Tryz.prog 171 [(zg [(zi bE.Rel),aM.v,(zi bE.Limit),(zi bE.Cost),(zi bE.Quota)]),(pz bD)] [ag aM bE.Inputs,aQ bD 22 eU.v,ag eU aC] (fun _:Unit=>(.bool R)) (fun _=>[]):=by
 refine Se 8 Tryz.func171 [.tmp 3] ?_
 intro H0 F0
 unfold Pj at hF
 refine au ?_
 refine bM (fun k1=>?_)
 refine aX ?_
 refine bnd hF fun r2 hx3 hF=>bJ (apb hx3) (fun _=>?_)
 exact ze hF
def LG(aC:List Int):List Method->Nat->Option (Int)
 |[],k4=>some (-1)
 |x6::aJ,k4=>(Pj x6 aC).bind fun r16=>
   if r16 then (
     some (k4:Int))
   else (
     LG aC aJ (k4+1))
def VD(ah:List Method)(aC:List Int):Option (Int):=
 LG aC ah 0
theorem amJ{ah:List Method}{aa:Sv}{bD:Nat}{aC:List Int}{eU:Sv}{R:Int}(hF:VD ah aC=some R):
   Fw.Spec Tryz.prog 238 [aa.v,(.func (.func 171) [].toArray [(pz bD)].toArray)] [dO aa ah,aQ bD 22 eU.v,ag eU aC] (fun _:Unit=>(zi R)) (fun _=>[]):=by
 refine Se 19 Tryz.func238 [.tmp 4] ?_
 intro H0 F0
 unfold VD at hF
 refine eG ?_
 refine aY (bK (m:=ah.length) (fun m2 f' cs'=>∃(g:Fr)(k4:Nat)(aJ:List Method),m2=aJ.length/\f'=aN g [(0,aa.v),(1,(.func (.func 171) [].toArray [(pz bD)].toArray)),(7,(zi (ah.length:Int))),(8,(zi (k4:Int)))]/\List.drop k4 ah=aJ/\aK cs' [dO aa ah,aQ bD 22 eU.v,ag eU aC]/\LG aC aJ k4=some R) ⟨_,0,_,rfl,ay,rfl,ax,hF⟩ ?_)
 rintro m2 _ _ ⟨g3,k4,aJ,rfl,rfl,hd7,hE,hF⟩
 refine Kb hE ah (fun jV=>?_)
 rcases aJ with _|⟨x6,aJ⟩
 · have fB:=dn hd7
   rw[LG]at hF
   refine aP ?_
   refine cO ?_
   exact ze hF
 obtain⟨fB,dF,fw⟩:=bW hd7
 rw[LG]at hF
 refine aP ?_
 refine cK ?_
 refine jD ?_
 refine Ai dF (fun k13 lY=>?_)
 refine iw (wJ x6) xR (fun jm=>?_)
 refine bnd hF fun r16 iX hF=>mX (.rd .h rfl (.rd .q3 rfl (.rd .q4 rfl .nil))) (lg awS.h (.tmp rfl rfl) bN (anN iX)) (fun _=>?_)
 refine au ?_
 refine Ci hF (fun mI hF=>?_) (fun mI hF=>?_)
 · exact ze hF
 refine aX ?_
 rw[wk k4]
 exact⟨_,bO _,_,k4+1,aJ,rfl,ay,fw,ax,hF⟩
def OI(ah:List Method)(aC:List Int):Option (Bool):=
 (VD ah aC).bind fun r1=>
 some (decide ((0:Int)<=r1))
theorem amE{ah:List Method}{aa:Sv}{bD:Nat}{aC:List Int}{eU:Sv}{R:Bool}(hF:OI ah aC=some R):
   Fw.Spec Tryz.prog 170 [aa.v,(.func (.func 171) [].toArray [(pz bD)].toArray)] [dO aa ah,aQ bD 22 eU.v,ag eU aC] (fun _:Unit=>(.bool R)) (fun _=>[]):=by
 refine Se 9 Tryz.func170 [.tmp 4] ?_
 intro H0 F0
 unfold OI at hF
 refine bu ?_
 refine bnd hF fun r1 hx2 hF=>bJ (amJ hx2) (fun _=>?_)
 exact ze hF
def MB(ah:List Int)(ai:List Method):Option (Bool):=
 ((EL ah).bind fun r4=>
   bif r4 then (bif (decide (((ai.length:Int):Int)<=5))then ((OI ai ah).bind fun r9=>
       some (!r9))
     else (some false))
   else (some false)).bind fun o2=>
 match o2 with
 |c12=>some c12
theorem afD{ah:List Int}{aa:Sv}{ai:List Method}{aA:Sv}{R:Bool}(hF:MB ah ai=some R):
   Fw.Spec Tryz.prog 88 [aa.v,aA.v] [ag aa ah,dO aA ai] (fun _:Unit=>(.bool R)) (fun _=>[]):=by
 refine Se 18 Tryz.func88 [.tmp 4] ?_
 intro H0 F0
 unfold MB at hF
 refine au ?_
 refine bM (fun k1=>?_)
 refine bg ?_
 obtain⟨o2,jq,hO3⟩:=bind_some hF
 refine au ?_
 refine gG (fun f' cs'=>∃(c12:Bool)(g:Fr),c12=o2/\f'=aN g [(4,(.bool c12))]/\aK cs' []) ?_ ?_
 · replace hF:=jq
   refine au ?_
   refine bnd hF fun r4 hx5 hF=>bJ (We hx5) (fun _=>?_)
   refine au ?_
   rcases dK r4 with dB|dB
   · rw[dB]
     try rw[dB]at hF; dsimp only[bB,bA]at hF
     refine eD ?_
     rcases dK (decide (((ai.length:Int):Int)<=5))with fG|fG
     · rw[fG]
       try rw[fG]at hF; dsimp only[bB,bA]at hF
       refine bC ?_
       refine aO (rC (fn:=.func 171) (vs:=[]) (us:=[(pz k1)]) .nil bN) ?_
       refine au ?_
       refine bnd hF fun r9 fU hF=>bJ (amE fU) (fun _=>?_)
       exact dw hF
     rw[fG]
     try rw[fG]at hF; dsimp only[bB,bA]at hF
     exact dw hF
   rw[dB]
   try rw[dB]at hF; dsimp only[bB,bA]at hF
   exact dw hF
 rintro _ _ ⟨c12,g13,rfl,rfl,hE⟩
 replace hF:=hO3
 try dsimp only at hF
 refine bH hE ?_
 exact ze hF
def O5(lD:Int)(aC:Int):Option (Bool):=
 (pX lD 0 (IntKind.i64.wrap (aC-1))).bind fun r1=>
 some (!r1)
theorem anA{lD:Int}{bD:Nat}{aC:Int}{R:Bool}(hF:O5 lD aC=some R):
   Fw.Spec Tryz.prog 285 [(zi lD),(pz bD)] [aQ bD 3 (zi aC)] (fun _:Unit=>(.bool R)) (fun _=>[]):=by
 refine Se 9 Tryz.func285 [.tmp 3] ?_
 intro H0 F0
 unfold O5 at hF
 refine bF ?_
 refine bnd hF fun r1 hx2 hF=>bJ (t_ hx2) (fun _=>?_)
 exact ze hF
def LU(aC:Int):List Int->Nat->Option (Int)
 |[],k4=>some (-1)
 |x6::aJ,k4=>(O5 x6 aC).bind fun ik=>
   if ik then (
     some (k4:Int))
   else (
     LU aC aJ (k4+1))
def VM(ah:List Int)(aC:Int):Option (Int):=
 LU aC ah 0
theorem am3{ah:List Int}{aa:Sv}{bD:Nat}{aC R:Int}(hF:VM ah aC=some R):
   Fw.Spec Tryz.prog 242 [aa.v,(.func (.func 285) [].toArray [(pz bD)].toArray)] [ag aa ah,aQ bD 3 (zi aC)] (fun _:Unit=>(zi R)) (fun _=>[]):=by
 refine Se 19 Tryz.func242 [.tmp 4] ?_
 intro H0 F0
 unfold VM at hF
 refine eG ?_
 refine aY (bK (m:=ah.length) (fun m2 f' cs'=>∃(g:Fr)(k4:Nat)(aJ:List Int),m2=aJ.length/\f'=aN g [(0,aa.v),(1,(.func (.func 285) [].toArray [(pz bD)].toArray)),(7,(zi (ah.length:Int))),(8,(zi (k4:Int)))]/\List.drop k4 ah=aJ/\aK cs' [ag aa ah,aQ bD 3 (zi aC)]/\LU aC aJ k4=some R) ⟨_,0,_,rfl,ay,rfl,ax,hF⟩ ?_)
 rintro m2 _ _ ⟨g3,k4,aJ,rfl,rfl,hd7,hE,hF⟩
 refine Kb hE ah (fun jV=>?_)
 rcases aJ with _|⟨x6,aJ⟩
 · have fB:=dn hd7
   rw[LU]at hF
   refine aP ?_
   refine cO ?_
   exact ze hF
 obtain⟨fB,dF,fw⟩:=bW hd7
 rw[LU]at hF
 refine aP ?_
 refine cK ?_
 refine jD ?_
 refine Ai dF (fun k13 lY=>?_)
 refine Al dG ?_
 refine bnd hF fun ik hx16 hF=>mX (.rd .q2 rfl .nil) (lg awW.h (.tmp rfl rfl) bN (anA hx16)) (fun _=>?_)
 refine au ?_
 refine Ci hF (fun tC hF=>?_) (fun tC hF=>?_)
 · exact ze hF
 refine aX ?_
 rw[wk k4]
 exact⟨_,bO _,_,k4+1,aJ,rfl,ay,fw,ax,hF⟩
def OP(ah:List Int)(aC:Int):Option (Bool):=
 (VM ah aC).bind fun r1=>
 some (decide ((0:Int)<=r1))
theorem amZ{ah:List Int}{aa:Sv}{bD:Nat}{aC:Int}{R:Bool}(hF:OP ah aC=some R):
   Fw.Spec Tryz.prog 176 [aa.v,(.func (.func 285) [].toArray [(pz bD)].toArray)] [ag aa ah,aQ bD 3 (zi aC)] (fun _:Unit=>(.bool R)) (fun _=>[]):=by
 refine Se 9 Tryz.func176 [.tmp 4] ?_
 intro H0 F0
 unfold OP at hF
 refine bu ?_
 refine bnd hF fun r1 hx2 hF=>bJ (am3 hx2) (fun _=>?_)
 exact ze hF
def V_(ai:List Int)(Bu:Int):Option (Bool):=
 (OP ai Bu).bind fun r2=>
 some (!r2)
theorem anO{ai:List Int}{aa:Sv}{Bu:Int}{R:Bool}(hF:V_ ai Bu=some R):
   Fw.Spec Tryz.prog 241 [aa.v,(zi Bu)] [ag aa ai] (fun _:Unit=>(.bool R)) (fun _=>[]):=by
 refine Se 9 Tryz.func241 [.tmp 4] ?_
 intro H0 F0
 unfold V_ at hF
 refine au ?_
 refine bM (fun k1=>?_)
 refine aP ?_
 refine aO (rC (fn:=.func 285) (vs:=[]) (us:=[(pz k1)]) .nil bN) ?_
 refine bnd hF fun r2 hx3 hF=>bJ (amZ hx3) (fun _=>?_)
 exact ze hF
def QW(ah:List Int)(bG:Rule):Option (Bool):=
 ((E9 ah bG.From).bind fun r4=>
   bif r4 then ((E9 ah bG.To).bind fun r8=>
     bif r8 then ((ix ah bG.To).bind fun tT=>
       bif (((bG.Map.length:Int):Int)==tT)then ((ix ah bG.From).bind fun n_=>
         (V_ bG.Map n_).bind fun jl=>
         some jl)
       else (some false))
     else (some false))
   else (some false)).bind fun o2=>
 match o2 with
 |c28=>some c28
theorem aqv{ah:List Int}{aa:Sv}{bG:Rule}{kV:Sv}{R:Bool}(hF:QW ah bG=some R):
   Fw.Spec Tryz.prog 175 [aa.v,(zg [(zi bG.From),(zi bG.To),kV.v])] [ag aa ah,ag kV bG.Map] (fun _:Unit=>(.bool R)) (fun _=>[]):=by
 refine Se 36 Tryz.func175 [.tmp 4] ?_
 intro H0 F0
 unfold QW at hF
 refine au ?_
 refine bM (fun k1=>?_)
 refine bg ?_
 obtain⟨o2,jq,hO3⟩:=bind_some hF
 refine dS [0,1,2,3,4,5,6,7,8,9,10,11,12,13,14,15,16,17,18,19,20,21,22,23,24,25,26,27,28,29,30,31] [0,0,2,7,15,31,31,95,255,511,1023,2047,4095,8191,2047,2047,34815,116735,247807,524287,1048575,2097151,4194303,8388607,4194303,4194303,37748735,121634815,255852543,536870911,1073741823,2147483647] [3,8,29] mixed (by decide+kernel) ?_
 refine yc (fun f' cs'=>∃(c28:Bool)(g:Fr),c28=o2/\f'=aN g [(4,(.bool c28))]/\aK cs' []) ?_ ?_
 · replace hF:=jq
   refine fT ?_
   refine bnd hF fun r4 hx5 hF=>jk (WG hx5) (fun _=>?_)
   refine du ?_
   rcases dK r4 with dB|dB
   · rw[dB]
     try rw[dB]at hF; dsimp only[bB,bA]at hF
     refine fT ?_
     refine bnd hF fun r8 dF hF=>jk (WG dF) (fun _=>?_)
     refine cB ?_
     rcases dK r8 with jf|jf
     · rw[jf]
       try rw[jf]at hF; dsimp only[bB,bA]at hF
       refine TC ?_
       refine zI hF fun tT alG mf hF=>?_
       refine Di mf (fun k16 Z6=>?_)
       refine Dl dG ?_
       refine fT ?_
       rcases dK (((bG.Map.length:Int):Int)==tT)with qP|qP
       · rw[qP]
         try rw[qP]at hF; dsimp only[bB,bA]at hF
         refine yx ?_
         refine zI hF fun n_ aIf mY hF=>?_
         refine Di mY (fun k23 j24=>?_)
         refine Dl dG ?_
         refine bnd hF fun jl ll hF=>jk (anO ll) (fun _=>?_)
         exact j3 hF
       rw[qP]
       try rw[qP]at hF; dsimp only[bB,bA]at hF
       exact j3 hF
     rw[jf]
     try rw[jf]at hF; dsimp only[bB,bA]at hF
     exact j3 hF
   rw[dB]
   try rw[dB]at hF; dsimp only[bB,bA]at hF
   exact j3 hF
 rintro _ _ ⟨c28,g29,rfl,rfl,hE⟩
 replace hF:=hO3
 try dsimp only at hF
 refine bH hE ?_
 exact ze hF
def Py(bG:Rule)(aC:List Int):Option (Bool):=
 (QW aC bG).bind fun r2=>
 some (!r2)
theorem aob{bG:Rule}{gK:Sv}{bD:Nat}{aC:List Int}{eU:Sv}{R:Bool}(hF:Py bG aC=some R):
   Fw.Spec Tryz.prog 174 [(zg [(zi bG.From),(zi bG.To),gK.v]),(pz bD)] [ag gK bG.Map,aQ bD 22 eU.v,ag eU aC] (fun _:Unit=>(.bool R)) (fun _=>[]):=by
 refine Se 8 Tryz.func174 [.tmp 3] ?_
 intro H0 F0
 unfold Py at hF
 refine au ?_
 refine bM (fun k1=>?_)
 refine aX ?_
 refine bnd hF fun r2 hx3 hF=>bJ (aqv hx3) (fun _=>?_)
 exact ze hF
def LJ(aC:List Int):List Rule->Nat->Option (Int)
 |[],k4=>some (-1)
 |x6::aJ,k4=>(Py x6 aC).bind fun r16=>
   if r16 then (
     some (k4:Int))
   else (
     LJ aC aJ (k4+1))
def VH(ah:List Rule)(aC:List Int):Option (Int):=
 LJ aC ah 0
theorem amS{ah:List Rule}{aa:Sv}{bD:Nat}{aC:List Int}{eU:Sv}{R:Int}(hF:VH ah aC=some R):
   Fw.Spec Tryz.prog 240 [aa.v,(.func (.func 174) [].toArray [(pz bD)].toArray)] [dV aa ah,aQ bD 22 eU.v,ag eU aC] (fun _:Unit=>(zi R)) (fun _=>[]):=by
 refine Se 19 Tryz.func240 [.tmp 4] ?_
 intro H0 F0
 unfold VH at hF
 refine eG ?_
 refine aY (bK (m:=ah.length) (fun m2 f' cs'=>∃(g:Fr)(k4:Nat)(aJ:List Rule),m2=aJ.length/\f'=aN g [(0,aa.v),(1,(.func (.func 174) [].toArray [(pz bD)].toArray)),(7,(zi (ah.length:Int))),(8,(zi (k4:Int)))]/\List.drop k4 ah=aJ/\aK cs' [dV aa ah,aQ bD 22 eU.v,ag eU aC]/\LJ aC aJ k4=some R) ⟨_,0,_,rfl,ay,rfl,ax,hF⟩ ?_)
 rintro m2 _ _ ⟨g3,k4,aJ,rfl,rfl,hd7,hE,hF⟩
 refine Kb hE ah (fun jV=>?_)
 rcases aJ with _|⟨x6,aJ⟩
 · have fB:=dn hd7
   rw[LJ]at hF
   refine aP ?_
   refine cO ?_
   exact ze hF
 obtain⟨fB,dF,fw⟩:=bW hd7
 rw[LJ]at hF
 refine aP ?_
 refine cK ?_
 refine jD ?_
 refine Ai dF (fun k13 lY=>?_)
 refine iw (zo x6) AV (fun jm=>?_)
 refine bnd hF fun r16 iX hF=>mX (.rd .h rfl (.rd .q3 rfl (.rd .q4 rfl .nil))) (lg awV.h (.tmp rfl rfl) bN (aob iX)) (fun _=>?_)
 refine au ?_
 refine Ci hF (fun mI hF=>?_) (fun mI hF=>?_)
 · exact ze hF
 refine aX ?_
 rw[wk k4]
 exact⟨_,bO _,_,k4+1,aJ,rfl,ay,fw,ax,hF⟩
def OL(ah:List Rule)(aC:List Int):Option (Bool):=
 (VH ah aC).bind fun r1=>
 some (decide ((0:Int)<=r1))
theorem amN{ah:List Rule}{aa:Sv}{bD:Nat}{aC:List Int}{eU:Sv}{R:Bool}(hF:OL ah aC=some R):
   Fw.Spec Tryz.prog 173 [aa.v,(.func (.func 174) [].toArray [(pz bD)].toArray)] [dV aa ah,aQ bD 22 eU.v,ag eU aC] (fun _:Unit=>(.bool R)) (fun _=>[]):=by
 refine Se 9 Tryz.func173 [.tmp 4] ?_
 intro H0 F0
 unfold OL at hF
 refine bu ?_
 refine bnd hF fun r1 hx2 hF=>bJ (amS hx2) (fun _=>?_)
 exact ze hF
def Qk(ah:List Int)(ai:List Rule):Option (Bool):=
 ((EL ah).bind fun r4=>
   bif r4 then (bif (decide (((ai.length:Int):Int)<=4))then ((OL ai ah).bind fun r9=>
       some (!r9))
     else (some false))
   else (some false)).bind fun o2=>
 match o2 with
 |c12=>some c12
theorem apc{ah:List Int}{aa:Sv}{ai:List Rule}{aA:Sv}{R:Bool}(hF:Qk ah ai=some R):
   Fw.Spec Tryz.prog 89 [aa.v,aA.v] [ag aa ah,dV aA ai] (fun _:Unit=>(.bool R)) (fun _=>[]):=by
 refine Se 18 Tryz.func89 [.tmp 4] ?_
 intro H0 F0
 unfold Qk at hF
 refine au ?_
 refine bM (fun k1=>?_)
 refine bg ?_
 obtain⟨o2,jq,hO3⟩:=bind_some hF
 refine au ?_
 refine gG (fun f' cs'=>∃(c12:Bool)(g:Fr),c12=o2/\f'=aN g [(4,(.bool c12))]/\aK cs' []) ?_ ?_
 · replace hF:=jq
   refine au ?_
   refine bnd hF fun r4 hx5 hF=>bJ (We hx5) (fun _=>?_)
   refine au ?_
   rcases dK r4 with dB|dB
   · rw[dB]
     try rw[dB]at hF; dsimp only[bB,bA]at hF
     refine eD ?_
     rcases dK (decide (((ai.length:Int):Int)<=4))with fG|fG
     · rw[fG]
       try rw[fG]at hF; dsimp only[bB,bA]at hF
       refine bC ?_
       refine aO (rC (fn:=.func 174) (vs:=[]) (us:=[(pz k1)]) .nil bN) ?_
       refine au ?_
       refine bnd hF fun r9 fU hF=>bJ (amN fU) (fun _=>?_)
       exact dw hF
     rw[fG]
     try rw[fG]at hF; dsimp only[bB,bA]at hF
     exact dw hF
   rw[dB]
   try rw[dB]at hF; dsimp only[bB,bA]at hF
   exact dw hF
 rintro _ _ ⟨c12,g13,rfl,rfl,hE⟩
 replace hF:=hO3
 try dsimp only at hF
 refine bH hE ?_
 exact ze hF
def EM(ah:List Int)(ai:List Method)(bL:List Rule):Option (Bool):=
 ((MB ah ai).bind fun r3=>
   bif r3 then ((Qk ah bL).bind fun r7=>
     some r7)
   else (some false)).bind fun o1=>
 match o1 with
 |c10=>some c10
theorem Wi{ah:List Int}{aa:Sv}{ai:List Method}{aA:Sv}{bL:List Rule}{bi:Sv}{R:Bool}(hF:EM ah ai bL=some R):
   Fw.Spec Tryz.prog 37 [aa.v,aA.v,bi.v] [ag aa ah,dO aA ai,dV bi bL] (fun _:Unit=>(.bool R)) (fun _=>[]):=by
 refine Se 15 Tryz.func37 [.tmp 6] ?_
 intro H0 F0
 unfold EM at hF
 refine bC ?_
 obtain⟨o1,sW,hO2⟩:=bind_some hF
 refine au ?_
 refine gG (fun f' cs'=>∃(c10:Bool)(g:Fr),c10=o1/\f'=aN g [(6,(.bool c10))]/\aK cs' []) ?_ ?_
 · replace hF:=sW
   refine bg ?_
   refine bnd hF fun r3 hx4 hF=>bJ (afD hx4) (fun _=>?_)
   refine au ?_
   rcases dK r3 with gD|gD
   · rw[gD]
     try rw[gD]at hF; dsimp only[bB,bA]at hF
     refine aX ?_
     refine bnd hF fun r7 pJ hF=>bJ (apc pJ) (fun _=>?_)
     exact dw hF
   rw[gD]
   try rw[gD]at hF; dsimp only[bB,bA]at hF
   exact dw hF
 rintro _ _ ⟨c10,g11,rfl,rfl,hE⟩
 replace hF:=hO2
 try dsimp only at hF
 refine bH hE ?_
 exact ze hF
def EU(bT:Int):Option (Bool):=
 (pX bT 0 9).bind fun r1=>
 some r1
theorem Pz{bT:Int}{R:Bool}(hF:EU bT=some R):
   Fw.Spec Tryz.prog 199 [(zi bT)] [] (fun _:Unit=>(.bool R)) (fun _=>[]):=by
 refine Se 5 Tryz.func199 [.tmp 2] ?_
 intro H0 F0
 unfold EU at hF
 refine aX ?_
 refine bnd hF fun r1 hx2 hF=>bJ (t_ hx2) (fun _=>?_)
 exact ze hF
def Fq(jb:Int):Option (Bool):=
 (pX jb 10 17).bind fun r1=>
 some r1
theorem Ql{jb:Int}{R:Bool}(hF:Fq jb=some R):
   Fw.Spec Tryz.prog 245 [(zi jb)] [] (fun _:Unit=>(.bool R)) (fun _=>[]):=by
 refine Se 5 Tryz.func245 [.tmp 2] ?_
 intro H0 F0
 unfold Fq at hF
 refine aX ?_
 refine bnd hF fun r1 hx2 hF=>bJ (t_ hx2) (fun _=>?_)
 exact ze hF
def QX(jb:Int):Option (Bool):=
 ((EU jb).bind fun r3=>
   bif r3 then (some true)
   else ((Fq jb).bind fun r7=>
     some r7)).bind fun o1=>
 match o1 with
 |c10=>some c10
theorem aqw{jb:Int}{R:Bool}(hF:QX jb=some R):
   Fw.Spec Tryz.prog 244 [(zi jb)] [] (fun _:Unit=>(.bool R)) (fun _=>[]):=by
 refine Se 9 Tryz.func244 [.tmp 2] ?_
 intro H0 F0
 unfold QX at hF
 refine bC ?_
 obtain⟨o1,sW,hO2⟩:=bind_some hF
 refine au ?_
 refine gG (fun f' cs'=>∃(c10:Bool)(g:Fr),c10=o1/\f'=aN g [(2,(.bool c10))]/\aK cs' []) ?_ ?_
 · replace hF:=sW
   refine au ?_
   refine bnd hF fun r3 hx4 hF=>bJ (Pz hx4) (fun _=>?_)
   refine au ?_
   rcases dK r3 with gD|gD
   · rw[gD]
     try rw[gD]at hF; dsimp only[bB,bA]at hF
     exact dw hF
   rw[gD]
   try rw[gD]at hF; dsimp only[bB,bA]at hF
   refine bC ?_
   refine bnd hF fun r7 pJ hF=>bJ (Ql pJ) (fun _=>?_)
   exact dw hF
 rintro _ _ ⟨c10,g11,rfl,rfl,hE⟩
 replace hF:=hO2
 try dsimp only at hF
 refine bH hE ?_
 exact ze hF
def PD(jb:Int):Option (Bool):=
 (QX jb).bind fun r1=>
 some (!r1)
theorem aoc{jb:Int}{R:Bool}(hF:PD jb=some R):
   Fw.Spec Tryz.prog 243 [(zi jb)] [] (fun _:Unit=>(.bool R)) (fun _=>[]):=by
 refine Se 6 Tryz.func243 [.tmp 2] ?_
 intro H0 F0
 unfold PD at hF
 refine aX ?_
 refine bnd hF fun r1 hx2 hF=>bJ (aqw hx2) (fun _=>?_)
 exact ze hF
def LY:List Int->Nat->Option (Int)
 |[],k4=>some (-1)
 |x6::aJ,k4=>(PD x6).bind fun ik=>
   if ik then (
     some (k4:Int))
   else (
     LY aJ (k4+1))
def VT(ah:List Int):Option (Int):=
 LY ah 0
theorem ane{ah:List Int}{aa:Sv}{R:Int}(hF:VT ah=some R):
   Fw.Spec Tryz.prog 242 [aa.v,(.func (.func 243) [].toArray [].toArray)] [ag aa ah] (fun _:Unit=>(zi R)) (fun _=>[]):=by
 refine Se 19 Tryz.func242 [.tmp 4] ?_
 intro H0 F0
 unfold VT at hF
 refine eG ?_
 refine aY (bK (m:=ah.length) (fun m2 f' cs'=>∃(g:Fr)(k4:Nat)(aJ:List Int),m2=aJ.length/\f'=aN g [(0,aa.v),(1,(.func (.func 243) [].toArray [].toArray)),(7,(zi (ah.length:Int))),(8,(zi (k4:Int)))]/\List.drop k4 ah=aJ/\aK cs' [ag aa ah]/\LY aJ k4=some R) ⟨_,0,_,rfl,ay,rfl,ax,hF⟩ ?_)
 rintro m2 _ _ ⟨g3,k4,aJ,rfl,rfl,hd7,hE,hF⟩
 refine Kb hE ah (fun jV=>?_)
 rcases aJ with _|⟨x6,aJ⟩
 · have fB:=dn hd7
   rw[LY]at hF
   refine aP ?_
   refine cO ?_
   exact ze hF
 obtain⟨fB,dF,fw⟩:=bW hd7
 rw[LY]at hF
 refine aP ?_
 refine cK ?_
 refine jD ?_
 refine Ai dF (fun k13 lY=>?_)
 refine Al dG ?_
 refine bnd hF fun ik hx16 hF=>mX .nil (lg awX.h (.tmp rfl rfl) bN (aoc hx16)) (fun _=>?_)
 refine au ?_
 refine Ci hF (fun tC hF=>?_) (fun tC hF=>?_)
 · exact ze hF
 refine aX ?_
 rw[wk k4]
 exact⟨_,bO _,_,k4+1,aJ,rfl,ay,fw,ax,hF⟩
def VN(ah:List Int):Option (Bool):=
 (VT ah).bind fun r1=>
 some (decide ((0:Int)<=r1))
theorem am7{ah:List Int}{aa:Sv}{R:Bool}(hF:VN ah=some R):
   Fw.Spec Tryz.prog 176 [aa.v,(.func (.func 243) [].toArray [].toArray)] [ag aa ah] (fun _:Unit=>(.bool R)) (fun _=>[]):=by
 refine Se 9 Tryz.func176 [.tmp 4] ?_
 intro H0 F0
 unfold VN at hF
 refine bu ?_
 refine bnd hF fun r1 hx2 hF=>bJ (ane hx2) (fun _=>?_)
 exact ze hF
def Qm(ai:List Int):Option (Bool):=
 (VN ai).bind fun r1=>
 some (!r1)
theorem apd{ai:List Int}{aa:Sv}{R:Bool}(hF:Qm ai=some R):
   Fw.Spec Tryz.prog 180 [aa.v] [ag aa ai] (fun _:Unit=>(.bool R)) (fun _=>[]):=by
 refine Se 6 Tryz.func180 [.tmp 2] ?_
 intro H0 F0
 unfold Qm at hF
 refine aX ?_
 refine bnd hF fun r1 hx2 hF=>bJ (am7 hx2) (fun _=>?_)
 exact ze hF
def QY(ah:List Int)(ae:Atom):Option (Bool):=
 ((E9 ah ae.Rel).bind fun r4=>
   bif r4 then ((ix ah ae.Rel).bind fun x8=>
     bif (((ae.Terms.length:Int):Int)==x8)then ((Qm ae.Terms).bind fun ik=>
       some ik)
     else (some false))
   else (some false)).bind fun o2=>
 match o2 with
 |c18=>some c18
theorem aqx{ah:List Int}{aa:Sv}{ae:Atom}{aW:Sv}{R:Bool}(hF:QY ah ae=some R):
   Fw.Spec Tryz.prog 94 [aa.v,(zg [(zi ae.Rel),aW.v])] [ag aa ah,ag aW ae.Terms] (fun _:Unit=>(.bool R)) (fun _=>[]):=by
 refine Se 25 Tryz.func94 [.tmp 4] ?_
 intro H0 F0
 unfold QY at hF
 refine au ?_
 refine bM (fun k1=>?_)
 refine bg ?_
 obtain⟨o2,jq,hO3⟩:=bind_some hF
 refine dS [0,1,2,3,4,5,6,7,8,9,10,11,12,13,14,15,16,17,18,19,20] [0,0,2,7,15,31,63,127,31,31,543,1823,3871,8191,16383,32767,65535,131071,262143,524287,1048575] [3,18] mixed (by decide+kernel) ?_
 refine yc (fun f' cs'=>∃(c18:Bool)(g:Fr),c18=o2/\f'=aN g [(4,(.bool c18))]/\aK cs' []) ?_ ?_
 · replace hF:=jq
   refine fT ?_
   refine bnd hF fun r4 hx5 hF=>jk (WG hx5) (fun _=>?_)
   refine du ?_
   rcases dK r4 with dB|dB
   · rw[dB]
     try rw[dB]at hF; dsimp only[bB,bA]at hF
     refine TC ?_
     refine zI hF fun x8 amd uQ hF=>?_
     refine Di uQ (fun k12 j13=>?_)
     refine Dl dG ?_
     refine fT ?_
     rcases dK (((ae.Terms.length:Int):Int)==x8)with qV|qV
     · rw[qV]
       try rw[qV]at hF; dsimp only[bB,bA]at hF
       refine cB ?_
       refine bnd hF fun ik hx16 hF=>jk (apd hx16) (fun _=>?_)
       exact j3 hF
     rw[qV]
     try rw[qV]at hF; dsimp only[bB,bA]at hF
     exact j3 hF
   rw[dB]
   try rw[dB]at hF; dsimp only[bB,bA]at hF
   exact j3 hF
 rintro _ _ ⟨c18,g19,rfl,rfl,hE⟩
 replace hF:=hO3
 try dsimp only at hF
 refine bH hE ?_
 exact ze hF
def PV(ae:Atom)(aC:List Int):Option (Bool):=
 (QY aC ae).bind fun r2=>
 some (!r2)
theorem aoE{ae:Atom}{aM:Sv}{bD:Nat}{aC:List Int}{eU:Sv}{R:Bool}(hF:PV ae aC=some R):
   Fw.Spec Tryz.prog 93 [(zg [(zi ae.Rel),aM.v]),(pz bD)] [ag aM ae.Terms,aQ bD 22 eU.v,ag eU aC] (fun _:Unit=>(.bool R)) (fun _=>[]):=by
 refine Se 8 Tryz.func93 [.tmp 3] ?_
 intro H0 F0
 unfold PV at hF
 refine au ?_
 refine bM (fun k1=>?_)
 refine aX ?_
 refine bnd hF fun r2 hx3 hF=>bJ (aqx hx3) (fun _=>?_)
 exact ze hF
def LK(aC:List Int):List Atom->Nat->Option (Int)
 |[],k4=>some (-1)
 |x6::aJ,k4=>(PV x6 aC).bind fun r16=>
   if r16 then (
     some (k4:Int))
   else (
     LK aC aJ (k4+1))
def VJ(ah:List Atom)(aC:List Int):Option (Int):=
 LK aC ah 0
theorem amV{ah:List Atom}{aa:Sv}{bD:Nat}{aC:List Int}{eU:Sv}{R:Int}(hF:VJ ah aC=some R):
   Fw.Spec Tryz.prog 178 [aa.v,(.func (.func 93) [].toArray [(pz bD)].toArray)] [bZ aa ah,aQ bD 22 eU.v,ag eU aC] (fun _:Unit=>(zi R)) (fun _=>[]):=by
 refine Se 19 Tryz.func178 [.tmp 4] ?_
 intro H0 F0
 unfold VJ at hF
 refine eG ?_
 refine aY (bK (m:=ah.length) (fun m2 f' cs'=>∃(g:Fr)(k4:Nat)(aJ:List Atom),m2=aJ.length/\f'=aN g [(0,aa.v),(1,(.func (.func 93) [].toArray [(pz bD)].toArray)),(7,(zi (ah.length:Int))),(8,(zi (k4:Int)))]/\List.drop k4 ah=aJ/\aK cs' [bZ aa ah,aQ bD 22 eU.v,ag eU aC]/\LK aC aJ k4=some R) ⟨_,0,_,rfl,ay,rfl,ax,hF⟩ ?_)
 rintro m2 _ _ ⟨g3,k4,aJ,rfl,rfl,hd7,hE,hF⟩
 refine Kb hE ah (fun jV=>?_)
 rcases aJ with _|⟨x6,aJ⟩
 · have fB:=dn hd7
   rw[LK]at hF
   refine aP ?_
   refine cO ?_
   exact ze hF
 obtain⟨fB,dF,fw⟩:=bW hd7
 rw[LK]at hF
 refine aP ?_
 refine cK ?_
 refine jD ?_
 refine Ai dF (fun k13 lY=>?_)
 refine iw (tZ x6) vw (fun jm=>?_)
 refine bnd hF fun r16 iX hF=>mX (.rd .h rfl (.rd .q3 rfl (.rd .q4 rfl .nil))) (lg az2.h (.tmp rfl rfl) bN (aoE iX)) (fun _=>?_)
 refine au ?_
 refine Ci hF (fun mI hF=>?_) (fun mI hF=>?_)
 · exact ze hF
 refine aX ?_
 rw[wk k4]
 exact⟨_,bO _,_,k4+1,aJ,rfl,ay,fw,ax,hF⟩
def OM(ah:List Atom)(aC:List Int):Option (Bool):=
 (VJ ah aC).bind fun r1=>
 some (decide ((0:Int)<=r1))
theorem amP{ah:List Atom}{aa:Sv}{bD:Nat}{aC:List Int}{eU:Sv}{R:Bool}(hF:OM ah aC=some R):
   Fw.Spec Tryz.prog 92 [aa.v,(.func (.func 93) [].toArray [(pz bD)].toArray)] [bZ aa ah,aQ bD 22 eU.v,ag eU aC] (fun _:Unit=>(.bool R)) (fun _=>[]):=by
 refine Se 9 Tryz.func92 [.tmp 4] ?_
 intro H0 F0
 unfold OM at hF
 refine bu ?_
 refine bnd hF fun r1 hx2 hF=>bJ (amV hx2) (fun _=>?_)
 exact ze hF
def Hl(di:List Int):Option (List Int):=
 some (di.mergeSort fun x y=>decide (x<=y))
theorem aaf{di:List Int}{aa:Sv}{rQ:List Nat}{R:List Int}(hF:Hl di=some R):
   Fw.Spec Tryz.prog 268 [aa.v] [a_ rQ aa di] (fun _:List Nat=>(.tuple [].toArray)) (fun p=>[a_ p aa R]):=by
 cases hF
 exact arI cZ.h (Go.Proofs.Any.slices_Sort_int_none aiM) (Go.Proofs.Any.slices_Sort_int aiM)
def Hf(di:List Int):Option (List Int):=
 some (Lib.compact di)
theorem aad{di:List Int}{aa:Sv}{rQ:List Nat}{R:List Int}(hF:Hf di=some R):
   Fw.Spec Tryz.prog 269 [aa.v] [a_ rQ aa di] (fun p:Sv×List Nat=>p.1.v) (fun p=>[a_ p.2 p.1 R]):=by
 cases hF
 exact apA cZ.h aq5 rfl (Go.Proofs.Any.slices_Compact_int_empty ah6) (Go.Proofs.Any.slices_Compact_int ah6)
def DY:List Int->Nat->(List Int)->Option ((List Int))
 |[],gW,jv=>some jv
 |lw::iJ,gW,jv=>((Fq lw).bind fun lu=>
     if lu then (
       (app jv ([lw]:List Int)).bind fun z52=>
       some z52)
     else (
       some jv)).bind fun Li=>
   match Li with
   |za=>DY iJ (gW+1) za
def DZ:List Atom->Nat->(List Int)->Option ((List Int))
 |[],k8,c2=>(Hl c2).bind fun d_=>
   (Hf d_).bind fun yR=>
   some yR
 |dz::dE,k8,c2=>(DY dz.Terms 0 c2).bind fun DF=>
   match DF with
   |ry=>DZ dE (k8+1) ry
def V4(fF:List Atom):Option ((List Int)):=
 DZ fF 0 ([]:List Int)
theorem anB{fF:List Atom}{aa:Sv}{R:(List Int)}(hF:V4 fF=some R):
   Fw.Spec Tryz.prog 198 [aa.v,(.func (.func 245) [].toArray [].toArray)] [bZ aa fF] (fun p:Sv×List Nat=>p.1.v) (fun p=>[a_ p.2 p.1 R]):=by
 refine Se 37 Tryz.func198 [.tmp 4] ?_
 intro H0 F0
 unfold V4 at hF
 refine aP ?_
 refine dx rfl (bV (g:=true) cz.h cZ.h .nil (vs:=[]) rfl rfl rfl (by simp)) (fun k1=>?_)
 refine dH (.cons .h .nil) (bY (Ro:=(aj aH)) (E:=3) (F:=[]) (xs:=([]:List Int)) bX rfl rfl) ?_
 refine eD ?_
 refine aY (bK (m:=fF.length) (fun m6 f' cs'=>∃(g:Fr)(k8:Nat)(dE:List Atom)(c2:List Int)(v3:Sv)(F4:List Nat),m6=dE.length/\f'=aN g [(1,(.func (.func 245) [].toArray [].toArray)),(5,v3.v),(11,aa.v),(12,(zi (fF.length:Int))),(13,(zi (k8:Int)))]/\List.drop k8 fF=dE/\aK cs' [a_ F4 v3 c2,bZ aa fF]/\DZ dE k8 c2=some R) ⟨_,0,_,_,⟨(some ⟨k1,0,none⟩),0,1⟩,(k1::[]),rfl,ay,rfl,ax,hF⟩ ?_)
 rintro m6 _ _ ⟨g7,k8,dE,c2,v3,F4,rfl,rfl,fZ,hE,hF⟩
 refine Kb hE fF (fun Cs=>?_)
 rcases dE with _|⟨dz,dE⟩
 · have o7:=dn fZ
   rw[DZ]at hF
   refine aP ?_
   refine cO ?_
   refine bu ?_
   refine bnd hF fun d_ gq hF=>fq (aaf gq) (fun r_=>?_)
   refine bC ?_
   refine bnd hF fun yR yB hF=>fq (aad yB) (fun mP=>?_)
   refine bC ?_
   cases hF
   exact Er (mP.1,mP.2)
 obtain⟨o7,iM,o9⟩:=bW fZ
 rw[DZ]at hF
 refine aP ?_
 refine cK ?_
 refine au ?_
 obtain⟨DF,ac',aem⟩:=bind_some hF
 refine fD (fun f' cs'=>∃(ry:List Int)(v62:Sv)(Lj:List Nat)(g:Fr),ry=DF/\f'=aN g [(1,(.func (.func 245) [].toArray [].toArray)),(5,v62.v),(11,aa.v),(12,(zi (fF.length:Int))),(13,(zi (k8:Int)))]/\aK cs' [a_ Lj v62 ry,bZ aa fF]) ?_ ?_
 · replace hF:=ac'
   refine aY (cu (pY (a:=dz) xe.h qa.h.sz (.tmp rfl rfl) (.tmp rfl rfl) (.t .h) (Int.natCast_nonneg k8) iM (fun k25 j26=>?_)))
   refine iw (tZ dz) vw (fun p27=>?_)
   refine dJ (fun k28=>?_)
   refine As (zg [(zi dz.Rel),p27.v]) ?_
   refine bF ?_
   refine aY (bK (m:=dz.Terms.length) (fun y5 f' cs'=>∃(g:Fr)(gW:Nat)(iJ jv:List Int)(v30:Sv)(rA:List Nat),y5=iJ.length/\f'=aN g [(1,(.func (.func 245) [].toArray [].toArray)),(5,v30.v),(11,aa.v),(12,(zi (fF.length:Int))),(13,(zi (k8:Int))),(18,p27.v),(19,(zi (dz.Terms.length:Int))),(20,(zi (gW:Int)))]/\List.drop gW dz.Terms=iJ/\aK cs' [a_ rA v30 jv,bZ aa fF,ag p27 dz.Terms]/\DY iJ gW jv=some DF) ⟨_,0,_,_,v3,F4,rfl,ay,rfl,ax,hF⟩ ?_)
   rintro y5 _ _ ⟨g34,gW,iJ,jv,v30,rA,rfl,rfl,hd38,hE,hF⟩
   refine Kb hE dz.Terms (fun acL=>?_)
   rcases iJ with _|⟨lw,iJ⟩
   · have KE:=dn hd38
     rw[DY]at hF
     refine aP ?_
     refine cO ?_
     refine aP ?_
     cases hF
     exact⟨_,v30,rA,_,rfl,ay,ax⟩
   obtain⟨KE,vV,zZ⟩:=bW hd38
   rw[DY]at hF
   refine aP ?_
   refine cK ?_
   refine au ?_
   obtain⟨Li,ada,aen⟩:=bind_some hF
   refine fD (fun f' cs'=>∃(za:List Int)(v57:Sv)(wh:List Nat)(g:Fr),za=Li/\f'=aN g [(1,(.func (.func 245) [].toArray [].toArray)),(5,v57.v),(11,aa.v),(12,(zi (fF.length:Int))),(13,(zi (k8:Int))),(18,p27.v),(19,(zi (dz.Terms.length:Int))),(20,(zi (gW:Int)))]/\aK cs' [a_ wh v57 za,bZ aa fF,ag p27 dz.Terms]) ?_ ?_
   · replace hF:=ada
     refine aY (cu (pY (a:=lw) cz.h cZ.h.sz (.tmp rfl rfl) (.tmp rfl rfl) .q2 (Int.natCast_nonneg gW) vV (fun Z9 j47=>?_)))
     refine Al dG ?_
     refine aX ?_
     refine bnd hF fun lu kU hF=>mX .nil (lg awZ.h (.tmp rfl rfl) bN (Ql kU)) (fun _=>?_)
     refine au ?_
     refine Ci hF (fun TW hF=>?_) (fun TW hF=>?_)
     · refine bC ?_
       refine dx rfl (bV (g:=true) cz.h cZ.h bN (vs:=[(zi lw)]) rfl rfl rfl (by intro v hv; simp at hv; rcases hv with rfl<;>rfl)) (fun rY=>?_)
       refine dH (.cons .h .nil) (bY (Ro:=(aj aH)) (E:=3) (F:=([]++[])) (xs:=([lw]:List Int)) (eF (jd (fun _=>rfl)) bX dm) rfl rfl) ?_
       refine bnd hF fun z52 Kn hF=>dU (.cons .q2 (.cons .h .nil)) (ek (Ro:=(aj aH)) cz.h iL cZ.h rfl rfl rfl (.tmp rfl rfl) (.tmp rfl rfl) Kn fM) (fun p54=>?_)
       refine bg ?_
       cases hF
       exact⟨_,p54.1,p54.2,_,rfl,ay,ax⟩
     refine au ?_
     cases hF
     exact⟨_,v30,rA,_,rfl,ay,ax⟩
   rintro _ _ ⟨za,v57,wh,g60,rfl,rfl,hE⟩
   replace hF:=aen
   try dsimp only at hF
   refine bH hE ?_
   refine aP ?_
   rw[wk gW]
   exact⟨_,bO _,_,gW+1,iJ,_,v57,wh,rfl,ay,zZ,ax,hF⟩
 rintro _ _ ⟨ry,v62,Lj,g65,rfl,rfl,hE⟩
 replace hF:=aem
 try dsimp only at hF
 refine bH hE ?_
 refine aP ?_
 rw[wk k8]
 exact⟨_,bO _,_,k8+1,dE,_,v62,Lj,rfl,ay,o9,ax,hF⟩
def Nr(ak:aV):Option ((List Int)):=
 (V4 ak.Atoms).bind fun r2=>
 some r2
theorem agI{ak:aV}{aa aM:Sv}{R:(List Int)}(hF:Nr ak=some R):
   Fw.Spec Tryz.prog 181 [(zg [aa.v,aM.v])] [ag aa ak.Head,bZ aM ak.Atoms] (fun p:Sv×List Nat=>p.1.v) (fun p=>[a_ p.2 p.1 R]):=by
 refine Se 6 Tryz.func181 [.tmp 2] ?_
 intro H0 F0
 unfold Nr at hF
 refine au ?_
 refine bM (fun k1=>?_)
 refine aX ?_
 refine bnd hF fun r2 hx3 hF=>fq (anB hx3) (fun p4=>?_)
 refine bC ?_
 cases hF
 exact Er (p4.1,p4.2)
def L9(iU:Int):List Int->Nat->Option (Int)
 |[],k4=>some (-1)
 |x6::aJ,k4=>if ((iU:Int)==x6)then (
     some (k4:Int))
   else (
     L9 iU aJ (k4+1))
def Mc(ah:List Int)(iU:Int):Option (Int):=
 L9 iU ah 0
theorem aeV{ah:List Int}{aa:Sv}{iU R:Int}(hF:Mc ah iU=some R):
   Fw.Spec Tryz.prog 246 [aa.v,(zi iU)] [ag aa ah] (fun _:Unit=>(zi R)) (fun _=>[]):=by
 refine Se 19 Tryz.func246 [.tmp 4] ?_
 intro H0 F0
 unfold Mc at hF
 refine eG ?_
 refine aY (bK (m:=ah.length) (fun m2 f' cs'=>∃(g:Fr)(k4:Nat)(aJ:List Int),m2=aJ.length/\f'=aN g [(0,aa.v),(1,(zi iU)),(7,(zi (ah.length:Int))),(8,(zi (k4:Int)))]/\List.drop k4 ah=aJ/\aK cs' [ag aa ah]/\L9 iU aJ k4=some R) ⟨_,0,_,rfl,ay,rfl,ax,hF⟩ ?_)
 rintro m2 _ _ ⟨g3,k4,aJ,rfl,rfl,hd7,hE,hF⟩
 refine Kb hE ah (fun jV=>?_)
 rcases aJ with _|⟨x6,aJ⟩
 · have fB:=dn hd7
   rw[L9]at hF
   refine aP ?_
   refine cO ?_
   exact ze hF
 obtain⟨fB,dF,fw⟩:=bW hd7
 rw[L9]at hF
 refine aP ?_
 refine cK ?_
 refine jD ?_
 refine Ai dF (fun k13 lY=>?_)
 refine Al dG ?_
 refine bg ?_
 refine Ci hF (fun TN hF=>?_) (fun TN hF=>?_)
 · exact ze hF
 refine aX ?_
 rw[wk k4]
 exact⟨_,bO _,_,k4+1,aJ,rfl,ay,fw,ax,hF⟩
def G_(ah:List Int)(iU:Int):Option (Bool):=
 (Mc ah iU).bind fun r1=>
 some (decide ((0:Int)<=r1))
theorem aab{ah:List Int}{aa:Sv}{iU:Int}{R:Bool}(hF:G_ ah iU=some R):
   Fw.Spec Tryz.prog 183 [aa.v,(zi iU)] [ag aa ah] (fun _:Unit=>(.bool R)) (fun _=>[]):=by
 refine Se 9 Tryz.func183 [.tmp 4] ?_
 intro H0 F0
 unfold G_ at hF
 refine bu ?_
 refine bnd hF fun r1 hx2 hF=>bJ (aeV hx2) (fun _=>?_)
 exact ze hF
def PW(jb:Int)(aC:List Int):Option (Bool):=
 (G_ aC jb).bind fun r1=>
 some (!r1)
theorem aoF{jb:Int}{bD:Nat}{aC:List Int}{eU:Sv}{R:Bool}(hF:PW jb aC=some R):
   Fw.Spec Tryz.prog 182 [(zi jb),(pz bD)] [aQ bD 22 eU.v,ag eU aC] (fun _:Unit=>(.bool R)) (fun _=>[]):=by
 refine Se 8 Tryz.func182 [.tmp 3] ?_
 intro H0 F0
 unfold PW at hF
 refine bu ?_
 refine bnd hF fun r1 hx2 hF=>bJ (aab hx2) (fun _=>?_)
 exact ze hF
def LZ(aC:List Int):List Int->Nat->Option (Int)
 |[],k4=>some (-1)
 |x6::aJ,k4=>(PW x6 aC).bind fun ik=>
   if ik then (
     some (k4:Int))
   else (
     LZ aC aJ (k4+1))
def VU(ah:List Int)(aC:List Int):Option (Int):=
 LZ aC ah 0
theorem anf{ah:List Int}{aa:Sv}{bD:Nat}{aC:List Int}{eU:Sv}{R:Int}(hF:VU ah aC=some R):
   Fw.Spec Tryz.prog 242 [aa.v,(.func (.func 182) [].toArray [(pz bD)].toArray)] [ag aa ah,aQ bD 22 eU.v,ag eU aC] (fun _:Unit=>(zi R)) (fun _=>[]):=by
 refine Se 19 Tryz.func242 [.tmp 4] ?_
 intro H0 F0
 unfold VU at hF
 refine eG ?_
 refine aY (bK (m:=ah.length) (fun m2 f' cs'=>∃(g:Fr)(k4:Nat)(aJ:List Int),m2=aJ.length/\f'=aN g [(0,aa.v),(1,(.func (.func 182) [].toArray [(pz bD)].toArray)),(7,(zi (ah.length:Int))),(8,(zi (k4:Int)))]/\List.drop k4 ah=aJ/\aK cs' [ag aa ah,aQ bD 22 eU.v,ag eU aC]/\LZ aC aJ k4=some R) ⟨_,0,_,rfl,ay,rfl,ax,hF⟩ ?_)
 rintro m2 _ _ ⟨g3,k4,aJ,rfl,rfl,hd7,hE,hF⟩
 refine Kb hE ah (fun jV=>?_)
 rcases aJ with _|⟨x6,aJ⟩
 · have fB:=dn hd7
   rw[LZ]at hF
   refine aP ?_
   refine cO ?_
   exact ze hF
 obtain⟨fB,dF,fw⟩:=bW hd7
 rw[LZ]at hF
 refine aP ?_
 refine cK ?_
 refine jD ?_
 refine Ai dF (fun k13 lY=>?_)
 refine Al dG ?_
 refine bnd hF fun ik hx16 hF=>mX (.rd .q2 rfl (.rd .q3 rfl .nil)) (lg aw0.h (.tmp rfl rfl) bN (aoF hx16)) (fun _=>?_)
 refine au ?_
 refine Ci hF (fun tC hF=>?_) (fun tC hF=>?_)
 · exact ze hF
 refine aX ?_
 rw[wk k4]
 exact⟨_,bO _,_,k4+1,aJ,rfl,ay,fw,ax,hF⟩
def OV(ah:List Int)(aC:List Int):Option (Bool):=
 (VU ah aC).bind fun r1=>
 some (decide ((0:Int)<=r1))
theorem am_{ah:List Int}{aa:Sv}{bD:Nat}{aC:List Int}{eU:Sv}{R:Bool}(hF:OV ah aC=some R):
   Fw.Spec Tryz.prog 176 [aa.v,(.func (.func 182) [].toArray [(pz bD)].toArray)] [ag aa ah,aQ bD 22 eU.v,ag eU aC] (fun _:Unit=>(.bool R)) (fun _=>[]):=by
 refine Se 9 Tryz.func176 [.tmp 4] ?_
 intro H0 F0
 unfold OV at hF
 refine bu ?_
 refine bnd hF fun r1 hx2 hF=>bJ (anf hx2) (fun _=>?_)
 exact ze hF
def W9(ak:aV):Option (Bool):=
 (Nr ak).bind fun r2=>
 (bif (decide (((ak.Head.length:Int):Int)<=3))then ((OV ak.Head r2).bind fun DI=>
     some (!DI))
   else (some false)).bind fun o8=>
 match o8 with
 |c14=>some c14
theorem apQ{ak:aV}{aa aM:Sv}{R:Bool}(hF:W9 ak=some R):
   Fw.Spec Tryz.prog 95 [(zg [aa.v,aM.v])] [ag aa ak.Head,bZ aM ak.Atoms] (fun _:Unit=>(.bool R)) (fun _=>[]):=by
 refine Se 17 Tryz.func95 [.tmp 2] ?_
 intro H0 F0
 unfold W9 at hF
 refine au ?_
 refine bM (fun k1=>?_)
 refine aP ?_
 refine bnd hF fun r2 hx3 hF=>fq (agI hx3) (fun p4=>?_)
 refine dJ (fun k5=>?_)
 refine As p4.1.v ?_
 refine au ?_
 refine jM .h Fp ?_
 refine jM (.t .h) bq ?_
 obtain⟨o8,aBk,hO9⟩:=bind_some hF
 refine au ?_
 refine gG (fun f' cs'=>∃(c14:Bool)(g:Fr),c14=o8/\f'=aN g [(2,(.bool c14))]/\aK cs' []) ?_ ?_
 · replace hF:=aBk
   refine aX ?_
   rcases dK (decide (((ak.Head.length:Int):Int)<=3))with qW|qW
   · rw[qW]
     try rw[qW]at hF; dsimp only[bB,bA]at hF
     refine aX ?_
     refine aO (rC (fn:=.func 182) (vs:=[]) (us:=[(pz k5)]) .nil bN) ?_
     refine au ?_
     refine bnd hF fun DI Uz hF=>bJ (am_ Uz) (fun _=>?_)
     exact dw hF
   rw[qW]
   try rw[qW]at hF; dsimp only[bB,bA]at hF
   exact dw hF
 rintro _ _ ⟨c14,g15,rfl,rfl,hE⟩
 replace hF:=hO9
 try dsimp only at hF
 refine bH hE ?_
 exact ze hF
def AY(ah:List Int)(ak:aV):Option (Bool):=
 ((EL ah).bind fun r5=>
   bif r5 then ((pX (ak.Atoms.length:Int) 1 4).bind fun r9=>
     bif r9 then ((OM ak.Atoms ah).bind fun mK=>
       bif (!mK)then ((W9 ak).bind fun d_=>
         some d_)
       else (some false))
     else (some false))
   else (some false)).bind fun o3=>
 match o3 with
 |c20=>some c20
theorem PE{ah:List Int}{aa:Sv}{ak:aV}{aA aW:Sv}{R:Bool}(hF:AY ah ak=some R):
   Fw.Spec Tryz.prog 38 [aa.v,(zg [aA.v,aW.v])] [ag aa ah,ag aA ak.Head,bZ aW ak.Atoms] (fun _:Unit=>(.bool R)) (fun _=>[]):=by
 refine Se 24 Tryz.func38 [.tmp 4] ?_
 intro H0 F0
 unfold AY at hF
 refine au ?_
 refine bM (fun k1=>?_)
 refine bM (fun k2=>?_)
 refine bg ?_
 obtain⟨o3,vX,hO4⟩:=bind_some hF
 refine au ?_
 refine gG (fun f' cs'=>∃(c20:Bool)(g:Fr),c20=o3/\f'=aN g [(4,(.bool c20))]/\aK cs' []) ?_ ?_
 · replace hF:=vX
   refine au ?_
   refine bnd hF fun r5 hx6 hF=>bJ (We hx6) (fun _=>?_)
   refine au ?_
   rcases dK r5 with fG|fG
   · rw[fG]
     try rw[fG]at hF; dsimp only[bB,bA]at hF
     refine bF ?_
     refine bnd hF fun r9 fU hF=>bJ (t_ fU) (fun _=>?_)
     refine bg ?_
     rcases dK r9 with kv|kv
     · rw[kv]
       try rw[kv]at hF; dsimp only[bB,bA]at hF
       refine aX ?_
       refine aO (rC (fn:=.func 93) (vs:=[]) (us:=[(pz k1)]) .nil bN) ?_
       refine au ?_
       refine bnd hF fun mK iA hF=>bJ (amP iA) (fun _=>?_)
       refine aP ?_
       rcases dK (!mK)with qX|qX
       · rw[qX]
         try rw[qX]at hF; dsimp only[bB,bA]at hF
         refine bC ?_
         refine bnd hF fun d_ gq hF=>bJ (apQ gq) (fun _=>?_)
         exact dw hF
       rw[qX]
       try rw[qX]at hF; dsimp only[bB,bA]at hF
       exact dw hF
     rw[kv]
     try rw[kv]at hF; dsimp only[bB,bA]at hF
     exact dw hF
   rw[fG]
   try rw[fG]at hF; dsimp only[bB,bA]at hF
   exact dw hF
 rintro _ _ ⟨c20,g21,rfl,rfl,hE⟩
 replace hF:=hO4
 try dsimp only at hF
 refine bH hE ?_
 exact ze hF
def Qn(ah:List Int)(ai:List Method)(ak:aV):Option (Bool):=
 ((MB ah ai).bind fun r4=>
   bif r4 then ((AY ah ak).bind fun r8=>
     some r8)
   else (some false)).bind fun o2=>
 match o2 with
 |c11=>some c11
theorem ape{ah:List Int}{aa:Sv}{ai:List Method}{aA:Sv}{ak:aV}{bi dZ:Sv}{R:Bool}(hF:Qn ah ai ak=some R):
   Fw.Spec Tryz.prog 138 [aa.v,aA.v,(zg [bi.v,dZ.v])] [ag aa ah,dO aA ai,ag bi ak.Head,bZ dZ ak.Atoms] (fun _:Unit=>(.bool R)) (fun _=>[]):=by
 refine Se 15 Tryz.func138 [.tmp 6] ?_
 intro H0 F0
 unfold Qn at hF
 refine au ?_
 refine bM (fun k1=>?_)
 refine bg ?_
 obtain⟨o2,jq,hO3⟩:=bind_some hF
 refine au ?_
 refine gG (fun f' cs'=>∃(c11:Bool)(g:Fr),c11=o2/\f'=aN g [(6,(.bool c11))]/\aK cs' []) ?_ ?_
 · replace hF:=jq
   refine bg ?_
   refine bnd hF fun r4 hx5 hF=>bJ (afD hx5) (fun _=>?_)
   refine au ?_
   rcases dK r4 with dB|dB
   · rw[dB]
     try rw[dB]at hF; dsimp only[bB,bA]at hF
     refine aX ?_
     refine bnd hF fun r8 dF hF=>bJ (PE dF) (fun _=>?_)
     exact dw hF
   rw[dB]
   try rw[dB]at hF; dsimp only[bB,bA]at hF
   exact dw hF
 rintro _ _ ⟨c11,g12,rfl,rfl,hE⟩
 replace hF:=hO3
 try dsimp only at hF
 refine bH hE ?_
 exact ze hF
def VP(ah:List Method):Option ((List Method)):=
 (app ([]:List Method) ah).bind fun z5=>
 some z5
theorem ana{ah:List Method}{aa:Sv}{R:(List Method)}(hF:VP ah=some R):
   Fw.Spec Tryz.prog 220 [aa.v] [dO aa ah] (fun p:Sv×List Nat=>p.1.v) (fun p=>[Kg p.2 p.1 R]):=by
 refine Se 8 Tryz.func220 [.tmp 2] ?_
 intro H0 F0
 unfold VP at hF
 refine bu ?_
 refine aiu (xs:=ah) vR.h (.tmp rfl rfl) .h ahR (fun bn1 hn2=>?_)
 refine au ?_
 refine Cc (fun hb3=>?_) (fun hb3=>?_)
 · have hnil:=hn2 hb3
   replace hF:some []=some R:=by rw[hnil]at hF; simpa[app]using hF
   refine aP ?_
   cases hF
   exact gL (⟨none,0,0⟩,[]) (.tmp rfl rfl .nil) rfl (.conv .nil (fH (Ro:=(aj gN)) (E:=89)) (.cons .nil) (.sel (.cons .h .nil)))
 refine bg ?_
 refine dx rfl (bV (g:=true) vR.h sS.h .nil (vs:=[]) rfl rfl rfl (by simp)) (fun k4=>?_)
 refine dH (.cons .h .nil) (bY (Ro:=(aj gN)) (E:=89) (F:=[]) (xs:=([]:List Method)) bX rfl rfl) ?_
 refine au ?_
 refine bnd hF fun z5 hx6 hF=>dU (.cons .h (.rd .h rfl .nil)) (ek (Ro:=(aj gN)) vR.h adv sS.h rfl rfl rfl (.tmp rfl rfl) (.tmp rfl rfl) hx6 rE) (fun p7=>?_)
 refine bC ?_
 cases hF
 exact Er (p7.1,p7.2)
def Ij(r1:(List Method)):Nat->(List Method)->Int->Option ((List Method))
 |0,_,_=>none
 |Ah+1,tY,c37=>if (decide ((c37:Int)<(r1.length:Int)))then (
     ((ix tY c37).bind fun Ll=>
       if ((Ll.Limit:Int)!=0)then (
         (ix tY c37).bind fun Lm=>
         (some (tY.set (c37).toNat {Lm with Rel:=(-1)})).bind fun z64=>
         some z64)
       else (
         some tY)).bind fun y8=>
     match y8 with
     |lC=>Ij r1 Ah lC (IntKind.i64.wrap (c37+1)))
   else (
     some tY)
def PX(ai:List Method):Option ((List Method)):=
 (VP ai).bind fun r1=>
 Ij r1 (((r1.length:Int)-0).toNat+2) r1 0
theorem aoG{ai:List Method}{aa:Sv}{R:(List Method)}(hF:PX ai=some R):
   Fw.Spec Tryz.prog 139 [aa.v] [dO aa ai] (fun p:Sv×List Nat=>p.1.v) (fun p=>[Kg p.2 p.1 R]):=by
 refine Se 24 Tryz.func139 [.tmp 2] ?_
 intro H0 F0
 unfold PX at hF
 refine aX ?_
 refine bnd hF fun r1 hx2 hF=>fq (ana hx2) (fun p3=>?_)
 refine eD ?_
 refine aY (bK (m:=(((r1.length:Int)-0).toNat+2)) (fun Ah f' cs'=>∃(g:Fr)(tY:List Method)(c37:Int)(tV:List Nat),f'=aN g [(3,p3.1.v),(8,p3.1.v),(9,(zi (r1.length:Int))),(10,(zi c37))]/\aK cs' [Kg tV p3.1 tY]/\Ij r1 Ah tY c37=some R) ⟨_,_,_,p3.2,ay,ax,hF⟩ ?_)
 rintro Ah _ _ ⟨g39,tY,c37,tV,rfl,hE,hF⟩
 refine bH hE ?_
 rcases Ah with _|Ah
 · rw[Ij]at hF
   exact absurd hF (by simp)
 rw[Ij]at hF
 refine aP ?_
 refine Ci hF (fun TQ hF=>?_) (fun TQ hF=>?_)
 · refine au ?_
   obtain⟨y8,R5,Uv⟩:=bind_some hF
   refine fD (fun f' cs'=>∃(lC:List Method)(g:Fr),lC=y8/\f'=aN g [(3,p3.1.v),(8,p3.1.v),(9,(zi (r1.length:Int))),(10,(zi c37))]/\aK cs' [Kg tV p3.1 lC]) ?_ ?_
   · replace hF:=R5
     refine aY (cu (Cm (zi c37) rfl rfl ?_))
     refine bnd hF fun Ll uP hF=>?_
     have aBl:=zC uP
     obtain⟨aIg,yJ⟩:=uk uP
     refine qA vR.h sS.h.sz (.tmp rfl rfl) (.tmp rfl rfl) .h aBl (fun k48 aBm=>?_)
     refine asR (wJ Ll) aln.h sS.h.sz rfl (.tmp rfl rfl) .h aBm yJ xR (fun p55=>?_)
     refine dJ (fun k56=>?_)
     refine au ?_
     refine As (zg [(zi Ll.Rel),p55.v,(zi Ll.Limit),(zi Ll.Cost),(zi Ll.Quota)]) ?_
     refine bu ?_
     refine Ci hF (fun CP hF=>?_) (fun CP hF=>?_)
     · refine bC ?_
       refine bnd hF fun Lm Zz hF=>?_
       have aBn:=zC Zz
       obtain⟨aIh,KC⟩:=uk Zz
       refine qA vR.h sS.h.sz (.tmp rfl rfl) (.tmp rfl rfl) .q2 aBn (fun k57 aeg=>?_)
       refine au ?_
       refine bnd hF fun z64 KJ hF=>?_
       replace KJ:=Option.some.inj KJ
       refine dU (.cons .q2 .nil) (ar6 (Ro:=(aj gN)) (i:=c37) cZ.h.sz rfl (.tmp rfl rfl) (.int _ _) aeg KC rfl rfl asf (as1 (d:=(-1)))) (fun _=>?_)
       rw[KJ]
       exact dw hF
     exact dw hF
   rintro _ _ ⟨lC,g68,rfl,rfl,hE⟩
   replace hF:=Uv
   try dsimp only at hF
   refine bH hE ?_
   refine aP ?_
   exact⟨Ah,bO _,_,_,_,tV,ay,ax,hF⟩
 refine eG ?_
 cases hF
 exact Er (p3.1,tV)
def MN(lD:Int)(aC:Atom)(bz:List Int):Option (Bool):=
 ((pX lD 0 (IntKind.i64.wrap ((aC.Terms.length:Int)-1))).bind fun r3=>
   bif (!r3)then (some true)
   else ((ix aC.Terms lD).bind fun x7=>
     (Fq x7).bind fun mK=>
     bif mK then ((ix aC.Terms lD).bind fun wC=>
       (G_ bz wC).bind fun mO=>
       some (!mO))
     else (some false))).bind fun o1=>
 match o1 with
 |Vr=>some Vr
theorem aoH{lD:Int}{bD:Nat}{aC:Atom}{eQ:Sv}{dQ:Nat}{bz:List Int}{gI:Sv}{R:Bool}(hF:MN lD aC bz=some R):
   Fw.Spec Tryz.prog 277 [(zi lD),(pz bD),(pz dQ)] [aQ bD 123 (zg [(zi aC.Rel),eQ.v]),ag eQ aC.Terms,aQ dQ 22 gI.v,ag gI bz] (fun _:Unit=>(.bool R)) (fun _=>[]):=by
 refine Se 30 Tryz.func277 [.tmp 4] ?_
 intro H0 F0
 unfold MN at hF
 refine bC ?_
 obtain⟨o1,sW,hO2⟩:=bind_some hF
 refine dS [0,1,2,3,4,5,6,7,8,9,10,11,12,13,14,15,16,17,18,19,20,21,22,23,24,25] [0,0,2,6,14,31,63,127,255,511,255,2047,4095,8191,16383,32767,32767,98303,32767,491519,1015807,2097151,4194303,8388607,16777215,33554431] [5,13,21] mixed (by decide+kernel) ?_
 refine yc (fun f' cs'=>∃(Vr:Bool)(g:Fr),Vr=o1/\f'=aN g [(4,(.bool Vr))]/\aK cs' []) ?_ ?_
 · replace hF:=sW
   refine yx ?_
   refine bnd hF fun r3 hx4 hF=>jk (t_ hx4) (fun _=>?_)
   refine cB ?_
   rcases dK (!r3)with gD|gD
   · rw[gD]
     try rw[gD]at hF; dsimp only[bB,bA]at hF
     exact j3 hF
   rw[gD]
   try rw[gD]at hF; dsimp only[bB,bA]at hF
   refine fT ?_
   refine zI hF fun x7 hp9 fU hF=>?_
   refine Di fU (fun k11 j12=>?_)
   refine Dl dG ?_
   refine bnd hF fun mK iA hF=>jk (Ql iA) (fun _=>?_)
   refine du ?_
   rcases dK mK with qX|qX
   · rw[qX]
     try rw[qX]at hF; dsimp only[bB,bA]at hF
     refine sU ?_
     refine zI hF fun wC aAV mJ hF=>?_
     refine Di mJ (fun k21 U4=>?_)
     refine Dl dG ?_
     refine bnd hF fun mO hx24 hF=>jk (aab hx24) (fun _=>?_)
     exact j3 hF
   rw[qX]
   try rw[qX]at hF; dsimp only[bB,bA]at hF
   exact j3 hF
 rintro _ _ ⟨Vr,g27,rfl,rfl,hE⟩
 replace hF:=hO2
 try dsimp only at hF
 refine bH hE ?_
 exact ze hF
def L6(aC:Atom)(bz:List Int):List Int->Nat->Option (Int)
 |[],k4=>some (-1)
 |x6::aJ,k4=>(MN x6 aC bz).bind fun ik=>
   if ik then (
     some (k4:Int))
   else (
     L6 aC bz aJ (k4+1))
def VV(ah:List Int)(aC:Atom)(bz:List Int):Option (Int):=
 L6 aC bz ah 0
theorem ang{ah:List Int}{aa:Sv}{bD:Nat}{aC:Atom}{eQ:Sv}{dQ:Nat}{bz:List Int}{gI:Sv}{R:Int}(hF:VV ah aC bz=some R):
   Fw.Spec Tryz.prog 242 [aa.v,(.func (.func 277) [].toArray [(pz bD),(pz dQ)].toArray)] [ag aa ah,aQ bD 123 (zg [(zi aC.Rel),eQ.v]),ag eQ aC.Terms,aQ dQ 22 gI.v,ag gI bz] (fun _:Unit=>(zi R)) (fun _=>[]):=by
 refine Se 19 Tryz.func242 [.tmp 4] ?_
 intro H0 F0
 unfold VV at hF
 refine eG ?_
 refine aY (bK (m:=ah.length) (fun m2 f' cs'=>∃(g:Fr)(k4:Nat)(aJ:List Int),m2=aJ.length/\f'=aN g [(0,aa.v),(1,(.func (.func 277) [].toArray [(pz bD),(pz dQ)].toArray)),(7,(zi (ah.length:Int))),(8,(zi (k4:Int)))]/\List.drop k4 ah=aJ/\aK cs' [ag aa ah,aQ bD 123 (zg [(zi aC.Rel),eQ.v]),ag eQ aC.Terms,aQ dQ 22 gI.v,ag gI bz]/\L6 aC bz aJ k4=some R) ⟨_,0,_,rfl,ay,rfl,ax,hF⟩ ?_)
 rintro m2 _ _ ⟨g3,k4,aJ,rfl,rfl,hd7,hE,hF⟩
 refine Kb hE ah (fun jV=>?_)
 rcases aJ with _|⟨x6,aJ⟩
 · have fB:=dn hd7
   rw[L6]at hF
   refine aP ?_
   refine cO ?_
   exact ze hF
 obtain⟨fB,dF,fw⟩:=bW hd7
 rw[L6]at hF
 refine aP ?_
 refine cK ?_
 refine jD ?_
 refine Ai dF (fun k13 lY=>?_)
 refine Al dG ?_
 refine bnd hF fun ik hx16 hF=>mX (.rd .q2 rfl (.rd .q3 rfl (.rd .q4 rfl (.rd .q5 rfl .nil)))) (lg aw3.h (.tmp rfl rfl) bN (aoH hx16)) (fun _=>?_)
 refine au ?_
 refine Ci hF (fun tC hF=>?_) (fun tC hF=>?_)
 · exact ze hF
 refine aX ?_
 rw[wk k4]
 exact⟨_,bO _,_,k4+1,aJ,rfl,ay,fw,ax,hF⟩
def OW(ah:List Int)(aC:Atom)(bz:List Int):Option (Bool):=
 (VV ah aC bz).bind fun r1=>
 some (decide ((0:Int)<=r1))
theorem am'{ah:List Int}{aa:Sv}{bD:Nat}{aC:Atom}{eQ:Sv}{dQ:Nat}{bz:List Int}{gI:Sv}{R:Bool}(hF:OW ah aC bz=some R):
   Fw.Spec Tryz.prog 176 [aa.v,(.func (.func 277) [].toArray [(pz bD),(pz dQ)].toArray)] [ag aa ah,aQ bD 123 (zg [(zi aC.Rel),eQ.v]),ag eQ aC.Terms,aQ dQ 22 gI.v,ag gI bz] (fun _:Unit=>(.bool R)) (fun _=>[]):=by
 refine Se 9 Tryz.func176 [.tmp 4] ?_
 intro H0 F0
 unfold OW at hF
 refine bu ?_
 refine bnd hF fun r1 hx2 hF=>bJ (ang hx2) (fun _=>?_)
 exact ze hF
def QB(bE:Method)(ae:Atom)(jT:List Int):Option (Bool):=
 (bif ((bE.Rel:Int)==ae.Rel)then ((OW bE.Inputs ae jT).bind fun r7=>
     some (!r7))
   else (some false)).bind fun o4=>
 match o4 with
 |c10=>some c10
theorem apR{bE:Method}{aM:Sv}{ae:Atom}{aW:Sv}{jT:List Int}{bi:Sv}{R:Bool}(hF:QB bE ae jT=some R):
   Fw.Spec Tryz.prog 225 [(zg [(zi bE.Rel),aM.v,(zi bE.Limit),(zi bE.Cost),(zi bE.Quota)]),(zg [(zi ae.Rel),aW.v]),bi.v] [ag aM bE.Inputs,ag aW ae.Terms,ag bi jT] (fun _:Unit=>(.bool R)) (fun _=>[]):=by
 refine Se 19 Tryz.func225 [.tmp 6] ?_
 intro H0 F0
 unfold QB at hF
 refine au ?_
 refine bM (fun k1=>?_)
 refine bM (fun k2=>?_)
 refine bM (fun k3=>?_)
 refine bg ?_
 obtain⟨o4,aBo,hO5⟩:=bind_some hF
 refine au ?_
 refine gG (fun f' cs'=>∃(c10:Bool)(g:Fr),c10=o4/\f'=aN g [(6,(.bool c10))]/\aK cs' []) ?_ ?_
 · replace hF:=aBo
   refine bu ?_
   rcases dK ((bE.Rel:Int)==ae.Rel)with gD|gD
   · rw[gD]
     try rw[gD]at hF; dsimp only[bB,bA]at hF
     refine aX ?_
     refine aO (rC (fn:=.func 277) (vs:=[]) (us:=[(pz k2),(pz k3)]) .nil bN) ?_
     refine au ?_
     refine bnd hF fun r7 pJ hF=>bJ (am' pJ) (fun _=>?_)
     exact dw hF
   rw[gD]
   try rw[gD]at hF; dsimp only[bB,bA]at hF
   exact dw hF
 rintro _ _ ⟨c10,g11,rfl,rfl,hE⟩
 replace hF:=hO5
 try dsimp only at hF
 refine bH hE ?_
 exact ze hF
def aa2(bE:Method)(ae:Atom):Option (Bool):=
 some true
theorem apf{bE:Method}{aM:Sv}{ae:Atom}{aW:Sv}{R:Bool}(hF:aa2 bE ae=some R):
   Fw.Spec Tryz.prog 287 [(zg [(zi bE.Rel),aM.v,(zi bE.Limit),(zi bE.Cost),(zi bE.Quota)]),(zg [(zi ae.Rel),aW.v])] [ag aM bE.Inputs,ag aW ae.Terms] (fun _:Unit=>(.bool R)) (fun _=>[]):=by
 refine Se 5 Tryz.func287 [.tmp 4] ?_
 intro H0 F0
 unfold aa2 at hF
 refine au ?_
 refine bM (fun k1=>?_)
 refine bM (fun k2=>?_)
 exact ze hF
def O3(bE:Method)(aC:Atom)(bz:List Int):Option (Bool):=
 ((QB bE aC bz).bind fun r4=>
   bif r4 then ((aa2 bE aC).bind fun r8=>
     some r8)
   else (some false)).bind fun o2=>
 match o2 with
 |c11=>some c11
theorem anv{bE:Method}{aM:Sv}{bD:Nat}{aC:Atom}{eQ:Sv}{dQ:Nat}{bz:List Int}{gI:Sv}{iD:Nat}{R:Bool}(hF:O3 bE aC bz=some R):
   Fw.Spec Tryz.prog 307 [(zg [(zi bE.Rel),aM.v,(zi bE.Limit),(zi bE.Cost),(zi bE.Quota)]),(pz bD),(pz dQ),(pz iD)] [ag aM bE.Inputs,aQ bD 123 (zg [(zi aC.Rel),eQ.v]),ag eQ aC.Terms,aQ dQ 22 gI.v,ag gI bz,aQ iD 297 (.func (.func 287) [].toArray [].toArray)] (fun _:Unit=>(.bool R)) (fun _=>[]):=by
 refine Se 16 Tryz.func307 [.tmp 5] ?_
 intro H0 F0
 unfold O3 at hF
 refine au ?_
 refine bM (fun k1=>?_)
 refine bg ?_
 obtain⟨o2,jq,hO3⟩:=bind_some hF
 refine au ?_
 refine gG (fun f' cs'=>∃(c11:Bool)(g:Fr),c11=o2/\f'=aN g [(5,(.bool c11))]/\aK cs' []) ?_ ?_
 · replace hF:=jq
   refine bC ?_
   refine bnd hF fun r4 hx5 hF=>bJ (apR hx5) (fun _=>?_)
   refine au ?_
   rcases dK r4 with dB|dB
   · rw[dB]
     try rw[dB]at hF; dsimp only[bB,bA]at hF
     refine bF ?_
     refine bnd hF fun r8 dF hF=>mX (.rd (.t .h) rfl (.rd .q3 rfl .nil)) (lg aw4.h (.tmp rfl rfl) bN (apf dF)) (fun _=>?_)
     exact dw hF
   rw[dB]
   try rw[dB]at hF; dsimp only[bB,bA]at hF
   exact dw hF
 rintro _ _ ⟨c11,g12,rfl,rfl,hE⟩
 replace hF:=hO3
 try dsimp only at hF
 refine bH hE ?_
 exact ze hF
def LF(aC:Atom)(bz:List Int):List Method->Nat->Option (Int)
 |[],k4=>some (-1)
 |x6::aJ,k4=>(O3 x6 aC bz).bind fun r16=>
   if r16 then (
     some (k4:Int))
   else (
     LF aC bz aJ (k4+1))
def VB(ah:List Method)(aC:Atom)(bz:List Int):Option (Int):=
 LF aC bz ah 0
theorem amD{ah:List Method}{aa:Sv}{bD:Nat}{aC:Atom}{eQ:Sv}{dQ:Nat}{bz:List Int}{gI:Sv}{iD:Nat}{R:Int}(hF:VB ah aC bz=some R):
   Fw.Spec Tryz.prog 238 [aa.v,(.func (.func 307) [].toArray [(pz bD),(pz dQ),(pz iD)].toArray)] [dO aa ah,aQ bD 123 (zg [(zi aC.Rel),eQ.v]),ag eQ aC.Terms,aQ dQ 22 gI.v,ag gI bz,aQ iD 297 (.func (.func 287) [].toArray [].toArray)] (fun _:Unit=>(zi R)) (fun _=>[]):=by
 refine Se 19 Tryz.func238 [.tmp 4] ?_
 intro H0 F0
 unfold VB at hF
 refine eG ?_
 refine aY (bK (m:=ah.length) (fun m2 f' cs'=>∃(g:Fr)(k4:Nat)(aJ:List Method),m2=aJ.length/\f'=aN g [(0,aa.v),(1,(.func (.func 307) [].toArray [(pz bD),(pz dQ),(pz iD)].toArray)),(7,(zi (ah.length:Int))),(8,(zi (k4:Int)))]/\List.drop k4 ah=aJ/\aK cs' [dO aa ah,aQ bD 123 (zg [(zi aC.Rel),eQ.v]),ag eQ aC.Terms,aQ dQ 22 gI.v,ag gI bz,aQ iD 297 (.func (.func 287) [].toArray [].toArray)]/\LF aC bz aJ k4=some R) ⟨_,0,_,rfl,ay,rfl,ax,hF⟩ ?_)
 rintro m2 _ _ ⟨g3,k4,aJ,rfl,rfl,hd7,hE,hF⟩
 refine Kb hE ah (fun jV=>?_)
 rcases aJ with _|⟨x6,aJ⟩
 · have fB:=dn hd7
   rw[LF]at hF
   refine aP ?_
   refine cO ?_
   exact ze hF
 obtain⟨fB,dF,fw⟩:=bW hd7
 rw[LF]at hF
 refine aP ?_
 refine cK ?_
 refine jD ?_
 refine Ai dF (fun k13 lY=>?_)
 refine iw (wJ x6) xR (fun jm=>?_)
 refine bnd hF fun r16 iX hF=>mX (.rd .h rfl (.rd .q3 rfl (.rd .q4 rfl (.rd .q5 rfl (.rd .q6 rfl (.rd .q7 rfl .nil)))))) (lg aw2.h (.tmp rfl rfl) bN (anv iX)) (fun _=>?_)
 refine au ?_
 refine Ci hF (fun mI hF=>?_) (fun mI hF=>?_)
 · exact ze hF
 refine aX ?_
 rw[wk k4]
 exact⟨_,bO _,_,k4+1,aJ,rfl,ay,fw,ax,hF⟩
def Ho(bz:List Method)(fJ:List Int)(Ad:List Bool):List Atom->Nat->Option (Step×Bool)
 |[],k5=>some ((⟨0,0⟩:Step),false)
 |x7::bR,k5=>(VB bz x7 fJ).bind fun qp=>
   ((ix Ad (k5:Int)).bind fun qx=>
     bif (!qx)then (some (decide ((0:Int)<=qp)))
     else (some false)).bind fun yX=>
   match yX with
   |yT=>if yT then (
       some ((⟨(k5:Int),qp⟩:Step),true))
     else (
       Ho bz fJ Ad bR (k5+1))
def Ed(aC:List Atom)(bz:List Method)(fJ:List Int)(Ad:List Bool):Option (Step×Bool):=
 Ho bz fJ Ad aC 0
theorem afe{bD:Nat}{aC:List Atom}{eU:Sv}{dQ:Nat}{bz:List Method}{gI:Sv}{iD:Nat}{fJ:List Int}{l7:Sv}{lZ OC:Nat}{Ad:List Bool}{NP:Sv}{R:Step×Bool}(hF:Ed aC bz fJ Ad=some R):
   Fw.Spec Tryz.prog 306 [(pz bD),(pz dQ),(pz iD),(pz lZ),(pz OC)] [aQ bD 37 eU.v,bZ eU aC,aQ dQ 33 gI.v,dO gI bz,aQ iD 22 l7.v,ag l7 fJ,aQ lZ 297 (.func (.func 287) [].toArray [].toArray),aQ OC 194 NP.v,zr4 NP Ad] (fun _:Unit=>(.tuple [(zg [(zi R.1.Atom),(zi R.1.Method)]),(.bool R.2)].toArray)) (fun _=>[]):=by
 refine Se 34 Tryz.func306 [.cell 5 204,.tmp 6] ?_
 intro H0 F0
 unfold Ed at hF
 refine au ?_
 refine dJ (fun k1=>?_)
 refine eD ?_
 refine aY (bK (m:=aC.length) (fun m3 f' cs'=>∃(g:Fr)(k5:Nat)(bR:List Atom),m3=bR.length/\f'=aN g [(1,(pz dQ)),(2,(pz iD)),(3,(pz lZ)),(4,(pz OC)),(5,(pz k1)),(10,eU.v),(11,(zi (aC.length:Int))),(12,(zi (k5:Int)))]/\List.drop k5 aC=bR/\aK cs' [aQ dQ 33 gI.v,dO gI bz,aQ iD 22 l7.v,ag l7 fJ,aQ lZ 297 (.func (.func 287) [].toArray [].toArray),aQ OC 194 NP.v,zr4 NP Ad,bS k1 204 (.agg ([(zi 0),(zi 0)]:List Value).toArray),bZ eU aC]/\Ho bz fJ Ad bR k5=some R) ⟨_,0,_,rfl,ay,rfl,ax,hF⟩ ?_)
 rintro m3 _ _ ⟨g4,k5,bR,rfl,rfl,iR,hE,hF⟩
 refine Kb hE aC (fun wU=>?_)
 rcases bR with _|⟨x7,bR⟩
 · have lW:=dn iR
   rw[Ho]at hF
   refine aP ?_
   refine cO ?_
   refine aX ?_
   refine aO (gy wQ.h rfl (vs:=[]) .nil (cells:=[(zi 0),(zi 0)]) rfl) ?_
   refine As (.agg ([(zi 0),(zi 0)]:List Value).toArray) ?_
   refine bC ?_
   cases hF
   exact gL () (.cellA rfl rfl .h rfl akh.h wQ.h.sz rfl rfl (.tmp rfl rfl .nil)) rfl (.sel .nil)
 obtain⟨lW,fU,fZ⟩:=bW iR
 rw[Ho]at hF
 refine aP ?_
 refine cK ?_
 refine aP ?_
 refine Ai fU (fun k14 GQ=>?_)
 refine iw (tZ x7) vw (fun p16=>?_)
 refine dJ (fun k17=>?_)
 refine au ?_
 refine As (zg [(zi x7.Rel),p16.v]) ?_
 refine bC ?_
 refine aO (rC (fn:=.func 307) (vs:=[]) (us:=[(pz k17),(pz iD),(pz lZ)]) .nil bN) ?_
 refine bnd hF fun qp nK hF=>dU (.cons .h (.rd .q3 rfl (.rd .h rfl (.rd .q4 rfl (.rd .q5 rfl (.rd .q6 rfl .nil)))))) (gH Fp (fun _=>.nil) (jA (.rd (.t .h) rfl (.rd .h rfl (.rd .q2 rfl (.rd .q3 rfl (.rd .q4 rfl (.rd .q5 rfl .nil)))))) (bU awR.h bN (amD nK)))) (fun _=>?_)
 refine bg ?_
 obtain⟨yX,RZ,Ua⟩:=bind_some hF
 refine au ?_
 refine gG (fun f' cs'=>∃(yT:Bool)(g:Fr),yT=yX/\f'=aN g [(1,(pz dQ)),(2,(pz iD)),(3,(pz lZ)),(4,(pz OC)),(5,(pz k1)),(7,(zi (k5:Int))),(9,(zi qp)),(10,eU.v),(11,(zi (aC.length:Int))),(12,(zi (k5:Int))),(28,(.bool yT))]/\aK cs' [aQ dQ 33 gI.v,dO gI bz,aQ iD 22 l7.v,ag l7 fJ,aQ lZ 297 (.func (.func 287) [].toArray [].toArray),aQ OC 194 NP.v,zr4 NP Ad,bS k1 204 (.agg ([(zi 0),(zi 0)]:List Value).toArray),bZ eU aC]) ?_ ?_
 · replace hF:=RZ
   refine bg ?_
   refine zI hF fun qx amb ll hF=>?_
   refine Ai ll (fun k27 j28=>?_)
   refine Al aw6 ?_
   refine bg ?_
   rcases dK (!qx)with UA|UA
   · rw[UA]
     try rw[UA]at hF; dsimp only[bB,bA]at hF
     exact dw hF
   rw[UA]
   try rw[UA]at hF; dsimp only[bB,bA]at hF
   exact dw hF
 rintro _ _ ⟨yT,g33,rfl,rfl,hE⟩
 replace hF:=Ua
 try dsimp only at hF
 refine bH hE ?_
 refine Ci hF (fun aeh hF=>?_) (fun aeh hF=>?_)
 · refine bC ?_
   refine aO (gy wQ.h rfl (vs:=[(zi (k5:Int)),(zi qp)]) bN (cells:=[(zi (k5:Int)),(zi qp)]) rfl) ?_
   refine As (zg [(zi (k5:Int)),(zi qp)]) ?_
   refine bC ?_
   cases hF
   exact gL () (.cellA rfl rfl .h rfl akh.h wQ.h.sz rfl rfl (.tmp rfl rfl .nil)) rfl (.sel .nil)
 refine aX ?_
 rw[wk k5]
 exact⟨_,bO _,_,k5+1,bR,rfl,ay,fZ,ax,hF⟩
def DU(ai:List Method)(fF:List Atom):Nat->(List Step)->(List Bool)->(List Int)->Int->Int->Bool->Option ((List Step)×(List Bool))
 |0,_,_,_,_,_,_=>none
 |Lp+1,xB,wE,iT,og,lC,mQ=>if mQ then (
     (tK (decide (0<=og)&&decide (og<(wE.length:Int)))).bind fun u80=>
     (some (wE.set (og).toNat true)).bind fun z82=>
     (ix fF og).bind fun x85=>
     (app iT x85.Terms).bind fun Le=>
     (app xB ([(⟨og,lC⟩:Step)]:List Step)).bind fun z96=>
     (Ed fF ai Le z82).bind fun Ab=>
     DU ai fF Lp z96 z82 Le Ab.1.Atom Ab.1.Method Ab.2)
   else (
     some (xB,wE))
def VX(fuel:Nat)(ai:List Method)(fF:List Atom):Option ((List Step)×(List Bool)):=
 (yN (fF.length:Int) (false:Bool)).bind fun z5=>
 (Ed fF ai ([]:List Int) z5).bind fun iC=>
 DU ai fF fuel ([]:List Step) z5 ([]:List Int) iC.1.Atom iC.1.Method iC.2
theorem ank{fuel:Nat}{ai:List Method}{aa:Sv}{fF:List Atom}{aA:Sv}{R:(List Step)×(List Bool)}(hF:VX fuel ai fF=some R):
   Fw.Spec Tryz.prog 286 [aa.v,aA.v,(.func (.func 287) [].toArray [].toArray)] [dO aa ai,bZ aA fF] (fun p:Sv×List Nat×Sv×List Nat=>(.tuple [p.1.v,p.2.2.1.v].toArray)) (fun p=>[wS p.2.1 p.1 R.1,Z0 p.2.2.2 p.2.2.1 R.2]):=by
 refine Se 50 Tryz.func286 [.tmp 6,.tmp 7] ?_
 intro H0 F0
 unfold VX at hF
 refine au ?_
 refine bM (fun k1=>?_)
 refine bM (fun k2=>?_)
 refine bM (fun k3=>?_)
 refine aP ?_
 refine dx rfl (bV (g:=true) JD.h wQ.h .nil (vs:=[]) rfl rfl rfl (by simp)) (fun k4=>?_)
 refine dH (.cons .h .nil) (bY (Ro:=(aj zJ)) (E:=204) (F:=[]) (xs:=([]:List Step)) bX rfl rfl) ?_
 refine aX ?_
 refine bnd hF fun z5 hx6 hF=>?_
 have hm7:=Ni hx6
 refine dx rfl (PQ (g:=true) (c:=(fF.length:Int)) acx.h ZZ.h rfl rfl (by decide) (.tmp rfl rfl) hm7.2.1 hm7.2.2) (fun k8=>?_)
 refine dH (.cons .h .nil) (QI (Ro:=(aj rdBool)) (E:=4) (a:=(false:Bool)) hx6 (fun _=>⟨rfl,rfl⟩)) ?_
 refine dJ (fun k9=>?_)
 refine As (.slice (some ⟨k8,0,none⟩) (fF.length:Int).toNat 1) ?_
 refine bg ?_
 refine dx rfl (bV (g:=true) cz.h cZ.h .nil (vs:=[]) rfl rfl rfl (by simp)) (fun k10=>?_)
 refine dH (.cons .h .nil) (bY (Ro:=(aj aH)) (E:=3) (F:=[]) (xs:=([]:List Int)) bX rfl rfl) ?_
 refine dJ (fun k11=>?_)
 refine As (.slice (some ⟨k10,0,none⟩) 0 1) ?_
 refine bg ?_
 refine aO (rC (fn:=.func 306) (vs:=[]) (us:=[(pz k2),(pz k1),(pz k11),(pz k3),(pz k9)]) .nil bN) ?_
 refine aX ?_
 refine bnd hF fun iC iM hF=>alc (.cons .q3 (.cons .q2 (.cons (.t .h) (.cons .h (.rd .q2 rfl (.rd .q5 rfl (.rd .q3 rfl (.rd .q4 rfl (.rd (.t .h) rfl .nil))))))))) (jy (pre:=_) (.cons bq (.cons Fp (.cons bq (.cons Fp .nil)))) (fun _=>.nil) (jA (.rd .q4 rfl (.rd .q5 rfl (.rd .q6 rfl (.rd .q7 rfl (.rd .h rfl (.rd (.t .h) rfl (.rd .q8 rfl (.rd .q2 rfl (.rd .q3 rfl .nil))))))))) (lg akg.h (.tmp rfl rfl) .nil (@afe k2 fF aA k1 ai aa k11 ([]:List Int) (⟨(some ⟨k10,0,none⟩),0,1⟩) k3 k9 z5 (⟨(some ⟨k8,0,none⟩),(fF.length:Int).toNat,1⟩) _ iM)))) (fun _=>?_)
 refine au ?_
 refine zx ?_
 refine zx ?_
 refine dJ (fun k15=>?_)
 refine As (zg [(zi iC.1.Atom),(zi iC.1.Method)]) ?_
 refine bg ?_
 refine aY (bK (m:=fuel) (fun Lp f' cs'=>∃(g:Fr)(xB:List Step)(wE:List Bool)(iT:List Int)(og lC:Int)(mQ:Bool)(v58:Sv)(Lc tN:List Nat)(v63:Sv)(qZ:List Nat)(k65:Nat),f'=aN g [(4,(pz k2)),(8,v58.v),(9,(pz k9)),(10,(pz k11)),(11,(.func (.func 306) [].toArray [(pz k2),(pz k1),(pz k11),(pz k3),(pz k9)].toArray)),(12,(pz k65)),(13,(.bool mQ))]/\aK cs' [aQ k2 37 aA.v,bZ aA fF,wS Lc v58 xB,bS k9 194 (.slice (some ⟨k8,0,none⟩) (fF.length:Int).toNat 1),aD (az 4 (aj rdBool)) tN (.slice (some ⟨k8,0,none⟩) (fF.length:Int).toNat 1) wE,bS k11 22 v63.v,a_ qZ v63 iT,aQ k1 33 aa.v,dO aa ai,aQ k3 297 (.func (.func 287) [].toArray [].toArray),bS k65 204 (zg [(zi og),(zi lC)])]/\DU ai fF Lp xB wE iT og lC mQ=some R) ⟨_,_,_,_,_,_,_,⟨(some ⟨k4,0,none⟩),0,1⟩,(k4::[]),[k8],⟨(some ⟨k10,0,none⟩),0,1⟩,(k10::[]),k15,ay,ax,hF⟩ ?_)
 rintro Lp _ _ ⟨g70,xB,wE,iT,og,lC,mQ,v58,Lc,tN,v63,qZ,k65,rfl,hE,hF⟩
 refine bH hE ?_
 rcases Lp with _|Lp
 · rw[DU]at hF
   exact absurd hF (by simp)
 rw[DU]at hF
 refine aP ?_
 refine Ci hF (fun ayI hF=>?_) (fun ayI hF=>?_)
 · refine bu ?_
   refine bnd hF fun u80 aBp hF=>?_
   have ame:=Ng aBp
   refine qA acx.h ZZ.h.sz (.tmp rfl rfl) (.tmp rfl rfl) .q4 ame (fun wF aBq=>?_)
   refine bnd hF fun z82 aeo hF=>?_
   replace aeo:=Option.some.inj aeo
   refine dU (.cons .q4 .nil) (Nh (Ro:=(aj rdBool)) (a:=true) (i:=og) ZZ.h.sz rfl (.tmp rfl rfl) (.bool _) aBq ame (jd (fun _=>rfl)) (fun _ _ _ _ h=>by obtain⟨-,h⟩:=h; cases h; rfl)) (fun Dt=>?_)
   rw[aeo]
   refine au ?_
   refine dS [0,1,2,3,4,5,6,7,8] [0,0,0,4,14,30,62,127,255] [7,8] mixed (by decide+kernel) ?_
   refine ed rfl .no .q5 (fun ha hp=>fI (v:=v63.v) iF.h (EN ha (.tmp rfl rfl) rfl) hp.2 rfl rfl) ?_
   refine cB ?_
   refine ed rfl .no .q10 (fun ha hp=>fI (v:=(zi og)) Ag.h (EN ha (.tmp rfl rfl) rfl) hp.2 rfl rfl) ?_
   refine zI hF fun x85 aIi aep hF=>?_
   refine Di aep (fun qy j90=>?_)
   refine du ?_
   refine uA (R':=(aI 3 aH)) iF.h rfl .no (.tmp rfl rfl) rfl .h xW (fun w91=>?_)
   refine bnd hF fun Le hx93 hF=>df rfl rfl .no (.cons .q8 (.rd .h rfl .nil)) (.dep rfl (.dep rfl .nil)) (fun ha=>ek (Ro:=(aj aH)) cz.h iL cZ.h rfl rfl rfl (EN ha (.tmp rfl rfl) rfl) (EN ha (.tmp rfl rfl) rfl) hx93 rE) (fun y9=>?_)
   refine df rfl rfl .no (.cons .q8 .nil) (.dep rfl (.dep rfl .nil)) (fun ha=>gF (e':=y9.1.v) lQ.h.sz (EN ha (.tmp rfl rfl) rfl) (EN ha (.tmp rfl rfl) rfl) rfl rfl rfl rfl rfl) (fun _=>?_)
   refine du ?_
   refine bC ?_
   refine dx rfl (bV (g:=true) JD.h wQ.h bN (vs:=[(zg [(zi og),(zi lC)])]) rfl rfl rfl (by intro v hv; simp at hv; rcases hv with rfl<;>rfl)) (fun k95=>?_)
   refine dH (.cons .h .nil) (bY (Ro:=(aj zJ)) (E:=204) (F:=([]++[])) (xs:=([(⟨og,lC⟩:Step)]:List Step)) (eF (jd (fun _=>rfl)) bX dm) rfl rfl) ?_
   refine bnd hF fun z96 aBr hF=>dU (.cons .q8 (.cons .h .nil)) (ek (Ro:=(aj zJ)) JD.h aj6 wQ.h rfl rfl rfl (.tmp rfl rfl) (.tmp rfl rfl) aBr fM) (fun p98=>?_)
   refine bF ?_
   refine dJ (fun k99=>?_)
   refine As (zg [(zi og),(zi lC)]) ?_
   refine bC ?_
   refine bnd hF fun Ab hx101 hF=>alc (.cons .q6 (.cons .q8 (.cons .q3 (.cons .q2 (.rd .q4 rfl (.rd .q5 rfl (.rd .q6 rfl (.rd .q7 rfl (.rd .q8 rfl .nil))))))))) (jy (pre:=_) (.cons bq (.cons Fp (.cons bq (.cons Fp .nil)))) (fun _=>.nil) (jA (.rd .q4 rfl (.rd .q5 rfl (.rd .q6 rfl (.rd .q7 rfl (.rd .h rfl (.rd (.t .h) rfl (.rd .q8 rfl (.rd .q2 rfl (.rd .q3 rfl .nil))))))))) (lg akg.h (.tmp rfl rfl) .nil (@afe k2 fF aA k1 ai aa k11 Le y9.1 k3 k9 z82 (⟨(some ⟨k8,0,none⟩),(fF.length:Int).toNat,1⟩) _ hx101)))) (fun _=>?_)
   refine au ?_
   refine zx ?_
   refine zx ?_
   refine As (zg [(zi Ab.1.Atom),(zi Ab.1.Method)]) ?_
   refine bg ?_
   exact⟨Lp,bO _,_,_,_,_,_,_,_,p98.1,p98.2,Dt,y9.1,y9.2,k99,ay,ax,hF⟩
 refine aP ?_
 refine dS [0,1,2,3] [0,0,1,7] [] mixed (by decide+kernel) ?_
 refine du ?_
 refine ed rfl .no .q3 (fun ha hp=>fI (v:=(.slice (some ⟨k8,0,none⟩) (fF.length:Int).toNat 1)) aw5.h (EN ha (.tmp rfl rfl) rfl) hp.2 rfl rfl) ?_
 refine fT ?_
 refine au ?_
 cases hF
 exact Er (v58,Lc,⟨(some ⟨k8,0,none⟩),(fF.length:Int).toNat,1⟩,tN)
def QZ(fuel:Nat)(ai:List Method)(fF:List Atom):Option ((List Step)×(List Bool)):=
 (VX fuel ai fF).bind fun r1=>
 some (r1.1,r1.2)
theorem aqy{fuel:Nat}{ai:List Method}{aa:Sv}{fF:List Atom}{aA:Sv}{R:(List Step)×(List Bool)}(hF:QZ fuel ai fF=some R):
   Fw.Spec Tryz.prog 247 [aa.v,aA.v] [dO aa ai,bZ aA fF] (fun p:Sv×List Nat×Sv×List Nat=>(.tuple [p.1.v,p.2.2.1.v].toArray)) (fun p=>[wS p.2.1 p.1 R.1,Z0 p.2.2.2 p.2.2.1 R.2]):=by
 refine Se 11 Tryz.func247 [.tmp 4,.tmp 5] ?_
 intro H0 F0
 unfold QZ at hF
 refine bF ?_
 refine bnd hF fun r1 hx2 hF=>Af (ank hx2) (fun p3=>?_)
 refine zx ?_
 refine zx ?_
 refine aP ?_
 cases hF
 exact Er (p3.1,p3.2.1,p3.2.2.1,p3.2.2.2)
def xI(ah:List Int):Option ((List Int)):=
 (app ([]:List Int) ah).bind fun z5=>
 some z5
theorem Ha{ah:List Int}{aa:Sv}{R:(List Int)}(hF:xI ah=some R):
   Fw.Spec Tryz.prog 221 [aa.v] [ag aa ah] (fun p:Sv×List Nat=>p.1.v) (fun p=>[a_ p.2 p.1 R]):=by
 refine Se 8 Tryz.func221 [.tmp 2] ?_
 intro H0 F0
 unfold xI at hF
 refine bu ?_
 refine aiu (xs:=ah) cz.h (.tmp rfl rfl) .h ahR (fun bn1 hn2=>?_)
 refine au ?_
 refine Cc (fun hb3=>?_) (fun hb3=>?_)
 · have hnil:=hn2 hb3
   replace hF:some []=some R:=by rw[hnil]at hF; simpa[app]using hF
   refine aP ?_
   cases hF
   exact gL (⟨none,0,0⟩,[]) (.tmp rfl rfl .nil) rfl (.conv .nil (fH (Ro:=(aj aH)) (E:=3)) (.cons .nil) (.sel (.cons .h .nil)))
 refine bg ?_
 refine dx rfl (bV (g:=true) cz.h cZ.h .nil (vs:=[]) rfl rfl rfl (by simp)) (fun k4=>?_)
 refine dH (.cons .h .nil) (bY (Ro:=(aj aH)) (E:=3) (F:=[]) (xs:=([]:List Int)) bX rfl rfl) ?_
 refine au ?_
 refine bnd hF fun z5 hx6 hF=>dU (.cons .h (.rd .h rfl .nil)) (ek (Ro:=(aj aH)) cz.h iL cZ.h rfl rfl rfl (.tmp rfl rfl) (.tmp rfl rfl) hx6 rE) (fun p7=>?_)
 refine bC ?_
 cases hF
 exact Er (p7.1,p7.2)
def WN(ae:Atom):Option (Atom):=
 (xI ae.Terms).bind fun r3=>
 some (⟨ae.Rel,r3⟩:Atom)
theorem apg{ae:Atom}{aM:Sv}{R:Atom}(hF:WN ae=some R):
   Fw.Spec Tryz.prog 222 [(zg [(zi ae.Rel),aM.v])] [ag aM ae.Terms] (fun p:Sv×List Nat=>(zg [(zi R.Rel),p.1.v])) (fun p=>[a_ p.2 p.1 R.Terms]):=by
 refine Se 9 Tryz.func222 [.cell 2 123] ?_
 intro H0 F0
 unfold WN at hF
 refine au ?_
 refine bM (fun k1=>?_)
 refine dJ (fun k2=>?_)
 refine au ?_
 refine dS [0,1,2,3,4,5,6] [0,1,0,4,12,31,63] [4,6] mixed (by decide+kernel) ?_
 refine sU ?_
 refine bnd hF fun r3 hx4 hF=>ni (Ha hx4) (fun p5=>?_)
 refine bQ rfl .no (fun ha=>gy qa.h rfl (vs:=[(zi ae.Rel),p5.1.v]) (.cons (EN ha (.tmp rfl rfl) rfl) (.cons (EN ha (.tmp rfl rfl) rfl) .nil)) (cells:=[(zi ae.Rel),p5.1.v]) rfl) ?_
 refine df rfl rfl .no (.cons (.t .h) .nil) .nil (fun ha=>gF (e':=(zg [(zi ae.Rel),p5.1.v])) (v:=(zg [(zi ae.Rel),p5.1.v])) qa.h.sz (EN ha (.tmp rfl rfl) rfl) (EN ha (.tmp rfl rfl) rfl) rfl rfl rfl rfl rfl) (fun _=>?_)
 refine du ?_
 refine au ?_
 cases hF
 exact Er (p5.1,p5.2)
def EW(ah:List Int)(r6:(List Step)×(List Bool))(r9:(List Int)):List Atom->Nat->(List Atom)->Option (aV×Bool)
 |[],xE,tX=>(AY ah (⟨r9,tX⟩:aV)).bind fun y_=>
   some ((⟨r9,tX⟩:aV),y_)
 |Lm::BV,xE,tX=>((ix r6.2 (xE:Int)).bind fun xG=>
     if xG then (
       (WN Lm).bind fun r83=>
       (app tX ([r83]:List Atom)).bind fun z87=>
       some z87)
     else (
       some tX)).bind fun o70=>
   match o70 with
   |c91=>EW ah r6 r9 BV (xE+1) c91
def Rv(fuel:Nat)(ah:List Int)(ai:List Method)(ak:aV):Option (aV×Bool):=
 (PX ai).bind fun r3=>
 (QZ fuel r3 ak.Atoms).bind fun r6=>
 (xI ak.Head).bind fun r9=>
 EW ah r6 r9 ak.Atoms 0 ([]:List Atom)
theorem arM{fuel:Nat}{ah:List Int}{aa:Sv}{ai:List Method}{aA:Sv}{ak:aV}{bi dZ:Sv}{R:aV×Bool}(hF:Rv fuel ah ai ak=some R):
   Fw.Spec Tryz.prog 184 [aa.v,aA.v,(zg [bi.v,dZ.v])] [ag aa ah,dO aA ai,ag bi ak.Head,bZ dZ ak.Atoms] (fun p:Sv×List Nat×Sv×List Nat=>(.tuple [(zg [p.1.v,p.2.2.1.v]),(.bool R.2)].toArray)) (fun p=>[a_ p.2.1 p.1 R.1.Head,uB p.2.2.2 p.2.2.1 R.1.Atoms]):=by
 refine Se 49 Tryz.func184 [.cell 6 39,.tmp 7] ?_
 intro H0 F0
 unfold Rv at hF
 refine au ?_
 refine bM (fun k1=>?_)
 refine dJ (fun k2=>?_)
 refine bg ?_
 refine dS [0,2,3,1,4,5,6,7,8,9] [0,1,0,4,15,31,63,63,127,511] [1,4] mixed (by decide+kernel) ?_
 refine fT ?_
 refine bnd hF fun r3 hx4 hF=>ni (aoG hx4) (fun p5=>?_)
 refine bnd hF fun r6 hx7 hF=>Rm rfl rfl .no (.cons .h (.rd .q5 rfl .nil)) .nil (fun ha=>gH bq (fun _=>(.cons (.cons .nil))) (bU aw1.h (.cons (EN ha (.tmp rfl rfl) rfl) (.cons (EN ha (.tmp rfl rfl) rfl) .nil)) (aqy hx7))) (fun p8=>?_)
 refine du ?_
 refine bQ rfl .no (fun ha=>oo (l:=[p8.1.v,p8.2.2.1.v]) (v:=p8.1.v) (EN ha (.tmp rfl rfl) rfl) rfl) ?_
 refine bQ rfl .no (fun ha=>oo (l:=[p8.1.v,p8.2.2.1.v]) (v:=p8.2.2.1.v) (EN ha (.tmp rfl rfl) rfl) rfl) ?_
 refine fT ?_
 refine bC ?_
 refine bnd hF fun r9 fU hF=>fq (Ha fU) (fun jI=>?_)
 refine aO (gy qf.h rfl (vs:=[jI.1.v]) bN (cells:=[jI.1.v,(.slice none 0 0)]) rfl) ?_
 refine dJ (fun k12=>?_)
 refine As (zg [jI.1.v,(.slice none 0 0)]) ?_
 refine eD ?_
 refine aY (bK (m:=ak.Atoms.length) (fun m56 f' cs'=>∃(g:Fr)(xE:Nat)(BV tX:List Atom)(v53:Sv)(GY:List Nat),m56=BV.length/\f'=aN g [(0,aa.v),(6,(pz k2)),(9,p8.2.2.1.v),(10,(pz k12)),(26,dZ.v),(27,(zi (ak.Atoms.length:Int))),(28,(zi (xE:Int)))]/\List.drop xE ak.Atoms=BV/\aK cs' [ag aa ah,bS k2 39 (.agg ([(.slice none 0 0),(.slice none 0 0)]:List Value).toArray),Z0 p8.2.2.2 p8.2.2.1 r6.2,bS k12 39 (zg [jI.1.v,v53.v]),a_ jI.2 jI.1 r9,uB GY v53 tX,bZ dZ ak.Atoms]/\EW ah r6 r9 BV xE tX=some R) ⟨_,0,_,_,⟨none,0,0⟩,[],rfl,ay,rfl,(.conv .nil (fH (Ro:=lK) (E:=123)) (.cons .nil) ax),hF⟩ ?_)
 rintro m56 _ _ ⟨g57,xE,BV,tX,v53,GY,rfl,rfl,amf,hE,hF⟩
 refine Kb hE ak.Atoms (fun aFp=>?_)
 rcases BV with _|⟨Lm,BV⟩
 · have aBs:=dn amf
   rw[EW]at hF
   refine aP ?_
   refine cO ?_
   refine aP ?_
   refine dS [0,1,2,3,4,5] [0,0,0,6,15,31] [3,4] mixed (by decide+kernel) ?_
   refine ed rfl .no .q3 (fun ha hp=>jw zY.h qf.h.sz rfl (EN ha (.tmp rfl rfl) rfl) hp.2 rfl) ?_
   refine du ?_
   refine ed rfl .no .q3 (fun ha hp=>jw zY.h qf.h.sz rfl (EN ha (.tmp rfl rfl) rfl) hp.2 rfl) ?_
   refine bnd hF fun y_ Ko hF=>qB rfl rfl .no (.cons .q5 (.cons .q4 (.rd .h rfl .nil))) (.dep rfl (.own .q3 (fun _ h=>h) .nil)) (fun ha=>jy (pre:=_) (.cons bq (.cons bq .nil)) (fun _=>.nil) (jA (.rd .q2 rfl (.rd .h rfl (.rd (.t .h) rfl .nil))) (bU az1.h (.cons (EN ha (.tmp rfl rfl) rfl) (.cons (EN ha (.tmp rfl rfl) rfl) .nil)) (PE Ko)))) (fun _=>?_)
   refine df rfl rfl .no (.cons .q3 .nil) (.dep rfl (.dep rfl .nil)) (fun ha=>gF (e':=(zg [jI.1.v,v53.v])) (v:=(zg [jI.1.v,v53.v])) qf.h.sz (EN ha (.tmp rfl rfl) rfl) (EN ha (.tmp rfl rfl) rfl) rfl rfl rfl rfl rfl) (fun _=>?_)
   refine cB ?_
   refine au ?_
   cases hF
   exact gL (jI.1,jI.2,v53,GY) (.cellA rfl rfl .h rfl zY.h qf.h.sz rfl rfl (.tmp rfl rfl .nil)) rfl (.sel (.cons .q2 (.cons (.t .h) .nil)))
 obtain⟨aBs,KC,aBt⟩:=bW amf
 rw[EW]at hF
 refine aP ?_
 refine cK ?_
 refine au ?_
 obtain⟨o70,ayJ,aBu⟩:=bind_some hF
 refine fD (fun f' cs'=>∃(c91:List Atom)(DJ:Sv)(Lr:List Nat)(g:Fr),c91=o70/\f'=aN g [(0,aa.v),(6,(pz k2)),(9,p8.2.2.1.v),(10,(pz k12)),(26,dZ.v),(27,(zi (ak.Atoms.length:Int))),(28,(zi (xE:Int)))]/\aK cs' [ag aa ah,bS k2 39 (.agg ([(.slice none 0 0),(.slice none 0 0)]:List Value).toArray),Z0 p8.2.2.2 p8.2.2.1 r6.2,bS k12 39 (zg [jI.1.v,DJ.v]),a_ jI.2 jI.1 r9,uB Lr DJ c91,bZ dZ ak.Atoms]) ?_ ?_
 · replace hF:=ayJ
   refine aY (cu (Cm (zi (xE:Int)) rfl rfl ?_))
   refine Ai KC (fun k72 j73=>?_)
   refine iw (tZ Lm) vw (fun p74=>?_)
   refine dJ (fun k75=>?_)
   refine au ?_
   refine As (zg [(zi Lm.Rel),p74.v]) ?_
   refine aP ?_
   refine bnd hF fun xG amg hF=>?_
   have aBv:=zC amg
   obtain⟨aIj,aeq⟩:=uk amg
   refine qA acx.h ZZ.h.sz (.tmp rfl rfl) (.tmp rfl rfl) .q5 aBv (fun k76 aBw=>?_)
   refine Jz (w:=(.bool xG)) ag4.h (.tmp rfl rfl) .q5 aBw aeq aw7 ?_
   refine au ?_
   refine Ci hF (fun aBx hF=>?_) (fun aBx hF=>?_)
   · refine kM [0,1,2,3,4,5,6,7] [0,1,0,4,12,31,63,127] [3,5,7] mixed (by decide+kernel) ?_
     refine du ?_
     refine ed rfl .no .q6 (fun ha hp=>fI (v:=v53.v) YY.h (EN ha (.tmp rfl rfl) rfl) hp.2 rfl rfl) ?_
     refine ed rfl .no .h (fun ha hp=>jw awx.h qa.h.sz rfl (EN ha (.tmp rfl rfl) rfl) hp.2 rfl) ?_
     refine bnd hF fun r83 ZA hF=>df rfl rfl .no (.rd (.t .h) rfl .nil) (.dep rfl (.own .q6 (fun _ h=>h) .nil)) (fun ha=>bU aw8.h (.cons (EN ha (.tmp rfl rfl) rfl) .nil) (apg ZA)) (fun p85=>?_)
     refine iq rfl .no rfl (fun ha=>bV (g:=true) (len:=1) (parts:=[(0,.tmp 40)]) xe.h qa.h (.cons (EN ha (.tmp rfl rfl) rfl) .nil) (vs:=[(zg [(zi r83.Rel),p85.1.v])]) rfl rfl rfl (by intro v hv; simp at hv; rcases hv with rfl<;>rfl)) (fun k86=>?_)
     refine jF (.cons .h (.cons .h .nil)) (bY (Ro:=lK) (E:=123) (F:=(p85.2++[])) (xs:=([r83]:List Atom)) (eF RL bX dm) rfl rfl) ?_
     refine bnd hF fun z87 aep hF=>df rfl rfl .no (.cons .q9 (.cons .h .nil)) (.dep rfl (.dep rfl (.dep rfl .nil))) (fun ha=>ek (Ro:=lK) xe.h Y0 qa.h rfl rfl rfl (EN ha (.tmp rfl rfl) rfl) (EN ha (.tmp rfl rfl) rfl) aep fM) (fun p89=>?_)
     refine du ?_
     refine df rfl rfl .no (.cons .q7 .nil) (.dep rfl (.dep rfl (.dep rfl .nil))) (fun ha=>gF (e':=(zg [jI.1.v,p89.1.v])) YX.h.sz (EN ha (.tmp rfl rfl) rfl) (EN ha (.tmp rfl rfl) rfl) rfl rfl rfl rfl rfl) (fun _=>?_)
     refine du ?_
     cases hF
     exact⟨_,p89.1,p89.2,_,rfl,ay,ax⟩
   refine au ?_
   cases hF
   exact⟨_,v53,GY,_,rfl,ay,ax⟩
 rintro _ _ ⟨c91,DJ,Lr,g95,rfl,rfl,hE⟩
 replace hF:=aBu
 try dsimp only at hF
 refine bH hE ?_
 refine aP ?_
 rw[wk xE]
 exact⟨_,bO _,_,xE+1,BV,_,DJ,Lr,rfl,ay,aBt,ax,hF⟩
def O6(fuel:Nat)(ah:List Int)(ai:List Method)(ak:aV):Option (aV×Bool):=
 (Qn ah ai ak).bind fun r3=>
 if (!r3)then (
   some ((⟨[],[]⟩:aV),false))
 else (
   (Rv fuel ah ai ak).bind fun r6=>
   if (!r6.2)then (
     some ((⟨[],[]⟩:aV),false))
   else (
     some (r6.1,true)))
theorem anC{fuel:Nat}{ah:List Int}{aa:Sv}{ai:List Method}{aA:Sv}{ak:aV}{bi dZ:Sv}{R:aV×Bool}(hF:O6 fuel ah ai ak=some R):
   Fw.Spec Tryz.prog 96 [aa.v,aA.v,(zg [bi.v,dZ.v])] [ag aa ah,dO aA ai,ag bi ak.Head,bZ dZ ak.Atoms] (fun p:Sv×List Nat×Sv×List Nat=>(.tuple [(zg [p.1.v,p.2.2.1.v]),(.bool R.2)].toArray)) (fun p=>[a_ p.2.1 p.1 R.1.Head,uB p.2.2.2 p.2.2.1 R.1.Atoms]):=by
 refine Se 27 Tryz.func96 [.cell 6 39,.tmp 7] ?_
 intro H0 F0
 unfold O6 at hF
 refine au ?_
 refine bM (fun k1=>?_)
 refine dJ (fun k2=>?_)
 refine bF ?_
 refine bnd hF fun r3 hx4 hF=>bJ (ape hx4) (fun _=>?_)
 refine bg ?_
 refine Ci hF (fun UB hF=>?_) (fun UB hF=>?_)
 · refine au ?_
   refine aO (gy qf.h rfl (vs:=[]) .nil (cells:=[(.slice none 0 0),(.slice none 0 0)]) rfl) ?_
   refine As (.agg ([(.slice none 0 0),(.slice none 0 0)]:List Value).toArray) ?_
   refine bC ?_
   cases hF
   exact gL (⟨none,0,0⟩,[],⟨none,0,0⟩,[]) (.cellA rfl rfl .h rfl zY.h qf.h.sz rfl rfl (.tmp rfl rfl .nil)) rfl (.conv .nil (fH (Ro:=(aj aH)) (E:=3)) (.cons .nil) (.conv .nil (fH (Ro:=lK) (E:=123)) (.cons .nil) (.sel (.cons (.t .h) (.cons .h .nil)))))
 refine aX ?_
 refine bnd hF fun r6 hx7 hF=>Af (arM hx7) (fun p8=>?_)
 refine au ?_
 refine zx ?_
 refine zx ?_
 refine dJ (fun k9=>?_)
 refine As (zg [p8.1.v,p8.2.2.1.v]) ?_
 refine bF ?_
 refine Ci hF (fun KL hF=>?_) (fun KL hF=>?_)
 · refine au ?_
   refine aO (gy qf.h rfl (vs:=[]) .nil (cells:=[(.slice none 0 0),(.slice none 0 0)]) rfl) ?_
   refine As (.agg ([(.slice none 0 0),(.slice none 0 0)]:List Value).toArray) ?_
   refine bC ?_
   cases hF
   exact gL (⟨none,0,0⟩,[],⟨none,0,0⟩,[]) (.cellA rfl rfl .h rfl zY.h qf.h.sz rfl rfl (.tmp rfl rfl .nil)) rfl (.conv .nil (fH (Ro:=(aj aH)) (E:=3)) (.cons .nil) (.conv .nil (fH (Ro:=lK) (E:=123)) (.cons .nil) (.sel (.cons (.t .h) (.cons .h .nil)))))
 refine bC ?_
 refine As (zg [p8.1.v,p8.2.2.1.v]) ?_
 refine bC ?_
 cases hF
 exact gL (p8.1,p8.2.1,p8.2.2.1,p8.2.2.2) (.cellA rfl rfl .h rfl zY.h qf.h.sz rfl rfl (.tmp rfl rfl .nil)) rfl (.sel (.cons .q2 (.cons .q2 .nil)))
def DV:List Int->Nat->(List Int)->Option ((List Int))
 |[],gW,jv=>some jv
 |lw::iJ,gW,jv=>((EU lw).bind fun lu=>
     if lu then (
       (app jv ([lw]:List Int)).bind fun z52=>
       some z52)
     else (
       some jv)).bind fun Li=>
   match Li with
   |za=>DV iJ (gW+1) za
def DW:List Atom->Nat->(List Int)->Option ((List Int))
 |[],k8,c2=>(Hl c2).bind fun d_=>
   (Hf d_).bind fun yR=>
   some yR
 |dz::dE,k8,c2=>(DV dz.Terms 0 c2).bind fun DF=>
   match DF with
   |ry=>DW dE (k8+1) ry
def VY(fF:List Atom):Option ((List Int)):=
 DW fF 0 ([]:List Int)
theorem anq{fF:List Atom}{aa:Sv}{R:(List Int)}(hF:VY fF=some R):
   Fw.Spec Tryz.prog 198 [aa.v,(.func (.func 199) [].toArray [].toArray)] [bZ aa fF] (fun p:Sv×List Nat=>p.1.v) (fun p=>[a_ p.2 p.1 R]):=by
 refine Se 37 Tryz.func198 [.tmp 4] ?_
 intro H0 F0
 unfold VY at hF
 refine aP ?_
 refine dx rfl (bV (g:=true) cz.h cZ.h .nil (vs:=[]) rfl rfl rfl (by simp)) (fun k1=>?_)
 refine dH (.cons .h .nil) (bY (Ro:=(aj aH)) (E:=3) (F:=[]) (xs:=([]:List Int)) bX rfl rfl) ?_
 refine eD ?_
 refine aY (bK (m:=fF.length) (fun m6 f' cs'=>∃(g:Fr)(k8:Nat)(dE:List Atom)(c2:List Int)(v3:Sv)(F4:List Nat),m6=dE.length/\f'=aN g [(1,(.func (.func 199) [].toArray [].toArray)),(5,v3.v),(11,aa.v),(12,(zi (fF.length:Int))),(13,(zi (k8:Int)))]/\List.drop k8 fF=dE/\aK cs' [a_ F4 v3 c2,bZ aa fF]/\DW dE k8 c2=some R) ⟨_,0,_,_,⟨(some ⟨k1,0,none⟩),0,1⟩,(k1::[]),rfl,ay,rfl,ax,hF⟩ ?_)
 rintro m6 _ _ ⟨g7,k8,dE,c2,v3,F4,rfl,rfl,fZ,hE,hF⟩
 refine Kb hE fF (fun Cs=>?_)
 rcases dE with _|⟨dz,dE⟩
 · have o7:=dn fZ
   rw[DW]at hF
   refine aP ?_
   refine cO ?_
   refine bu ?_
   refine bnd hF fun d_ gq hF=>fq (aaf gq) (fun r_=>?_)
   refine bC ?_
   refine bnd hF fun yR yB hF=>fq (aad yB) (fun mP=>?_)
   refine bC ?_
   cases hF
   exact Er (mP.1,mP.2)
 obtain⟨o7,iM,o9⟩:=bW fZ
 rw[DW]at hF
 refine aP ?_
 refine cK ?_
 refine au ?_
 obtain⟨DF,ac',aem⟩:=bind_some hF
 refine fD (fun f' cs'=>∃(ry:List Int)(v62:Sv)(Lj:List Nat)(g:Fr),ry=DF/\f'=aN g [(1,(.func (.func 199) [].toArray [].toArray)),(5,v62.v),(11,aa.v),(12,(zi (fF.length:Int))),(13,(zi (k8:Int)))]/\aK cs' [a_ Lj v62 ry,bZ aa fF]) ?_ ?_
 · replace hF:=ac'
   refine aY (cu (pY (a:=dz) xe.h qa.h.sz (.tmp rfl rfl) (.tmp rfl rfl) (.t .h) (Int.natCast_nonneg k8) iM (fun k25 j26=>?_)))
   refine iw (tZ dz) vw (fun p27=>?_)
   refine dJ (fun k28=>?_)
   refine As (zg [(zi dz.Rel),p27.v]) ?_
   refine bF ?_
   refine aY (bK (m:=dz.Terms.length) (fun y5 f' cs'=>∃(g:Fr)(gW:Nat)(iJ jv:List Int)(v30:Sv)(rA:List Nat),y5=iJ.length/\f'=aN g [(1,(.func (.func 199) [].toArray [].toArray)),(5,v30.v),(11,aa.v),(12,(zi (fF.length:Int))),(13,(zi (k8:Int))),(18,p27.v),(19,(zi (dz.Terms.length:Int))),(20,(zi (gW:Int)))]/\List.drop gW dz.Terms=iJ/\aK cs' [a_ rA v30 jv,bZ aa fF,ag p27 dz.Terms]/\DV iJ gW jv=some DF) ⟨_,0,_,_,v3,F4,rfl,ay,rfl,ax,hF⟩ ?_)
   rintro y5 _ _ ⟨g34,gW,iJ,jv,v30,rA,rfl,rfl,hd38,hE,hF⟩
   refine Kb hE dz.Terms (fun acL=>?_)
   rcases iJ with _|⟨lw,iJ⟩
   · have KE:=dn hd38
     rw[DV]at hF
     refine aP ?_
     refine cO ?_
     refine aP ?_
     cases hF
     exact⟨_,v30,rA,_,rfl,ay,ax⟩
   obtain⟨KE,vV,zZ⟩:=bW hd38
   rw[DV]at hF
   refine aP ?_
   refine cK ?_
   refine au ?_
   obtain⟨Li,ada,aen⟩:=bind_some hF
   refine fD (fun f' cs'=>∃(za:List Int)(v57:Sv)(wh:List Nat)(g:Fr),za=Li/\f'=aN g [(1,(.func (.func 199) [].toArray [].toArray)),(5,v57.v),(11,aa.v),(12,(zi (fF.length:Int))),(13,(zi (k8:Int))),(18,p27.v),(19,(zi (dz.Terms.length:Int))),(20,(zi (gW:Int)))]/\aK cs' [a_ wh v57 za,bZ aa fF,ag p27 dz.Terms]) ?_ ?_
   · replace hF:=ada
     refine aY (cu (pY (a:=lw) cz.h cZ.h.sz (.tmp rfl rfl) (.tmp rfl rfl) .q2 (Int.natCast_nonneg gW) vV (fun Z9 j47=>?_)))
     refine Al dG ?_
     refine aX ?_
     refine bnd hF fun lu kU hF=>mX .nil (lg awY.h (.tmp rfl rfl) bN (Pz kU)) (fun _=>?_)
     refine au ?_
     refine Ci hF (fun TW hF=>?_) (fun TW hF=>?_)
     · refine bC ?_
       refine dx rfl (bV (g:=true) cz.h cZ.h bN (vs:=[(zi lw)]) rfl rfl rfl (by intro v hv; simp at hv; rcases hv with rfl<;>rfl)) (fun rY=>?_)
       refine dH (.cons .h .nil) (bY (Ro:=(aj aH)) (E:=3) (F:=([]++[])) (xs:=([lw]:List Int)) (eF (jd (fun _=>rfl)) bX dm) rfl rfl) ?_
       refine bnd hF fun z52 Kn hF=>dU (.cons .q2 (.cons .h .nil)) (ek (Ro:=(aj aH)) cz.h iL cZ.h rfl rfl rfl (.tmp rfl rfl) (.tmp rfl rfl) Kn fM) (fun p54=>?_)
       refine bg ?_
       cases hF
       exact⟨_,p54.1,p54.2,_,rfl,ay,ax⟩
     refine au ?_
     cases hF
     exact⟨_,v30,rA,_,rfl,ay,ax⟩
   rintro _ _ ⟨za,v57,wh,g60,rfl,rfl,hE⟩
   replace hF:=aen
   try dsimp only at hF
   refine bH hE ?_
   refine aP ?_
   rw[wk gW]
   exact⟨_,bO _,_,gW+1,iJ,_,v57,wh,rfl,ay,zZ,ax,hF⟩
 rintro _ _ ⟨ry,v62,Lj,g65,rfl,rfl,hE⟩
 replace hF:=aem
 try dsimp only at hF
 refine bH hE ?_
 refine aP ?_
 rw[wk k8]
 exact⟨_,bO _,_,k8+1,dE,_,v62,Lj,rfl,ay,o9,ax,hF⟩
def AR(ak:aV):Option ((List Int)):=
 (VY ak.Atoms).bind fun r2=>
 some r2
theorem O7{ak:aV}{aa aM:Sv}{R:(List Int)}(hF:AR ak=some R):
   Fw.Spec Tryz.prog 107 [(zg [aa.v,aM.v])] [ag aa ak.Head,bZ aM ak.Atoms] (fun p:Sv×List Nat=>p.1.v) (fun p=>[a_ p.2 p.1 R]):=by
 refine Se 6 Tryz.func107 [.tmp 2] ?_
 intro H0 F0
 unfold AR at hF
 refine au ?_
 refine bM (fun k1=>?_)
 refine aX ?_
 refine bnd hF fun r2 hx3 hF=>fq (anq hx3) (fun p4=>?_)
 refine bC ?_
 cases hF
 exact Er (p4.1,p4.2)
def VW(bT:Int):Option (List Int):=
 if 0<=bT/\bT<4294967296 then some []else none
theorem ani{bT:Int}{R:List Int}(hF:VW bT=some R):
   Fw.Spec Tryz.prog 249 [(.slice none 0 0),.int .i64 bT] [] (fun p:Sv×List Nat=>p.1.v) (fun p=>[aD (az 3 (aj aH)) p.2 p.1.v R]):=by
 unfold VW at hF
 split at hF
 · rename_i h
   obtain⟨h0,h1⟩:=h
   cases hF
   obtain⟨q,rfl⟩:∃q:Nat,bT=(q:Int):=⟨bT.toNat,by omega⟩
   have w0:IntKind.i64.wrap ((0:Int)-((0:Nat):Int))=0:=by decide
   have w1:IntKind.i64.wrap ((q:Int)-0)=(q:Int):=by rw[fo (by omega) (by omega)]; omega
   refine MV (n:=27) Tryz.func249 rfl rfl (rs:=[.tmp 4]) rfl rfl rfl ?_
   intro H0 F0
   iterate 8 refine au ?_
   refine jc (b:=(decide ((q:Int)<0))) (.tmp rfl rfl) (fun hb=>absurd hb (by simp only[decide_eq_true_eq]; omega)) (fun _=>?_)
   iterate 5 refine au ?_
   refine aO (ah5 cz.h (.tmp rfl rfl)) ?_
   refine au ?_
   refine aO (jU (l:=0) cz.h (.tmp rfl rfl) ⟨none,0,rfl⟩) ?_
   refine au ?_
   rw[w0]
   refine au ?_
   rw[w1]
   iterate 6 refine au ?_
   refine jc (b:=(decide ((0:Int)<(q:Int)))) (.tmp rfl rfl) (fun hb=>?_) (fun hb=>?_)
   · have hq:0<q:=by simp only[decide_eq_true_eq]at hb; omega
     iterate 3 refine au ?_
     refine aO (ah5 cz.h (.tmp rfl rfl)) ?_
     refine aO (apC cz.h cZ.h.sz (.tmp rfl rfl) (.tmp rfl rfl)) ?_
     refine au ?_
     refine dU .nil (arK (Ro:=(aj aH)) (E:=3) cz.h ZW cZ.h rfl rfl rfl (by exact .tmp rfl rfl) (by exact .tmp rfl rfl) hq (by omega)) (fun k=>?_)
     refine au ?_
     refine aO (jU (l:=0) cz.h (.tmp rfl rfl) ⟨none,0,rfl⟩) ?_
     refine aq_ (i:=((0:Nat):Int)) cz.h cZ.h.sz (by exact .tmp rfl rfl) (.inr rfl) (by exact .tmp rfl rfl) .h rfl (by omega) (by omega) (by omega) ?_
     iterate 7 refine au ?_
     exact gL (⟨some ⟨k,0,none⟩,0,2⟩,[k]) (.tmp rfl rfl .nil) rfl (.sel (.cons .h .nil))
   · iterate 6 refine au ?_
     exact gL (⟨none,0,0⟩,[]) (.tmp rfl rfl .nil) rfl (.conv .nil (fH (Ro:=(aj aH)) (E:=3)) (.cons .nil) (.sel (.cons .h .nil)))
 · simp at hF
def G9:List (List Int)->Nat->(List Int)->Option ((List Int))
 |[],k23,c17=>some c17
 |x25::BX,k23,c17=>(app c17 x25).bind fun z35=>
   G9 BX (k23+1) z35
def DT(nA:List (List Int)):List (List Int)->Nat->Int->Option ((List Int))
 |[],k5,c1=>(VW c1).bind fun jH=>
   G9 nA 0 jH
 |x7::bR,k5,c1=>(if (decide (((IntKind.i64.wrap (c1+(x7.length:Int))):Int)<0))then (
       none)
     else (
       some ())).bind fun Ls=>
   match Ls with
   |_=>DT nA bR (k5+1) (IntKind.i64.wrap (c1+(x7.length:Int)))
def Ma(nA:List (List Int)):Option ((List Int)):=
 DT nA nA 0 0
theorem aeU{nA:List (List Int)}{aa:Sv}{R:(List Int)}(hF:Ma nA=some R):
   Fw.Spec Tryz.prog 186 [aa.v] [aR (aI 22 (aI 3 aH)) aa.v nA] (fun p:Sv×List Nat=>p.1.v) (fun p=>[a_ p.2 p.1 R]):=by
 refine Se 36 Tryz.func186 [.tmp 2] ?_
 intro H0 F0
 unfold Ma at hF
 refine Cr ?_
 refine aY (bK (m:=nA.length) (fun m3 f' cs'=>∃(g:Fr)(k5:Nat)(bR:List (List Int))(c1:Int),m3=bR.length/\f'=aN g [(0,aa.v),(3,(zi c1)),(9,aa.v),(10,(zi (nA.length:Int))),(11,(zi (k5:Int)))]/\List.drop k5 nA=bR/\aK cs' [aR (aI 22 (aI 3 aH)) aa.v nA]/\DT nA bR k5 c1=some R) ⟨_,0,_,_,rfl,ay,rfl,ax,hF⟩ ?_)
 rintro m3 _ _ ⟨g4,k5,bR,c1,rfl,rfl,iR,hE,hF⟩
 refine Kb hE nA (fun wU=>?_)
 rcases bR with _|⟨x7,bR⟩
 · have lW:=dn iR
   rw[DT]at hF
   refine aP ?_
   refine cO ?_
   refine bu ?_
   refine bnd hF fun jH mf hF=>fq (ani mf) (fun p16=>?_)
   refine eD ?_
   refine aY (bK (m:=nA.length) (fun m21 f' cs'=>∃(g:Fr)(k23:Nat)(BX:List (List Int))(c17:List Int)(v18:Sv)(F19:List Nat),m21=BX.length/\f'=aN g [(6,v18.v),(25,aa.v),(26,(zi (nA.length:Int))),(27,(zi (k23:Int)))]/\List.drop k23 nA=BX/\aK cs' [a_ F19 v18 c17,aR (aI 22 (aI 3 aH)) aa.v nA]/\G9 BX k23 c17=some R) ⟨_,0,_,_,p16.1,p16.2,rfl,ay,rfl,ax,hF⟩ ?_)
   rintro m21 _ _ ⟨g22,k23,BX,c17,v18,F19,rfl,rfl,Y9,hE,hF⟩
   refine Kb hE nA (fun aFq=>?_)
   rcases BX with _|⟨x25,BX⟩
   · have aBy:=dn Y9
     rw[G9]at hF
     refine aP ?_
     refine cO ?_
     refine eG ?_
     cases hF
     exact Er (v18,F19)
   obtain⟨aBy,hx28,hd29⟩:=bW Y9
   rw[G9]at hF
   refine aP ?_
   refine cK ?_
   refine bC ?_
   refine Ai hx28 (fun kX j33=>?_)
   refine wP (R':=(aI 3 aH)) iF.h (.tmp rfl rfl) .h Rs (fun w34=>?_)
   refine aX ?_
   refine bnd hF fun z35 yG hF=>dU (.cons .q2 (.rd .h rfl .nil)) (ek (Ro:=(aj aH)) cz.h iL cZ.h rfl rfl rfl (.tmp rfl rfl) (.tmp rfl rfl) yG rE) (fun p37=>?_)
   refine bu ?_
   rw[wk k23]
   exact⟨_,bO _,_,k23+1,BX,_,p37.1,p37.2,rfl,ay,hd29,ax,hF⟩
 obtain⟨lW,fU,fZ⟩:=bW iR
 rw[DT]at hF
 refine aP ?_
 refine cK ?_
 refine au ?_
 obtain⟨Ls,adb,aer⟩:=bind_some hF
 refine fD (fun f' cs'=>∃(g:Fr),Ls=()/\f'=aN g [(0,aa.v),(3,(zi (IntKind.i64.wrap (c1+(x7.length:Int))))),(9,aa.v),(10,(zi (nA.length:Int))),(11,(zi (k5:Int)))]/\aK cs' [aR (aI 22 (aI 3 aH)) aa.v nA]) ?_ ?_
 · replace hF:=adb
   refine aY (cu (pY (a:=x7) vI.h lQ.h.sz (.tmp rfl rfl) (.tmp rfl rfl) .h (Int.natCast_nonneg k5) fU (fun tL U2=>?_)))
   refine wP (R':=(aI 3 aH)) iF.h (.tmp rfl rfl) .h Rs (fun w43=>?_)
   refine axw ?_
   refine Ci hF (fun adR hF=>?_) (fun adR hF=>?_)
   · exact absurd hF (by simp)
   refine au ?_
   cases hF
   exact⟨_,rfl,ay,ax⟩
 rintro _ _ ⟨g46,rfl,rfl,hE⟩
 replace hF:=aer
 try dsimp only at hF
 refine bH hE ?_
 refine aP ?_
 rw[wk k5]
 exact⟨_,bO _,_,k5+1,bR,_,rfl,ay,fZ,ax,hF⟩
def H8(aL:aS)(jb:Int):Option (Int):=
 (tK (decide (0<=(if (aL.Values.length:Int)<(aL.Vars.length:Int)then (aL.Values.length:Int)else (aL.Vars.length:Int)))&&decide ((if (aL.Values.length:Int)<(aL.Vars.length:Int)then (aL.Values.length:Int)else (aL.Vars.length:Int))<=(aL.Vars.length:Int)))).bind fun u3=>
 (Mc (aL.Vars.take ((if (aL.Values.length:Int)<(aL.Vars.length:Int)then (aL.Values.length:Int)else (aL.Vars.length:Int))).toNat) jb).bind fun r6=>
 some r6
theorem aff{aL:aS}{aa aM:Sv}{jb R:Int}(hF:H8 aL jb=some R):
   Fw.Spec Tryz.prog 270 [(zg [aa.v,aM.v]),(zi jb)] [ag aa aL.Vars,ag aM aL.Values] (fun _:Unit=>(zi R)) (fun _=>[]):=by
 refine Se 17 Tryz.func270 [.tmp 4] ?_
 intro H0 F0
 unfold H8 at hF
 refine au ?_
 refine bM (fun k1=>?_)
 refine yg ?_
 refine aO (avv (i:=(aL.Vars.length:Int)) (j:=(aL.Values.length:Int)) (.tmp rfl rfl) (.tmp rfl rfl)) ?_
 refine bnd hF fun u3 hx5 hF=>?_
 have hc2:=Ng hx5
 simp only[Bool.and_eq_true,decide_eq_true_eq]at hc2
 refine aq4 cz.h cZ.h.sz (.tmp rfl rfl) (.tmp rfl rfl) (.t .h) hc2.1 hc2.2 (fun w4=>?_)
 refine au ?_
 refine bnd hF fun r6 hx7 hF=>bJ (aeV hx7) (fun _=>?_)
 exact ze hF
def zq(aL:aS)(oz:Int):Option (Int):=
 (Fq oz).bind fun r2=>
 if (!r2)then (
   some oz)
 else (
   (H8 aL oz).bind fun r5=>
   if (decide ((r5:Int)<0))then (
     some (-1))
   else (
     (ix aL.Values r5).bind fun x8=>
     some x8))
theorem Ww{aL:aS}{aa aM:Sv}{oz R:Int}(hF:zq aL oz=some R):
   Fw.Spec Tryz.prog 200 [(zg [aa.v,aM.v]),(zi oz)] [ag aa aL.Vars,ag aM aL.Values] (fun _:Unit=>(zi R)) (fun _=>[]):=by
 refine Se 20 Tryz.func200 [.tmp 4] ?_
 intro H0 F0
 unfold zq at hF
 refine au ?_
 refine bM (fun k1=>?_)
 refine aX ?_
 refine bnd hF fun r2 hx3 hF=>bJ (Ql hx3) (fun _=>?_)
 refine bg ?_
 refine Ci hF (fun aBz hF=>?_) (fun aBz hF=>?_)
 · exact ze hF
 refine aP ?_
 refine bnd hF fun r5 hx6 hF=>bJ (aff hx6) (fun _=>?_)
 refine bF ?_
 refine Ci hF (fun aej hF=>?_) (fun aej hF=>?_)
 · exact ze hF
 refine aX ?_
 refine zI hF fun x8 amd uQ hF=>?_
 refine Ai uQ (fun k12 j13=>?_)
 refine Al dG ?_
 exact ze hF
def ED(ae:Atom)(aL:aS):List Int->Nat->(List Int)->Option (Fact)
 |[],Ao,rX=>some (⟨ae.Rel,rX⟩:Fact)
 |x35::BZ,Ao,rX=>(zq aL x35).bind fun iN=>
   (app rX ([iN]:List Int)).bind fun z48=>
   ED ae aL BZ (Ao+1) z48
def Ns(ae:Atom)(aL:aS):Option (Fact):=
 ED ae aL ae.Terms 0 ([]:List Int)
theorem aqz{ae:Atom}{aM:Sv}{aL:aS}{aA aW:Sv}{R:Fact}(hF:Ns ae aL=some R):
   Fw.Spec Tryz.prog 248 [(zg [(zi ae.Rel),aM.v]),(zg [aA.v,aW.v])] [ag aM ae.Terms,ag aA aL.Vars,ag aW aL.Values] (fun p:Sv×List Nat=>(zg [(zi R.Rel),p.1.v])) (fun p=>[a_ p.2 p.1 R.Values]):=by
 refine Se 29 Tryz.func248 [.cell 4 147] ?_
 intro H0 F0
 unfold Ns at hF
 refine au ?_
 refine bM (fun k1=>?_)
 refine bM (fun k2=>?_)
 refine dJ (fun k3=>?_)
 refine aP ?_
 refine dx rfl (bV (g:=true) cz.h cZ.h .nil (vs:=[]) rfl rfl rfl (by simp)) (fun k4=>?_)
 refine dH (.cons .h .nil) (bY (Ro:=(aj aH)) (E:=3) (F:=[]) (xs:=([]:List Int)) bX rfl rfl) ?_
 refine aO (gy dA.h rfl (vs:=[(zi ae.Rel),(.slice (some ⟨k4,0,none⟩) 0 1)]) bN (cells:=[(zi ae.Rel),(.slice (some ⟨k4,0,none⟩) 0 1)]) rfl) ?_
 refine dJ (fun k5=>?_)
 refine As (zg [(zi ae.Rel),(.slice (some ⟨k4,0,none⟩) 0 1)]) ?_
 refine eD ?_
 refine aY (bK (m:=ae.Terms.length) (fun m31 f' cs'=>∃(g:Fr)(Ao:Nat)(BZ rX:List Int)(v28:Sv)(F29:List Nat),m31=BZ.length/\f'=aN g [(3,(pz k2)),(4,(pz k3)),(5,(pz k5)),(13,aM.v),(14,(zi (ae.Terms.length:Int))),(15,(zi (Ao:Int)))]/\List.drop Ao ae.Terms=BZ/\aK cs' [aQ k2 136 (zg [aA.v,aW.v]),ag aA aL.Vars,ag aW aL.Values,bS k3 147 (.agg ([(zi 0),(.slice none 0 0)]:List Value).toArray),bS k5 147 (zg [(zi ae.Rel),v28.v]),a_ F29 v28 rX,ag aM ae.Terms]/\ED ae aL BZ Ao rX=some R) ⟨_,0,_,_,⟨(some ⟨k4,0,none⟩),0,1⟩,(k4::[]),rfl,ay,rfl,ax,hF⟩ ?_)
 rintro m31 _ _ ⟨g32,Ao,BZ,rX,v28,F29,rfl,rfl,ZB,hE,hF⟩
 refine Kb hE ae.Terms (fun aFr=>?_)
 rcases BZ with _|⟨x35,BZ⟩
 · have aBA:=dn ZB
   rw[ED]at hF
   refine aP ?_
   refine cO ?_
   refine bu ?_
   refine As (zg [(zi ae.Rel),v28.v]) ?_
   refine bg ?_
   cases hF
   exact Er (v28,F29)
 obtain⟨aBA,hx38,hd39⟩:=bW ZB
 rw[ED]at hF
 refine aP ?_
 refine cK ?_
 refine bC ?_
 refine Ai hx38 (fun k42 j43=>?_)
 refine Al dG ?_
 refine bg ?_
 refine kM [0,1,2,3,4,5,6,7,8] [0,1,0,0,12,28,63,127,255] [4,6,8] mixed (by decide+kernel) ?_
 refine du ?_
 refine ed rfl .no .q5 (fun ha hp=>fI (v:=v28.v) iF.h (EN ha (.tmp rfl rfl) rfl) hp.2 rfl rfl) ?_
 refine cB ?_
 refine bnd hF fun iN xg hF=>ND rfl rfl .no (.rd .q2 rfl (.rd .q3 rfl .nil)) (.own .q5 (fun _ h=>h) .nil) (fun ha=>bU acy.h (.cons (EN ha (.tmp rfl rfl) rfl) (.cons (EN ha (.tmp rfl rfl) rfl) .nil)) (Ww xg)) (fun _=>?_)
 refine iq rfl .no rfl (fun ha=>bV (g:=true) (len:=1) (parts:=[(0,.tmp 23)]) cz.h cZ.h (.cons (EN ha (.tmp rfl rfl) rfl) .nil) (vs:=[(zi iN)]) rfl rfl rfl (by intro v hv; simp at hv; rcases hv with rfl<;>rfl)) (fun Vd=>?_)
 refine jF (.cons .h .nil) (bY (Ro:=(aj aH)) (E:=3) (F:=([]++[])) (xs:=([iN]:List Int)) (eF (jd (fun _=>rfl)) bX dm) rfl rfl) ?_
 refine bnd hF fun z48 kU hF=>df rfl rfl .no (.cons .q7 (.cons .h .nil)) (.dep rfl (.dep rfl .nil)) (fun ha=>ek (Ro:=(aj aH)) cz.h iL cZ.h rfl rfl rfl (EN ha (.tmp rfl rfl) rfl) (EN ha (.tmp rfl rfl) rfl) kU fM) (fun p50=>?_)
 refine du ?_
 refine df rfl rfl .no (.cons .q6 .nil) (.dep rfl (.dep rfl .nil)) (fun ha=>gF (e':=(zg [(zi ae.Rel),p50.1.v])) lQ.h.sz (EN ha (.tmp rfl rfl) rfl) (EN ha (.tmp rfl rfl) rfl) rfl rfl rfl rfl rfl) (fun _=>?_)
 refine du ?_
 refine aP ?_
 rw[wk Ao]
 exact⟨_,bO _,_,Ao+1,BZ,_,p50.1,p50.2,rfl,ay,hd39,ax,hF⟩
def O_(di:Int):Option (Bool):=
 some ((di:Int)!=di)
theorem afg{di:Int}{R:Bool}(hF:O_ di=some R):
   Fw.Spec Tryz.prog 289 [(zi di)] [] (fun _:Unit=>(.bool R)) (fun _=>[]):=by
 refine Se 6 Tryz.func289 [.tmp 2] ?_
 intro H0 F0
 unfold O_ at hF
 exact ze hF
def Md(di:Int)(OD:Int):Option (Int):=
 (O_ di).bind fun r1=>
 (O_ OD).bind fun r4=>
 if r1 then (
   if r4 then (
     some 0)
   else (
     some (-1)))
 else (
   if r4 then (
     some 1)
   else (
     if (decide ((di:Int)<OD))then (
       some (-1))
     else (
       if (decide ((OD:Int)<di))then (
         some 1)
       else (
         some 0))))
theorem ae3{di OD R:Int}(hF:Md di OD=some R):
   Fw.Spec Tryz.prog 252 [(zi di),(zi OD)] [] (fun _:Unit=>(zi R)) (fun _=>[]):=by
 refine Se 20 Tryz.func252 [.tmp 4] ?_
 intro H0 F0
 unfold Md at hF
 refine aX ?_
 refine bnd hF fun r1 hx2 hF=>bJ (afg hx2) (fun _=>?_)
 refine aP ?_
 refine bnd hF fun r4 hx5 hF=>bJ (afg hx5) (fun _=>?_)
 refine bu ?_
 refine Ci hF (fun UB hF=>?_) (fun UB hF=>?_)
 · refine aP ?_
   refine Ci hF (fun Lt hF=>?_) (fun Lt hF=>?_)
   · exact ze hF
   exact ze hF
 refine aX ?_
 refine Ci hF (fun KL hF=>?_) (fun KL hF=>?_)
 · exact ze hF
 refine bF ?_
 refine Ci hF (fun KX hF=>?_) (fun KX hF=>?_)
 · exact ze hF
 refine bF ?_
 refine Ci hF (fun KY hF=>?_) (fun KY hF=>?_)
 · exact ze hF
 exact ze hF
def DR(lS:List Int)(mZ:List Int):List Int->Nat->Option (Int)
 |[],k4=>if (decide (((lS.length:Int):Int)<(mZ.length:Int)))then (
     some (-1))
   else (
     some 0)
 |x6::aJ,k4=>if (decide (((mZ.length:Int):Int)<=(k4:Int)))then (
     some 1)
   else (
     (ix mZ (k4:Int)).bind fun jG=>
     (Md x6 jG).bind fun iV=>
     if ((iV:Int)!=0)then (
       some iV)
     else (
       DR lS mZ aJ (k4+1)))
def L_(lS:List Int)(mZ:List Int):Option (Int):=
 DR lS mZ lS 0
theorem aeT{lS:List Int}{aa:Sv}{mZ:List Int}{aA:Sv}{R:Int}(hF:L_ lS mZ=some R):
   Fw.Spec Tryz.prog 188 [aa.v,aA.v] [ag aa lS,ag aA mZ] (fun _:Unit=>(zi R)) (fun _=>[]):=by
 refine Se 36 Tryz.func188 [.tmp 4] ?_
 intro H0 F0
 unfold L_ at hF
 refine eG ?_
 refine aY (bK (m:=lS.length) (fun m2 f' cs'=>∃(g:Fr)(k4:Nat)(aJ:List Int),m2=aJ.length/\f'=aN g [(0,aa.v),(1,aA.v),(9,aa.v),(10,(zi (lS.length:Int))),(11,(zi (k4:Int)))]/\List.drop k4 lS=aJ/\aK cs' [ag aa lS,ag aA mZ]/\DR lS mZ aJ k4=some R) ⟨_,0,_,rfl,ay,rfl,ax,hF⟩ ?_)
 rintro m2 _ _ ⟨g3,k4,aJ,rfl,rfl,hd7,hE,hF⟩
 refine Kb hE lS (fun jV=>?_)
 rcases aJ with _|⟨x6,aJ⟩
 · have fB:=dn hd7
   rw[DR]at hF
   refine aP ?_
   refine cO ?_
   refine Cr ?_
   refine Ci hF (fun aBB hF=>?_) (fun aBB hF=>?_)
   · exact ze hF
   exact ze hF
 obtain⟨fB,dF,fw⟩:=bW hd7
 rw[DR]at hF
 refine aP ?_
 refine cK ?_
 refine aP ?_
 refine Ai dF (fun k14 GQ=>?_)
 refine Al dG ?_
 refine jD ?_
 refine Ci hF (fun CX hF=>?_) (fun CX hF=>?_)
 · exact ze hF
 refine aP ?_
 refine zI hF fun jG Od nK hF=>?_
 refine Ai nK (fun k20 uY=>?_)
 refine Al dG ?_
 refine aX ?_
 refine bnd hF fun iV tq hF=>bJ (ae3 tq) (fun _=>?_)
 refine bu ?_
 refine Ci hF (fun Us hF=>?_) (fun Us hF=>?_)
 · exact ze hF
 refine aX ?_
 rw[wk k4]
 exact⟨_,bO _,_,k4+1,aJ,rfl,ay,fw,ax,hF⟩
def Mf:List Int->Nat->Option (Int)
 |[],k4=>some 0
 |x6::aJ,k4=>if ((x6:Int)!=0)then (
     some x6)
   else (
     Mf aJ (k4+1))
def PG(B_:List Int):Option (Int):=
 Mf B_ 0
theorem aod{B_:List Int}{aa:Sv}{R:Int}(hF:PG B_=some R):
   Fw.Spec Tryz.prog 275 [aa.v] [ag aa B_] (fun _:Unit=>(zi R)) (fun _=>[]):=by
 refine Se 18 Tryz.func275 [.tmp 2] ?_
 intro H0 F0
 unfold PG at hF
 refine Cr ?_
 refine aY (bK (m:=B_.length) (fun m2 f' cs'=>∃(g:Fr)(k4:Nat)(aJ:List Int),m2=aJ.length/\f'=aN g [(3,(zi 0)),(6,aa.v),(7,(zi (B_.length:Int))),(8,(zi (k4:Int)))]/\List.drop k4 B_=aJ/\aK cs' [ag aa B_]/\Mf aJ k4=some R) ⟨_,0,_,rfl,ay,rfl,ax,hF⟩ ?_)
 rintro m2 _ _ ⟨g3,k4,aJ,rfl,rfl,hd7,hE,hF⟩
 refine Kb hE B_ (fun jV=>?_)
 rcases aJ with _|⟨x6,aJ⟩
 · have fB:=dn hd7
   rw[Mf]at hF
   refine aP ?_
   refine cO ?_
   exact ze hF
 obtain⟨fB,dF,fw⟩:=bW hd7
 rw[Mf]at hF
 refine aP ?_
 refine cK ?_
 refine bC ?_
 refine Ai dF (fun k13 lY=>?_)
 refine Al dG ?_
 refine bF ?_
 refine Ci hF (fun TN hF=>?_) (fun TN hF=>?_)
 · exact ze hF
 refine aX ?_
 rw[wk k4]
 exact⟨_,bO _,_,k4+1,aJ,rfl,ay,fw,ax,hF⟩
def Ik(ae:Fact)(aL:Fact):Option (Int):=
 (Md ae.Rel aL.Rel).bind fun r3=>
 (L_ ae.Values aL.Values).bind fun r6=>
 (PG ([r3,r6]:List Int)).bind fun r10=>
 some r10
theorem aal{ae:Fact}{aM:Sv}{aL:Fact}{aW:Sv}{R:Int}(hF:Ik ae aL=some R):
   Fw.Spec Tryz.prog 260 [(zg [(zi ae.Rel),aM.v]),(zg [(zi aL.Rel),aW.v])] [ag aM ae.Values,ag aW aL.Values] (fun _:Unit=>(zi R)) (fun _=>[]):=by
 refine Se 17 Tryz.func260 [.tmp 4] ?_
 intro H0 F0
 unfold Ik at hF
 refine au ?_
 refine bM (fun k1=>?_)
 refine bM (fun k2=>?_)
 refine bg ?_
 refine dS [0,1,2,3,5,6,7,8,4,9,10,11,12] [0,1,0,4,15,0,32,0,128,511,1023,2047,4095] [4,9,11] mixed (by decide+kernel) ?_
 refine aAd ?_
 refine bnd hF fun r3 hx4 hF=>jk (ae3 hx4) (fun _=>?_)
 refine bnd hF fun r6 hx7 hF=>jk (aeT hx7) (fun _=>?_)
 refine iq rfl .no rfl (fun ha=>bV (g:=true) (len:=2) (parts:=[(0,.tmp 9),(1,.tmp 14)]) cz.h cZ.h (.cons (EN ha (.tmp rfl rfl) rfl) (.cons (EN ha (.tmp rfl rfl) rfl) .nil)) (vs:=[(zi r3),(zi r6)]) rfl rfl rfl (by intro v hv; simp at hv; rcases hv with rfl|rfl<;>rfl)) (fun k9=>?_)
 refine jF (.cons .h .nil) (bY (Ro:=(aj aH)) (E:=3) (F:=([]++([]++[]))) (xs:=([r3,r6]:List Int)) (eF (jd (fun _=>rfl)) (eF (jd (fun _=>rfl)) bX dm) dm) rfl rfl) ?_
 refine bnd hF fun r10 uQ hF=>df rfl rfl .no (.cons .h .nil) (.dep rfl .nil) (fun ha=>gH bq (fun _=>.nil) (bU axc.h (.cons (EN ha (.tmp rfl rfl) rfl) .nil) (@aod ([r3,r6]:List Int) (⟨(some ⟨k9,0,none⟩),2,1⟩) _ uQ))) (fun _=>?_)
 refine cB ?_
 exact ze hF
def PY(di:Fact)(aC:Fact):Option (Bool):=
 (Ik di aC).bind fun r2=>
 some ((r2:Int)==0)
theorem aoI{di:Fact}{aM:Sv}{bD:Nat}{aC:Fact}{eQ:Sv}{R:Bool}(hF:PY di aC=some R):
   Fw.Spec Tryz.prog 294 [(zg [(zi di.Rel),aM.v]),(pz bD)] [ag aM di.Values,aQ bD 147 (zg [(zi aC.Rel),eQ.v]),ag eQ aC.Values] (fun _:Unit=>(.bool R)) (fun _=>[]):=by
 refine Se 8 Tryz.func294 [.tmp 3] ?_
 intro H0 F0
 unfold PY at hF
 refine au ?_
 refine bM (fun k1=>?_)
 refine aX ?_
 refine bnd hF fun r2 hx3 hF=>bJ (aal hx3) (fun _=>?_)
 exact ze hF
def LM(aC:Fact):List Fact->Nat->Option (Int)
 |[],k4=>some (-1)
 |x6::aJ,k4=>(PY x6 aC).bind fun r16=>
   if r16 then (
     some (k4:Int))
   else (
     LM aC aJ (k4+1))
def VK(ah:List Fact)(aC:Fact):Option (Int):=
 LM aC ah 0
theorem amW{ah:List Fact}{aa:Sv}{bD:Nat}{aC:Fact}{eQ:Sv}{R:Int}(hF:VK ah aC=some R):
   Fw.Spec Tryz.prog 258 [aa.v,(.func (.func 294) [].toArray [(pz bD)].toArray)] [dD aa ah,aQ bD 147 (zg [(zi aC.Rel),eQ.v]),ag eQ aC.Values] (fun _:Unit=>(zi R)) (fun _=>[]):=by
 refine Se 19 Tryz.func258 [.tmp 4] ?_
 intro H0 F0
 unfold VK at hF
 refine eG ?_
 refine aY (bK (m:=ah.length) (fun m2 f' cs'=>∃(g:Fr)(k4:Nat)(aJ:List Fact),m2=aJ.length/\f'=aN g [(0,aa.v),(1,(.func (.func 294) [].toArray [(pz bD)].toArray)),(7,(zi (ah.length:Int))),(8,(zi (k4:Int)))]/\List.drop k4 ah=aJ/\aK cs' [dD aa ah,aQ bD 147 (zg [(zi aC.Rel),eQ.v]),ag eQ aC.Values]/\LM aC aJ k4=some R) ⟨_,0,_,rfl,ay,rfl,ax,hF⟩ ?_)
 rintro m2 _ _ ⟨g3,k4,aJ,rfl,rfl,hd7,hE,hF⟩
 refine Kb hE ah (fun jV=>?_)
 rcases aJ with _|⟨x6,aJ⟩
 · have fB:=dn hd7
   rw[LM]at hF
   refine aP ?_
   refine cO ?_
   exact ze hF
 obtain⟨fB,dF,fw⟩:=bW hd7
 rw[LM]at hF
 refine aP ?_
 refine cK ?_
 refine jD ?_
 refine Ai dF (fun k13 lY=>?_)
 refine iw (ky x6) kL (fun jm=>?_)
 refine bnd hF fun r16 iX hF=>mX (.rd .h rfl (.rd .q3 rfl (.rd .q4 rfl .nil))) (lg aw'.h (.tmp rfl rfl) bN (aoI iX)) (fun _=>?_)
 refine au ?_
 refine Ci hF (fun mI hF=>?_) (fun mI hF=>?_)
 · exact ze hF
 refine aX ?_
 rw[wk k4]
 exact⟨_,bO _,_,k4+1,aJ,rfl,ay,fw,ax,hF⟩
def OO(ah:List Fact)(aC:Fact):Option (Bool):=
 (VK ah aC).bind fun r1=>
 some (decide ((0:Int)<=r1))
theorem amQ{ah:List Fact}{aa:Sv}{bD:Nat}{aC:Fact}{eQ:Sv}{R:Bool}(hF:OO ah aC=some R):
   Fw.Spec Tryz.prog 293 [aa.v,(.func (.func 294) [].toArray [(pz bD)].toArray)] [dD aa ah,aQ bD 147 (zg [(zi aC.Rel),eQ.v]),ag eQ aC.Values] (fun _:Unit=>(.bool R)) (fun _=>[]):=by
 refine Se 9 Tryz.func293 [.tmp 4] ?_
 intro H0 F0
 unfold OO at hF
 refine bu ?_
 refine bnd hF fun r1 hx2 hF=>bJ (amW hx2) (fun _=>?_)
 exact ze hF
def EX(ai:List Fact)(aU:Fact):Option (Bool):=
 (OO ai aU).bind fun r2=>
 some r2
theorem aaI{ai:List Fact}{aa:Sv}{aU:Fact}{aW:Sv}{R:Bool}(hF:EX ai aU=some R):
   Fw.Spec Tryz.prog 257 [aa.v,(zg [(zi aU.Rel),aW.v])] [dD aa ai,ag aW aU.Values] (fun _:Unit=>(.bool R)) (fun _=>[]):=by
 refine Se 8 Tryz.func257 [.tmp 4] ?_
 intro H0 F0
 unfold EX at hF
 refine au ?_
 refine bM (fun k1=>?_)
 refine aP ?_
 refine aO (rC (fn:=.func 294) (vs:=[]) (us:=[(pz k1)]) .nil bN) ?_
 refine bnd hF fun r2 hx3 hF=>bJ (amQ hx3) (fun _=>?_)
 exact ze hF
def QC(di:Fact)(aC:Fact):Option (Bool):=
 (Ik di aC).bind fun r2=>
 some (decide ((0:Int)<r2))
theorem apS{di:Fact}{aM:Sv}{bD:Nat}{aC:Fact}{eQ:Sv}{R:Bool}(hF:QC di aC=some R):
   Fw.Spec Tryz.prog 259 [(zg [(zi di.Rel),aM.v]),(pz bD)] [ag aM di.Values,aQ bD 147 (zg [(zi aC.Rel),eQ.v]),ag eQ aC.Values] (fun _:Unit=>(.bool R)) (fun _=>[]):=by
 refine Se 8 Tryz.func259 [.tmp 3] ?_
 intro H0 F0
 unfold QC at hF
 refine au ?_
 refine bM (fun k1=>?_)
 refine aX ?_
 refine bnd hF fun r2 hx3 hF=>bJ (aal hx3) (fun _=>?_)
 exact ze hF
def LQ(aC:Fact):List Fact->Nat->Option (Int)
 |[],k4=>some (-1)
 |x6::aJ,k4=>(QC x6 aC).bind fun r16=>
   if r16 then (
     some (k4:Int))
   else (
     LQ aC aJ (k4+1))
def VL(ah:List Fact)(aC:Fact):Option (Int):=
 LQ aC ah 0
theorem amY{ah:List Fact}{aa:Sv}{bD:Nat}{aC:Fact}{eQ:Sv}{R:Int}(hF:VL ah aC=some R):
   Fw.Spec Tryz.prog 258 [aa.v,(.func (.func 259) [].toArray [(pz bD)].toArray)] [dD aa ah,aQ bD 147 (zg [(zi aC.Rel),eQ.v]),ag eQ aC.Values] (fun _:Unit=>(zi R)) (fun _=>[]):=by
 refine Se 19 Tryz.func258 [.tmp 4] ?_
 intro H0 F0
 unfold VL at hF
 refine eG ?_
 refine aY (bK (m:=ah.length) (fun m2 f' cs'=>∃(g:Fr)(k4:Nat)(aJ:List Fact),m2=aJ.length/\f'=aN g [(0,aa.v),(1,(.func (.func 259) [].toArray [(pz bD)].toArray)),(7,(zi (ah.length:Int))),(8,(zi (k4:Int)))]/\List.drop k4 ah=aJ/\aK cs' [dD aa ah,aQ bD 147 (zg [(zi aC.Rel),eQ.v]),ag eQ aC.Values]/\LQ aC aJ k4=some R) ⟨_,0,_,rfl,ay,rfl,ax,hF⟩ ?_)
 rintro m2 _ _ ⟨g3,k4,aJ,rfl,rfl,hd7,hE,hF⟩
 refine Kb hE ah (fun jV=>?_)
 rcases aJ with _|⟨x6,aJ⟩
 · have fB:=dn hd7
   rw[LQ]at hF
   refine aP ?_
   refine cO ?_
   exact ze hF
 obtain⟨fB,dF,fw⟩:=bW hd7
 rw[LQ]at hF
 refine aP ?_
 refine cK ?_
 refine jD ?_
 refine Ai dF (fun k13 lY=>?_)
 refine iw (ky x6) kL (fun jm=>?_)
 refine bnd hF fun r16 iX hF=>mX (.rd .h rfl (.rd .q3 rfl (.rd .q4 rfl .nil))) (lg axd.h (.tmp rfl rfl) bN (apS iX)) (fun _=>?_)
 refine au ?_
 refine Ci hF (fun mI hF=>?_) (fun mI hF=>?_)
 · exact ze hF
 refine aX ?_
 rw[wk k4]
 exact⟨_,bO _,_,k4+1,aJ,rfl,ay,fw,ax,hF⟩
def Jg(aU:Fact):Option (Fact):=
 (xI aU.Values).bind fun r3=>
 some (⟨aU.Rel,r3⟩:Fact)
theorem aaC{aU:Fact}{aM:Sv}{R:Fact}(hF:Jg aU=some R):
   Fw.Spec Tryz.prog 195 [(zg [(zi aU.Rel),aM.v])] [ag aM aU.Values] (fun p:Sv×List Nat=>(zg [(zi R.Rel),p.1.v])) (fun p=>[a_ p.2 p.1 R.Values]):=by
 refine Se 9 Tryz.func195 [.cell 2 147] ?_
 intro H0 F0
 unfold Jg at hF
 refine au ?_
 refine bM (fun k1=>?_)
 refine dJ (fun k2=>?_)
 refine au ?_
 refine dS [0,1,2,3,4,5,6] [0,1,0,4,12,31,63] [4,6] mixed (by decide+kernel) ?_
 refine sU ?_
 refine bnd hF fun r3 hx4 hF=>ni (Ha hx4) (fun p5=>?_)
 refine bQ rfl .no (fun ha=>gy dA.h rfl (vs:=[(zi aU.Rel),p5.1.v]) (.cons (EN ha (.tmp rfl rfl) rfl) (.cons (EN ha (.tmp rfl rfl) rfl) .nil)) (cells:=[(zi aU.Rel),p5.1.v]) rfl) ?_
 refine df rfl rfl .no (.cons (.t .h) .nil) .nil (fun ha=>gF (e':=(zg [(zi aU.Rel),p5.1.v])) (v:=(zg [(zi aU.Rel),p5.1.v])) dA.h.sz (EN ha (.tmp rfl rfl) rfl) (EN ha (.tmp rfl rfl) rfl) rfl rfl rfl rfl rfl) (fun _=>?_)
 refine du ?_
 refine au ?_
 cases hF
 exact Er (p5.1,p5.2)
def L8(ah:List Fact)(lD:Int)(iU:List Fact):Option (List Fact):=
 match iU with
 |[a]=>if 0<=lD/\lD.toNat<=ah.length/\ah.length+1<4294967296 then some (ah.take lD.toNat++a::ah.drop lD.toNat)else none
 |_=>none
set_option maxHeartbeats 4000000 in
theorem anh(es:List Value)(e:Value)(v u:Sv)(F F2:List Nat)(i:Nat)(hi:i<=es.length)(hb:es.length+1<4294967296):Fw.Spec Tryz.prog 261 [v.v,.int .i64 (i:Int),u.v] [aD (az 147 (aj (gB 2))) F v.v es,aD (az 147 (aj (gB 2))) F2 u.v [e]] (fun q:Sv×List Nat=>q.1.v) (fun q=>[aD (az 147 (aj (gB 2))) q.2 q.1.v (es.take i++e::es.drop i)]):=by
 refine MV (n:=95) Tryz.func261 rfl rfl (rs:=[.tmp 6]) rfl rfl rfl ?_
 intro H0 F0
 refine cu ?_
 refine aO (iZ (v:=(.slice none 0 0)) EV.nilSlice) ?_
 refine dI ?_
 refine cu ?_
 refine aO (eH (v:=v.v) (.tmp rfl rfl)) ?_
 refine aO (eH (v:=(.int .i64 (i:Int))) (.tmp rfl rfl)) ?_
 refine dU (.cons .h .nil) (aq9 dX.h dA.h.sz (.tmp rfl rfl) (.tmp rfl rfl) hi) (fun w0=>?_)
 refine dI ?_
 refine cu ?_
 refine aO (eH (v:=u.v) (.tmp rfl rfl)) ?_
 refine fQ (.t .h) (fun hp=>jU (l:=1) dX.h (.tmp rfl rfl) (uh hp)) ?_
 refine aO (iZ (v:=(.int .i64 ((1:Nat):Int))) (.tmp rfl rfl)) ?_
 refine dI ?_
 refine h_ ?_
 refine cu ?_
 refine aO (eH (v:=(.int .i64 ((1:Nat):Int))) (.tmp rfl rfl)) ?_
 refine aO (Jw (i:=((1:Nat):Int)) (j:=0) (.tmp rfl rfl) (.int _ _)) ?_
 refine dI ?_
 refine jc (b:=(((1:Nat):Int)==0)) (.tmp rfl rfl) (fun hb0=>absurd hb0 (by decide)) (fun _=>?_)
 refine nC ?_
 refine cu ?_
 refine aO (eH (v:=v.v) (.tmp rfl rfl)) ?_
 refine fQ .h (fun hp=>jU (l:=es.length) dX.h (.tmp rfl rfl) (uh hp)) ?_
 refine aO (iZ (v:=(.int .i64 (es.length:Int))) (.tmp rfl rfl)) ?_
 refine dI ?_
 refine h_ ?_
 refine cu ?_
 refine aO (eH (v:=(.int .i64 (i:Int))) (.tmp rfl rfl)) ?_
 refine aO (eH (v:=(.int .i64 (es.length:Int))) (.tmp rfl rfl)) ?_
 refine aO (Jw (i:=(i:Int)) (j:=(es.length:Int)) (.tmp rfl rfl) (.tmp rfl rfl)) ?_
 refine dI ?_
 refine jc (b:=((i:Int)==(es.length:Int))) (.tmp rfl rfl) (fun hb1=>?_) (fun hb1=>?_)
 · have hie:i=es.length:=by simp only[beq_iff_eq]at hb1; omega
   refine cu ?_
   refine aO (eH (v:=v.v) (.tmp rfl rfl)) ?_
   refine aO (eH (v:=u.v) (.tmp rfl rfl)) ?_
   refine dU (.cons .h (.cons .h .nil)) (ek (Ro:=(aj (gB 2))) dX.h CK dA.h rfl rfl rfl (.tmp rfl rfl) (.tmp rfl rfl) (kz (xs:=es) (ys:=[e]) (by simpa using hb)) fM) (fun p=>?_)
   refine aO (iZ (v:=p.1.v) (.tmp rfl rfl)) ?_
   refine dI ?_
   refine Fv ?_
   rw[hie,List.take_length,List.drop_length]
   exact gL p (.tmp rfl rfl .nil) rfl (.sel (.cons .h .nil))
 refine nC ?_
 have hlt:i<es.length:=by simp at hb1; omega
 refine uu .h (abt (by intro h; rw[h]at hlt; simp at hlt)) (fun hv=>?_)
 obtain⟨k0,m0,rfl,hm0⟩:=hv
 refine uu (.t .h) (abt (by simp)) (fun hu=>?_)
 obtain⟨k1,m1,rfl,hm1⟩:=hu
 refine avN (t:=0) (k:=k0) (l:=es.length) (m:=m0) rfl rfl hm0 (by omega) .h rfl (fun c hc=>?_)
 have w1:IntKind.i64.wrap ((es.length:Int)+((1:Nat):Int))=((es.length+1:Nat):Int):=by rw[fo (by omega) (by omega)]; rfl
 have w2:IntKind.i64.wrap ((i:Int)+((1:Nat):Int))=((i+1:Nat):Int):=by rw[fo (by omega) (by omega)]; rfl
 have w3:IntKind.i64.wrap (((es.length+1:Nat):Int)-(i:Int))=((es.length+1-i:Nat):Int):=by rw[fo (by omega) (by omega)]; omega
 have hel:(es.take i++e::es.drop i).length=es.length+1:=asW hi
 refine h_ ?_
 refine cu ?_
 refine aO (eH (v:=(.int .i64 (es.length:Int))) (.tmp rfl rfl)) ?_
 refine aO (eH (v:=(.int .i64 ((1:Nat):Int))) (.tmp rfl rfl)) ?_
 refine aO (mq (i:=(es.length:Int)) (j:=((1:Nat):Int)) (.tmp rfl rfl) (.tmp rfl rfl)) ?_
 rw[w1]
 refine aO (eH (v:=(.slice (some ⟨k0,0,none⟩) es.length (c+3))) (.tmp rfl rfl)) ?_
 refine fQ .h (fun hp=>atT dX.h hp rfl (.tmp rfl rfl)) ?_
 refine aO (RB (i:=((es.length+1:Nat):Int)) (j:=(c:Int)) (.tmp rfl rfl) (.tmp rfl rfl)) ?_
 refine dI ?_
 refine jc (b:=(decide ((c:Int)<((es.length+1:Nat):Int)))) (.tmp rfl rfl) (fun hb2=>?_) (fun hb2=>?_)
 · have hcl:c<es.length+1:=by simp only[decide_eq_true_eq]at hb2; omega
   refine cu ?_
   refine aO (eH (v:=(.slice (some ⟨k0,0,none⟩) es.length (c+3))) (.tmp rfl rfl)) ?_
   refine aO (eH (v:=(.int .i64 (i:Int))) (.tmp rfl rfl)) ?_
   refine fQ .h (fun hp=>agx (j:=i) dX.h dA.h.sz hp rfl (.tmp rfl rfl) (.tmp rfl rfl) (by omega)) ?_
   refine aO (eH (v:=(.int .i64 (es.length:Int))) (.tmp rfl rfl)) ?_
   refine aO (eH (v:=(.int .i64 ((1:Nat):Int))) (.tmp rfl rfl)) ?_
   refine aO (mq (i:=(es.length:Int)) (j:=((1:Nat):Int)) (.tmp rfl rfl) (.tmp rfl rfl)) ?_
   rw[w1]
   refine aO (eH (v:=(.int .i64 (i:Int))) (.tmp rfl rfl)) ?_
   refine aO (acp (i:=((es.length+1:Nat):Int)) (j:=(i:Int)) (.tmp rfl rfl) (.tmp rfl rfl)) ?_
   rw[w3]
   refine l9 (.cons .h .nil) (apB (c:=c) (q:=es.length+1-i) dX.h ZW dA.h rfl rfl rfl rfl rfl rfl (.tmp rfl rfl) (.tmp rfl rfl) (by omega) (by omega) (by omega) (by omega)) (fun k2=>?_)
   rw[show i+(es.length+1-i)=es.length+1 from by omega]
   refine aO (iZ (v:=(.slice (some ⟨k2,0,none⟩) (es.length+1) 2)) (.tmp rfl rfl)) ?_
   refine dI ?_
   refine cu ?_
   refine aO (eH (v:=(.slice (some ⟨k2,0,none⟩) (es.length+1) 2)) (.tmp rfl rfl)) ?_
   refine aO (eH (v:=(.int .i64 (i:Int))) (.tmp rfl rfl)) ?_
   refine fQ .h (fun hp=>EI (j:=i) dX.h dA.h.sz hp rfl (.tmp rfl rfl) (.tmp rfl rfl) (by omega)) ?_
   refine aO (eH (v:=(.slice (some ⟨k1,0,none⟩) 1 m1)) (.tmp rfl rfl)) ?_
   refine l9 (.cons .h (.cons (.t .h) .nil)) (abJ (m1:=0) (m2:=m1) (ia:=i) (ja:=0) (ld:=es.length+1-i) (ls:=1) (es2:=[e]) (es':=es.take i++e::List.replicate (es.length-i) (.agg [(.int .i64 0),(.slice none 0 0)].toArray)) dX.h dA.h.sz rfl rfl rfl (by exact .tmp rfl rfl) (by exact .tmp rfl rfl) (by omega) (by omega) (by rw[List.length_singleton]; omega) (by simp; omega) (atU (e:=e) (z:=(.agg [(.int .i64 0),(.slice none 0 0)].toArray)) hlt) (by simp; omega)) (fun _=>?_)
   refine dI ?_
   refine dS [0,1,2,3,4,5,6,7,8] [0,0,0,6,15,0,0,96,255] [8] mixed (by decide+kernel) ?_
   refine bQ rfl .no (fun ha=>eH (v:=(.slice (some ⟨k2,0,none⟩) (es.length+1) 2)) (EN ha (.tmp rfl rfl) rfl)) ?_
   refine bQ rfl .no (fun ha=>eH (v:=(.int .i64 (i:Int))) (EN ha (.tmp rfl rfl) rfl)) ?_
   refine bQ rfl .no (fun ha=>eH (v:=(.int .i64 ((1:Nat):Int))) (EN ha (.tmp rfl rfl) rfl)) ?_
   refine bQ rfl .no (fun ha=>mq (i:=(i:Int)) (j:=((1:Nat):Int)) (EN ha (.tmp rfl rfl) rfl) (EN ha (.tmp rfl rfl) rfl)) ?_
   rw[w2]
   refine ed rfl .no .h (fun ha hp=>EI (j:=i+1) dX.h dA.h.sz hp rfl (EN ha (.tmp rfl rfl) rfl) (EN ha (.tmp rfl rfl) rfl) (by omega)) ?_
   refine bQ rfl .no (fun ha=>eH (v:=(.slice (some ⟨k0,0,none⟩) es.length (c+3))) (EN ha (.tmp rfl rfl) rfl)) ?_
   refine bQ rfl .no (fun ha=>eH (v:=(.int .i64 (i:Int))) (EN ha (.tmp rfl rfl) rfl)) ?_
   refine ed rfl .no (.t (.t .h)) (fun ha hp=>EI (j:=i) dX.h dA.h.sz hp rfl (EN ha (.tmp rfl rfl) rfl) (EN ha (.tmp rfl rfl) rfl) (by omega)) ?_
   refine qB rfl rfl .no (.cons .h (.cons (.t .h) .nil)) (.dep rfl (.dep rfl .nil)) (fun ha=>abJ dX.h dA.h.sz rfl rfl rfl (EN ha (.tmp rfl rfl) rfl) (EN ha (.tmp rfl rfl) rfl) (by omega) (by omega) (by omega) (by simp; omega) (atW (e:=e) (z:=(.agg [(.int .i64 0),(.slice none 0 0)].toArray)) hlt) (by omega)) (fun _=>?_)
   refine p_ ?_
   refine cu ?_
   refine aO (eH (v:=(.slice (some ⟨k2,0,none⟩) (es.length+1) 2)) (.tmp rfl rfl)) ?_
   refine aO (iZ (v:=(.slice (some ⟨k2,0,none⟩) (es.length+1) 2)) (.tmp rfl rfl)) ?_
   refine dI ?_
   refine Fv ?_
   rw[hel]
   exact gL (⟨some ⟨k2,0,none⟩,es.length+1,2⟩,[k2]) (.tmp rfl rfl .nil) rfl (.sel (.cons .h .nil))
 refine nC ?_
 have hcl:es.length+1<=c:=by simp only[decide_eq_false_iff_not]at hb2; omega
 refine cu ?_
 refine aO (eH (v:=(.slice (some ⟨k0,0,none⟩) es.length (c+3))) (.tmp rfl rfl)) ?_
 refine aO (eH (v:=(.int .i64 (es.length:Int))) (.tmp rfl rfl)) ?_
 refine aO (eH (v:=(.int .i64 ((1:Nat):Int))) (.tmp rfl rfl)) ?_
 refine aO (mq (i:=(es.length:Int)) (j:=((1:Nat):Int)) (.tmp rfl rfl) (.tmp rfl rfl)) ?_
 rw[w1]
 refine fQ .h (fun hp=>agx (j:=es.length+1) dX.h dA.h.sz hp rfl (.tmp rfl rfl) (.tmp rfl rfl) hcl) ?_
 refine aO (iZ (v:=(.slice (some ⟨k0,0,none⟩) (es.length+1) (c+3))) (.tmp rfl rfl)) ?_
 refine dI ?_
 refine h_ ?_
 refine cu ?_
 refine aO (eH (v:=(.slice (some ⟨k1,0,none⟩) 1 m1)) (.tmp rfl rfl)) ?_
 refine aO (eH (v:=(.slice (some ⟨k0,0,none⟩) (es.length+1) (c+3))) (.tmp rfl rfl)) ?_
 refine aO (eH (v:=(.int .i64 (i:Int))) (.tmp rfl rfl)) ?_
 refine aO (eH (v:=(.int .i64 ((1:Nat):Int))) (.tmp rfl rfl)) ?_
 refine aO (mq (i:=(i:Int)) (j:=((1:Nat):Int)) (.tmp rfl rfl) (.tmp rfl rfl)) ?_
 rw[w2]
 refine fQ .h (fun hp=>EI (j:=i+1) dX.h dA.h.sz hp rfl (.tmp rfl rfl) (.tmp rfl rfl) (by omega)) ?_
 refine l9 (.cons (.t .h) (.cons .h .nil)) (aq8 dX.h dA.h.sz rfl aua rfl rfl (.tmp rfl rfl) (.tmp rfl rfl) (by omega) (by omega)) (fun _=>?_)
 refine aO (RD (b:=false) (.tmp rfl rfl)) ?_
 refine dI ?_
 refine jc (b:=(!false)) (.tmp rfl rfl) (fun _=>?_) (fun h=>absurd h (by decide))
 refine dS [0,1,2,3,4,5,6,7,8] [0,0,0,6,15,0,0,96,255] [8] mixed (by decide+kernel) ?_
 refine bQ rfl .no (fun ha=>eH (v:=(.slice (some ⟨k0,0,none⟩) (es.length+1) (c+3))) (EN ha (.tmp rfl rfl) rfl)) ?_
 refine bQ rfl .no (fun ha=>eH (v:=(.int .i64 (i:Int))) (EN ha (.tmp rfl rfl) rfl)) ?_
 refine bQ rfl .no (fun ha=>eH (v:=(.int .i64 ((1:Nat):Int))) (EN ha (.tmp rfl rfl) rfl)) ?_
 refine bQ rfl .no (fun ha=>mq (i:=(i:Int)) (j:=((1:Nat):Int)) (EN ha (.tmp rfl rfl) rfl) (EN ha (.tmp rfl rfl) rfl)) ?_
 rw[w2]
 refine ed rfl .no (.t .h) (fun ha hp=>EI (j:=i+1) dX.h dA.h.sz hp rfl (EN ha (.tmp rfl rfl) rfl) (EN ha (.tmp rfl rfl) rfl) (by omega)) ?_
 refine bQ rfl .no (fun ha=>eH (v:=(.slice (some ⟨k0,0,none⟩) (es.length+1) (c+3))) (EN ha (.tmp rfl rfl) rfl)) ?_
 refine bQ rfl .no (fun ha=>eH (v:=(.int .i64 (i:Int))) (EN ha (.tmp rfl rfl) rfl)) ?_
 refine ed rfl .no (.t .h) (fun ha hp=>EI (j:=i) dX.h dA.h.sz hp rfl (EN ha (.tmp rfl rfl) rfl) (EN ha (.tmp rfl rfl) rfl) (by omega)) ?_
 refine df rfl rfl .no (.cons (.t .h) .nil) (.dep rfl (.dep rfl .nil)) (fun ha=>asV dX.h dA.h.sz rfl rfl (EN ha (.tmp rfl rfl) rfl) (EN ha (.tmp rfl rfl) rfl) (by omega) (by omega) (by omega) (by omega) (atX hlt) (by simp; omega)) (fun _=>?_)
 refine p_ ?_
 refine cu ?_
 refine aO (eH (v:=(.slice (some ⟨k0,0,none⟩) (es.length+1) (c+3))) (.tmp rfl rfl)) ?_
 refine aO (eH (v:=(.int .i64 (i:Int))) (.tmp rfl rfl)) ?_
 refine fQ .h (fun hp=>EI (j:=i) dX.h dA.h.sz hp rfl (.tmp rfl rfl) (.tmp rfl rfl) (by omega)) ?_
 refine aO (eH (v:=(.slice (some ⟨k1,0,none⟩) 1 m1)) (.tmp rfl rfl)) ?_
 refine l9 (.cons .h (.cons .h .nil)) (abJ (m1:=0) (m2:=m1) (ia:=i) (ja:=0) (ld:=es.length+1-i) (ls:=1) (es2:=[e]) (es':=es.take i++e::es.drop i) dX.h dA.h.sz rfl rfl rfl (by exact .tmp rfl rfl) (by exact .tmp rfl rfl) (by omega) (by omega) (by rw[List.length_singleton]; omega) (by simp; omega) (atY (e:=e) hlt) (by omega)) (fun _=>?_)
 refine dI ?_
 refine cu ?_
 refine aO (eH (v:=(.slice (some ⟨k0,0,none⟩) (es.length+1) (c+3))) (.tmp rfl rfl)) ?_
 refine aO (iZ (v:=(.slice (some ⟨k0,0,none⟩) (es.length+1) (c+3))) (.tmp rfl rfl)) ?_
 refine dI ?_
 refine asU (t:=6) (k:=k0) (l:=es.length+1) (c:=c) rfl rfl ?_
 refine Fv ?_
 rw[hel]
 exact gL (⟨some ⟨k0,0,none⟩,es.length+1,2⟩,F) (.tmp rfl rfl .nil) rfl (.sel (.cons .h .nil))
theorem aeS{ah:List Fact}{aa:Sv}{rQ:List Nat}{lD:Int}{iU:List Fact}{bi:Sv}{aBC:List Nat}{R:List Fact}(hF:L8 ah lD iU=some R):
   Fw.Spec Tryz.prog 261 [aa.v,.int .i64 lD,bi.v] [aD (az 147 fP) rQ aa.v ah,aD (az 147 fP) aBC bi.v iU] (fun p:Sv×List Nat=>p.1.v) (fun p=>[aD (az 147 fP) p.2 p.1.v R]):=by
 unfold L8 at hF
 rcases iU with _|⟨a,_|⟨_,_⟩⟩
 · simp at hF
 · dsimp only at hF
   split at hF
   · rename_i h
     obtain⟨h0,h1,h2⟩:=h
     obtain⟨i,rfl⟩:∃i:Nat,lD=(i:Int):=⟨lD.toNat,by omega⟩
     cases hF
     rw[Int.toNat_natCast]at h1 ⊢
     exact arJ (s:=2) fun es e Fa Fb hl=>anh es e aa bi Fa Fb i (by omega) (by omega)
   · simp at hF
 · simp at hF
def zB(ai:List Fact)(aU:Fact):Option ((List Fact)):=
 (EX ai aU).bind fun r2=>
 if r2 then (
   some ai)
 else (
   (VL ai aU).bind fun r5=>
   if (decide ((r5:Int)<0))then (
     (Jg aU).bind fun r8=>
     (L8 ai (ai.length:Int) ([r8]:List Fact)).bind fun iC=>
     some iC)
   else (
     (Jg aU).bind fun ik=>
     (L8 ai r5 ([ik]:List Fact)).bind fun Dv=>
     some Dv))
theorem WO{ai:List Fact}{aa:Sv}{rQ:List Nat}{aU:Fact}{aW:Sv}{R:(List Fact)}(hF:zB ai aU=some R):
   Fw.Spec Tryz.prog 194 [aa.v,(zg [(zi aU.Rel),aW.v])] [fV rQ aa ai,ag aW aU.Values] (fun p:Sv×List Nat=>p.1.v) (fun p=>[fV p.2 p.1 R]):=by
 refine Se 23 Tryz.func194 [.tmp 4] ?_
 intro H0 F0
 unfold zB at hF
 refine au ?_
 refine bM (fun k1=>?_)
 refine bu ?_
 refine bnd hF fun r2 hx3 hF=>dU (.cons (.t .h) (.rd (.t .h) rfl .nil)) (gH bq (fun _=>.nil) (bU acz.h bN (@aaI ai aa aU aW _ hx3))) (fun _=>?_)
 refine au ?_
 refine Ci hF (fun CV hF=>?_) (fun CV hF=>?_)
 · refine aX ?_
   cases hF
   exact Er (aa,rQ)
 refine bC ?_
 refine aO (rC (fn:=.func 259) (vs:=[]) (us:=[(pz k1)]) .nil bN) ?_
 refine bnd hF fun r5 hx6 hF=>dU (.cons .h (.rd .h rfl (.rd (.t .h) rfl .nil))) (gH bq (fun _=>.nil) (bU akk.h bN (@amY ai aa k1 aU aW _ hx6))) (fun _=>?_)
 refine bF ?_
 refine Ci hF (fun qN hF=>?_) (fun qN hF=>?_)
 · refine eG ?_
   refine bnd hF fun r8 dF hF=>fq (aaC dF) (fun ny=>?_)
   refine dx rfl (bV (g:=true) dX.h dA.h bN (vs:=[(zg [(zi r8.Rel),ny.1.v])]) rfl rfl rfl (by intro v hv; simp at hv; rcases hv with rfl<;>rfl)) (fun k11=>?_)
   refine dH (.cons .h (.cons .h .nil)) (bY (Ro:=fP) (E:=147) (F:=(ny.2++[])) (xs:=([r8]:List Fact)) (eF zK bX dm) rfl rfl) ?_
   refine bnd hF fun iC iM hF=>fq (@aeS _ _ _ _ _ (⟨(some ⟨k11,0,none⟩),1,1⟩) _ _ iM) (fun ve=>?_)
   refine bC ?_
   cases hF
   exact Er (ve.1,ve.2)
 refine aX ?_
 refine bnd hF fun ik hx16 hF=>fq (aaC hx16) (fun p17=>?_)
 refine dx rfl (bV (g:=true) dX.h dA.h bN (vs:=[(zg [(zi ik.Rel),p17.1.v])]) rfl rfl rfl (by intro v hv; simp at hv; rcases hv with rfl<;>rfl)) (fun k18=>?_)
 refine dH (.cons .h (.cons .h .nil)) (bY (Ro:=fP) (E:=147) (F:=(p17.2++[])) (xs:=([ik]:List Fact)) (eF zK bX dm) rfl rfl) ?_
 refine bnd hF fun Dv mJ hF=>fq (@aeS _ _ _ _ _ (⟨(some ⟨k18,0,none⟩),1,1⟩) _ _ mJ) (fun mM=>?_)
 refine bC ?_
 cases hF
 exact Er (mM.1,mM.2)
def Ja(rD:List Int):Nat->Int->Option (Int)
 |0,_=>none
 |Lu+1,G5=>(G_ rD G5).bind fun r98=>
   if r98 then (
     Ja rD Lu (IntKind.i64.wrap (G5+1)))
   else (
     some G5)
def Jb(iT:List Int)(oh:List Int):List Atom->Nat->(List Fact)->Option ((List Fact)×aS×Bool)
 |[],CZ,pg=>some (pg,(⟨iT,oh⟩:aS),true)
 |ZC::Bv,CZ,pg=>(Ns ZC (⟨iT,oh⟩:aS)).bind fun amh=>
   (zB pg amh).bind fun ami=>
   Jb iT oh Bv (CZ+1) ami
def Jc(ak:aV)(rD:List Int)(r4:(List Int))(fuel:Nat):Nat->(List Int)->(List Int)->Int->Int->Option ((List Fact)×aS×Bool)
 |0,_,_,_,_=>none
 |Lv+1,iT,oh,mQ,Ap=>if (decide ((Ap:Int)<(r4.length:Int)))then (
     (((ix r4 Ap).bind fun x83=>
       (Ja rD fuel mQ).bind fun o87=>
       match o87 with
       |tF=>(EU tF).bind fun amj=>
         if (!amj)then (
           some (.inl ([],(⟨[],[]⟩:aS),false)))
         else (
           (app iT ([x83]:List Int)).bind fun amk=>
           (app oh ([tF]:List Int)).bind fun aml=>
           some (.inr (amk,aml,(IntKind.i64.wrap (tF+1)))))):Option (Sum ((List Fact)×aS×Bool) ((List Int)×(List Int)×Int))).bind fun o78=>
     match o78 with
     | .inl r=>some r
     | .inr (c116,c119,vW)=>Jc ak rD r4 fuel Lv c116 c119 vW (IntKind.i64.wrap (Ap+1)))
   else (
     Jb iT oh ak.Atoms 0 ([]:List Fact))
def Nt(fuel:Nat)(ak:aV)(rD:List Int):Option ((List Fact)×aS×Bool):=
 (Nr ak).bind fun r4=>
 Jc ak rD r4 fuel (((r4.length:Int)-0).toNat+2) ([]:List Int) ([]:List Int) 0 0
theorem agJ{fuel:Nat}{ak:aV}{aa aM:Sv}{rD:List Int}{aA:Sv}{R:(List Fact)×aS×Bool}(hF:Nt fuel ak rD=some R):
   Fw.Spec Tryz.prog 185 [(zg [aa.v,aM.v]),aA.v] [ag aa ak.Head,bZ aM ak.Atoms,ag aA rD] (fun p:Sv×List Nat×Sv×List Nat×Sv×List Nat=>(.tuple [p.1.v,(zg [p.2.2.1.v,p.2.2.2.2.1.v]),(.bool R.2.2)].toArray)) (fun p=>[fV p.2.1 p.1 R.1,a_ p.2.2.2.1 p.2.2.1 R.2.1.Vars,a_ p.2.2.2.2.2 p.2.2.2.2.1 R.2.1.Values]):=by
 refine Se 62 Tryz.func185 [.tmp 4,.cell 5 136,.tmp 6] ?_
 intro H0 F0
 unfold Nt at hF
 refine au ?_
 refine bM (fun k1=>?_)
 refine au ?_
 refine dJ (fun k2=>?_)
 refine bC ?_
 refine aO (gy dY.h rfl (vs:=[]) .nil (cells:=[(.slice none 0 0),(.slice none 0 0)]) rfl) ?_
 refine dJ (fun k3=>?_)
 refine As (.agg ([(.slice none 0 0),(.slice none 0 0)]:List Value).toArray) ?_
 refine bF ?_
 refine bnd hF fun r4 hx5 hF=>fq (agI hx5) (fun p6=>?_)
 refine bC ?_
 refine aY (bK (m:=(((r4.length:Int)-0).toNat+2)) (fun Lv f' cs'=>∃(g:Fr)(iT oh:List Int)(mQ Ap:Int)(v63:Sv)(qZ:List Nat)(v66:Sv)(Aq:List Nat),f'=aN g [(1,aA.v),(2,(pz k1)),(5,(pz k2)),(7,(pz k3)),(8,(zi mQ)),(16,p6.1.v),(17,(zi (r4.length:Int))),(18,(zi Ap))]/\aK cs' [ag aA rD,aQ k1 39 (zg [aa.v,aM.v]),ag aa ak.Head,bZ aM ak.Atoms,bS k2 136 (.agg ([(.slice none 0 0),(.slice none 0 0)]:List Value).toArray),bS k3 136 (zg [v63.v,v66.v]),a_ qZ v63 iT,a_ Aq v66 oh,a_ p6.2 p6.1 r4]/\Jc ak rD r4 fuel Lv iT oh mQ Ap=some R) ⟨_,_,_,_,_,⟨none,0,0⟩,[],⟨none,0,0⟩,[],ay,(.conv .nil (fH (Ro:=(aj aH)) (E:=3)) (.cons .nil) (.conv .nil (fH (Ro:=(aj aH)) (E:=3)) (.cons .nil) ax)),hF⟩ ?_)
 rintro Lv _ _ ⟨g71,iT,oh,mQ,Ap,v63,qZ,v66,Aq,rfl,hE,hF⟩
 refine bH hE ?_
 rcases Lv with _|Lv
 · rw[Jc]at hF
   exact absurd hF (by simp)
 rw[Jc]at hF
 refine aP ?_
 refine Ci hF (fun ayK hF=>?_) (fun ayK hF=>?_)
 · refine au ?_
   obtain⟨o78,ayL,amm⟩:=bind_some hF
   refine fD (fun f' cs'=>∃(c116 c119:List Int)(vW:Int)(v117:Sv)(aes:List Nat)(ZE:Sv)(aet:List Nat)(g:Fr),o78= .inr (c116,c119,vW)/\f'=aN g [(1,aA.v),(2,(pz k1)),(5,(pz k2)),(7,(pz k3)),(8,(zi vW)),(16,p6.1.v),(17,(zi (r4.length:Int))),(18,(zi Ap))]/\aK cs' [ag aA rD,aQ k1 39 (zg [aa.v,aM.v]),ag aa ak.Head,bZ aM ak.Atoms,bS k2 136 (.agg ([(.slice none 0 0),(.slice none 0 0)]:List Value).toArray),bS k3 136 (zg [v117.v,ZE.v]),a_ aes v117 c116,a_ aet ZE c119,a_ p6.2 p6.1 r4]) ?_ ?_
   · replace hF:=ayL
     refine aY (cu ?_)
     refine bnd hF fun x83 ZA hF=>?_
     have aBD:=zC ZA
     obtain⟨aIk,aBE⟩:=uk ZA
     refine qA cz.h cZ.h.sz (.tmp rfl rfl) (.tmp rfl rfl) .q8 aBD (fun mh aeu=>?_)
     refine Jz (w:=(zi x83)) Ag.h (.tmp rfl rfl) .q8 aeu aBE RN ?_
     refine bg ?_
     obtain⟨o87,ayM,aBF⟩:=bind_some hF
     refine fD (fun f' cs'=>∃(tF:Int)(g:Fr),tF=o87/\f'=aN g [(1,aA.v),(2,(pz k1)),(5,(pz k2)),(7,(pz k3)),(8,(zi tF)),(10,(zi x83)),(16,p6.1.v),(17,(zi (r4.length:Int))),(18,(zi Ap))]/\aK cs' [ag aA rD,aQ k1 39 (zg [aa.v,aM.v]),ag aa ak.Head,bZ aM ak.Atoms,bS k2 136 (.agg ([(.slice none 0 0),(.slice none 0 0)]:List Value).toArray),bS k3 136 (zg [v63.v,v66.v]),a_ qZ v63 iT,a_ Aq v66 oh,a_ p6.2 p6.1 r4]) ?_ ?_
     · replace hF:=ayM
       refine aY (bK (m:=fuel) (fun Lu f' cs'=>∃(g:Fr)(G5:Int),f'=aN g [(1,aA.v),(2,(pz k1)),(5,(pz k2)),(7,(pz k3)),(8,(zi G5)),(10,(zi x83)),(16,p6.1.v),(17,(zi (r4.length:Int))),(18,(zi Ap))]/\aK cs' [ag aA rD,aQ k1 39 (zg [aa.v,aM.v]),ag aa ak.Head,bZ aM ak.Atoms,bS k2 136 (.agg ([(.slice none 0 0),(.slice none 0 0)]:List Value).toArray),bS k3 136 (zg [v63.v,v66.v]),a_ qZ v63 iT,a_ Aq v66 oh,a_ p6.2 p6.1 r4]/\Ja rD Lu G5=some o87) ⟨_,_,ay,ax,hF⟩ ?_)
       rintro Lu _ _ ⟨g91,G5,rfl,hE,hF⟩
       refine bH hE ?_
       rcases Lu with _|Lu
       · rw[Ja]at hF
         exact absurd hF (by simp)
       rw[Ja]at hF
       refine aP ?_
       refine bnd hF fun r98 hx99 hF=>bJ (aab hx99) (fun _=>?_)
       refine au ?_
       refine Ci hF (fun acM hF=>?_) (fun acM hF=>?_)
       · refine au ?_
         refine aY (nQ (Cm (zi G5) rfl rfl ?_))
         refine bC ?_
         exact⟨Lu,bO _,_,_,ay,ax,hF⟩
       exact dw hF
     rintro _ _ ⟨tF,aIl,rfl,rfl,hE⟩
     replace hF:=aBF
     try dsimp only at hF
     refine bH hE ?_
     refine bC ?_
     refine bnd hF fun amj hx104 hF=>bJ (Pz hx104) (fun _=>?_)
     refine bg ?_
     refine Ci hF (fun ayN hF=>?_) (fun ayN hF=>?_)
     · refine au ?_
       refine aO (gy dY.h rfl (vs:=[]) .nil (cells:=[(.slice none 0 0),(.slice none 0 0)]) rfl) ?_
       refine au ?_
       refine As (.agg ([(.slice none 0 0),(.slice none 0 0)]:List Value).toArray) ?_
       refine bC ?_
       cases hF
       replace hF:=amm
       try dsimp only at hF
       cases hF
       exact gL (⟨none,0,0⟩,[],⟨none,0,0⟩,[],⟨none,0,0⟩,[]) (.tmp rfl rfl (.cellA rfl rfl .h rfl jC.h dY.h.sz rfl rfl (.tmp rfl rfl .nil))) rfl (.conv .nil (fH (Ro:=fP) (E:=147)) (.cons .nil) (.conv .nil (fH (Ro:=(aj aH)) (E:=3)) (.cons .nil) (.conv .nil (fH (Ro:=(aj aH)) (E:=3)) (.cons .nil) (.sel (.cons .q2 (.cons (.t .h) (.cons .h .nil)))))))
     refine au ?_
     refine dS [0,1,2,3,5,6,7,8,4,10,9,11,12,13] [0,1,0,4,15,0,32,0,128,511,127,2047,4095,8191] [4,9,11,13] mixed (by decide+kernel) ?_
     refine du ?_
     refine ed rfl .no .q5 (fun ha hp=>fI (v:=v63.v) iF.h (EN ha (.tmp rfl rfl) rfl) hp.2 rfl rfl) ?_
     refine du ?_
     refine iq rfl .no rfl (fun ha=>bV (g:=true) (len:=1) (parts:=[(0,.tmp 33)]) cz.h cZ.h (.cons (EN ha (.tmp rfl rfl) rfl) .nil) (vs:=[(zi x83)]) rfl rfl rfl (by intro v hv; simp at hv; rcases hv with rfl<;>rfl)) (fun aBG=>?_)
     refine jF (.cons .h .nil) (bY (Ro:=(aj aH)) (E:=3) (F:=([]++[])) (xs:=([x83]:List Int)) (eF (jd (fun _=>rfl)) bX dm) rfl rfl) ?_
     refine du ?_
     refine ed rfl .no .q6 (fun ha hp=>fI (v:=v66.v) iF.h (EN ha (.tmp rfl rfl) rfl) hp.2 rfl rfl) ?_
     refine du ?_
     refine iq rfl .no rfl (fun ha=>bV (g:=true) (len:=1) (parts:=[(0,.tmp 38)]) cz.h cZ.h (.cons (EN ha (.tmp rfl rfl) rfl) .nil) (vs:=[(zi tF)]) rfl rfl rfl (by intro v hv; simp at hv; rcases hv with rfl<;>rfl)) (fun aIm=>?_)
     refine jF (.cons .h .nil) (bY (Ro:=(aj aH)) (E:=3) (F:=([]++[])) (xs:=([tF]:List Int)) (eF (jd (fun _=>rfl)) bX dm) rfl rfl) ?_
     refine bnd hF fun amk SG hF=>df rfl rfl .no (.cons .q8 (.cons (.t .h) .nil)) (.own .h (by simp[aD]) (.own .q6 (fun _ h=>h) (.dep rfl (.dep rfl .nil)))) (fun ha=>ek (Ro:=(aj aH)) cz.h iL cZ.h rfl rfl rfl (EN ha (.tmp rfl rfl) rfl) (EN ha (.tmp rfl rfl) rfl) SG fM) (fun UC=>?_)
     refine du ?_
     refine bnd hF fun aml hx112 hF=>df rfl rfl .no (.cons .q8 (.cons (.t .h) .nil)) (.dep rfl (.dep rfl (.dep rfl (.dep rfl .nil)))) (fun ha=>ek (Ro:=(aj aH)) cz.h iL cZ.h rfl rfl rfl (EN ha (.tmp rfl rfl) rfl) (EN ha (.tmp rfl rfl) rfl) hx112 fM) (fun aev=>?_)
     refine df rfl rfl .no (.cons .q7 .nil) (.dep rfl (.dep rfl (.dep rfl (.dep rfl .nil)))) (fun ha=>gF (e':=(zg [UC.1.v,v66.v])) lQ.h.sz (EN ha (.tmp rfl rfl) rfl) (EN ha (.tmp rfl rfl) rfl) rfl rfl rfl rfl rfl) (fun _=>?_)
     refine du ?_
     refine df rfl rfl .no (.cons .h .nil) (.dep rfl (.dep rfl (.dep rfl (.dep rfl .nil)))) (fun ha=>gF (e':=(zg [UC.1.v,aev.1.v])) lQ.h.sz (EN ha (.tmp rfl rfl) rfl) (EN ha (.tmp rfl rfl) rfl) rfl rfl rfl rfl rfl) (fun _=>?_)
     refine du ?_
     refine aX ?_
     cases hF
     exact⟨_,_,_,UC.1,UC.2,aev.1,aev.2,_,rfl,ay,ax⟩
   rintro _ _ ⟨c116,c119,vW,v117,aes,ZE,aet,aIn,rfl,rfl,hE⟩
   replace hF:=amm
   try dsimp only at hF
   refine bH hE ?_
   refine aP ?_
   exact⟨Lv,bO _,_,_,_,_,_,v117,aes,ZE,aet,ay,ax,hF⟩
 refine aX ?_
 refine dx rfl (bV (g:=true) dX.h dA.h .nil (vs:=[]) rfl rfl rfl (by simp)) (fun amn=>?_)
 refine dH (.cons .h .nil) (bY (Ro:=fP) (E:=147) (F:=[]) (xs:=([]:List Fact)) bX rfl rfl) ?_
 refine eG ?_
 refine aY (bK (m:=ak.Atoms.length) (fun amo f' cs'=>∃(g:Fr)(CZ:Nat)(Bv:List Atom)(pg:List Fact)(uR:Sv)(yL:List Nat),amo=Bv.length/\f'=aN g [(5,(pz k2)),(7,(pz k3)),(11,uR.v),(48,aM.v),(49,(zi (ak.Atoms.length:Int))),(50,(zi (CZ:Int)))]/\List.drop CZ ak.Atoms=Bv/\aK cs' [bS k2 136 (.agg ([(.slice none 0 0),(.slice none 0 0)]:List Value).toArray),bS k3 136 (zg [v63.v,v66.v]),a_ qZ v63 iT,a_ Aq v66 oh,fV yL uR pg,bZ aM ak.Atoms]/\Jb iT oh Bv CZ pg=some R) ⟨_,0,_,_,⟨(some ⟨amn,0,none⟩),0,1⟩,(amn::[]),rfl,ay,rfl,ax,hF⟩ ?_)
 rintro amo _ _ ⟨aIo,CZ,Bv,pg,uR,yL,rfl,rfl,X7,hE,hF⟩
 refine Kb hE ak.Atoms (fun aCV=>?_)
 rcases Bv with _|⟨ZC,Bv⟩
 · have ayO:=dn X7
   rw[Jb]at hF
   refine aP ?_
   refine cO ?_
   refine aP ?_
   refine dS [0,1,2,3,4] [0,0,1,7,15] [3] mixed (by decide+kernel) ?_
   refine du ?_
   refine ed rfl .no (.t .h) (fun ha hp=>jw jC.h dY.h.sz rfl (EN ha (.tmp rfl rfl) rfl) hp.2 rfl) ?_
   refine du ?_
   refine df rfl rfl .no (.cons .h .nil) (.dep rfl .nil) (fun ha=>gF (e':=(zg [v63.v,v66.v])) (v:=(zg [v63.v,v66.v])) dY.h.sz (EN ha (.tmp rfl rfl) rfl) (EN ha (.tmp rfl rfl) rfl) rfl rfl rfl rfl rfl) (fun _=>?_)
   refine cB ?_
   refine au ?_
   cases hF
   exact gL (uR,yL,v63,qZ,v66,Aq) (.tmp rfl rfl (.cellA rfl rfl .h rfl jC.h dY.h.sz rfl rfl (.tmp rfl rfl .nil))) rfl (.sel (.cons .q4 (.cons .q2 (.cons .q2 .nil))))
 obtain⟨ayO,ayP,ayQ⟩:=bW X7
 rw[Jb]at hF
 refine aP ?_
 refine cK ?_
 refine bC ?_
 refine Ai ayP (fun Ol aBH=>?_)
 refine iw (tZ ZC) vw (fun aBI=>?_)
 refine dJ (fun aIp=>?_)
 refine As (zg [(zi ZC.Rel),aBI.v]) ?_
 refine aX ?_
 refine bnd hF fun amh ayR hF=>Gl (.cons .q6 (.cons .q5 (.rd (.t .h) rfl .nil))) (jy (pre:=_) (.cons bq (.cons bq .nil)) (fun _=>(.cons .nil)) (jA (.rd .q2 rfl (.rd .h rfl (.rd (.t .h) rfl .nil))) (bU aw9.h bN (aqz ayR)))) (fun aIq=>?_)
 refine aj0 .q2 bq ?_
 refine bnd hF fun ami ayS hF=>fq (WO ayS) (fun amq=>?_)
 refine bu ?_
 rw[wk CZ]
 exact⟨_,bO _,_,CZ+1,Bv,_,amq.1,amq.2,rfl,ay,ayQ,ax,hF⟩
def Ew(aL:aS):List Int->Nat->(List Int)->Option ((List Int))
 |[],k10,c4=>some c4
 |tT::oC,k10,c4=>(zq aL tT).bind fun jr=>
   (app c4 ([jr]:List Int)).bind fun z25=>
   Ew aL oC (k10+1) z25
def EY(ak:aV)(aL:aS):Option ((List Int)):=
 Ew aL ak.Head 0 ([]:List Int)
theorem Wx{ak:aV}{aa aM:Sv}{aL:aS}{aA aW:Sv}{R:(List Int)}(hF:EY ak aL=some R):
   Fw.Spec Tryz.prog 108 [(zg [aa.v,aM.v]),(zg [aA.v,aW.v])] [ag aa ak.Head,bZ aM ak.Atoms,ag aA aL.Vars,ag aW aL.Values] (fun p:Sv×List Nat=>p.1.v) (fun p=>[a_ p.2 p.1 R]):=by
 refine Se 24 Tryz.func108 [.tmp 4] ?_
 intro H0 F0
 unfold EY at hF
 refine au ?_
 refine bM (fun k1=>?_)
 refine bM (fun k2=>?_)
 refine bC ?_
 refine dx rfl (bV (g:=true) cz.h cZ.h .nil (vs:=[]) rfl rfl rfl (by simp)) (fun k3=>?_)
 refine dH (.cons .h .nil) (bY (Ro:=(aj aH)) (E:=3) (F:=[]) (xs:=([]:List Int)) bX rfl rfl) ?_
 refine eG ?_
 refine aY (bK (m:=ak.Head.length) (fun m8 f' cs'=>∃(g:Fr)(k10:Nat)(oC c4:List Int)(v5:Sv)(F6:List Nat),m8=oC.length/\f'=aN g [(3,(pz k2)),(5,v5.v),(10,aa.v),(11,(zi (ak.Head.length:Int))),(12,(zi (k10:Int)))]/\List.drop k10 ak.Head=oC/\aK cs' [aQ k2 136 (zg [aA.v,aW.v]),ag aA aL.Vars,ag aW aL.Values,a_ F6 v5 c4,ag aa ak.Head]/\Ew aL oC k10 c4=some R) ⟨_,0,_,_,⟨(some ⟨k3,0,none⟩),0,1⟩,(k3::[]),rfl,ay,rfl,ax,hF⟩ ?_)
 rintro m8 _ _ ⟨g9,k10,oC,c4,v5,F6,rfl,rfl,Uq,hE,hF⟩
 refine Kb hE ak.Head (fun aye=>?_)
 rcases oC with _|⟨tT,oC⟩
 · have ad4:=dn Uq
   rw[Ew]at hF
   refine aP ?_
   refine cO ?_
   refine eG ?_
   cases hF
   exact Er (v5,F6)
 obtain⟨ad4,mf,Oe⟩:=bW Uq
 rw[Ew]at hF
 refine aP ?_
 refine cK ?_
 refine bC ?_
 refine Ai mf (fun k19 GV=>?_)
 refine Al dG ?_
 refine bu ?_
 refine bnd hF fun jr mY hF=>bJ (Ww mY) (fun _=>?_)
 refine dx rfl (bV (g:=true) cz.h cZ.h bN (vs:=[(zi jr)]) rfl rfl rfl (by intro v hv; simp at hv; rcases hv with rfl<;>rfl)) (fun k24=>?_)
 refine dH (.cons .h .nil) (bY (Ro:=(aj aH)) (E:=3) (F:=([]++[])) (xs:=([jr]:List Int)) (eF (jd (fun _=>rfl)) bX dm) rfl rfl) ?_
 refine bnd hF fun z25 ll hF=>dU (.cons .q5 (.cons .h .nil)) (ek (Ro:=(aj aH)) cz.h iL cZ.h rfl rfl rfl (.tmp rfl rfl) (.tmp rfl rfl) ll fM) (fun p27=>?_)
 refine bu ?_
 rw[wk k10]
 exact⟨_,bO _,_,k10+1,oC,_,p27.1,p27.2,rfl,ay,Oe,ax,hF⟩
def Wj(aL:aS):Option (aS):=
 (xI aL.Vars).bind fun r3=>
 (xI aL.Values).bind fun r6=>
 some (⟨r3,r6⟩:aS)
theorem an1{aL:aS}{aa aM:Sv}{R:aS}(hF:Wj aL=some R):
   Fw.Spec Tryz.prog 327 [(zg [aa.v,aM.v])] [ag aa aL.Vars,ag aM aL.Values] (fun p:Sv×List Nat×Sv×List Nat=>(zg [p.1.v,p.2.2.1.v])) (fun p=>[a_ p.2.1 p.1 R.Vars,a_ p.2.2.2 p.2.2.1 R.Values]):=by
 refine Se 10 Tryz.func327 [.cell 2 136] ?_
 intro H0 F0
 unfold Wj at hF
 refine au ?_
 refine bM (fun k1=>?_)
 refine dJ (fun k2=>?_)
 refine au ?_
 refine dS [0,1,3,4,2,5,6,7] [0,1,3,0,8,31,63,127] [2,5,7] mixed (by decide+kernel) ?_
 refine sU ?_
 refine bnd hF fun r3 hx4 hF=>ni (Ha hx4) (fun p5=>?_)
 refine bnd hF fun r6 hx7 hF=>ni (Ha hx7) (fun p8=>?_)
 refine bQ rfl .no (fun ha=>gy dY.h rfl (vs:=[p5.1.v,p8.1.v]) (.cons (EN ha (.tmp rfl rfl) rfl) (.cons (EN ha (.tmp rfl rfl) rfl) .nil)) (cells:=[p5.1.v,p8.1.v]) rfl) ?_
 refine df rfl rfl .no (.cons .q2 .nil) .nil (fun ha=>gF (e':=(zg [p5.1.v,p8.1.v])) (v:=(zg [p5.1.v,p8.1.v])) dY.h.sz (EN ha (.tmp rfl rfl) rfl) (EN ha (.tmp rfl rfl) rfl) rfl rfl rfl rfl rfl) (fun _=>?_)
 refine du ?_
 refine au ?_
 cases hF
 exact Er (p5.1,p5.2,p8.1,p8.2)
def Il(aU:Fact):List Int->Nat->(List Int)->(List Int)->Option (aS×Bool)
 |[],qy,c80,zb=>some ((⟨c80,zb⟩:aS),true)
 |x91::Cb,qy,c80,zb=>((((Fq x91).bind fun aew=>
       bif aew then ((H8 (⟨c80,zb⟩:aS) x91).bind fun UD=>
         some (decide ((UD:Int)<0)))
       else (some false)).bind fun aex=>
     match aex with
     |nY=>if nY then (
         (ix aU.Values (qy:Int)).bind fun x113=>
         (app c80 ([x91]:List Int)).bind fun aey=>
         (app zb ([x113]:List Int)).bind fun aez=>
         (ix aU.Values (qy:Int)).bind fun amr=>
         (zq (⟨aey,aez⟩:aS) x91).bind fun ams=>
         if ((ams:Int)!=amr)then (
           some (.inl ((⟨[],[]⟩:aS),false)))
         else (
           some (.inr (aey,aez))))
       else (
         (ix aU.Values (qy:Int)).bind fun amt=>
         (zq (⟨c80,zb⟩:aS) x91).bind fun amu=>
         if ((amu:Int)!=amt)then (
           some (.inl ((⟨[],[]⟩:aS),false)))
         else (
           some (.inr (c80,zb))))):Option (Sum (aS×Bool) ((List Int)×(List Int)))).bind fun o98=>
   match o98 with
   | .inl r=>some r
   | .inr (c148,UE)=>Il aU Cb (qy+1) c148 UE
def PZ(aL:aS)(ae:Atom)(aU:Fact):Option (aS×Bool):=
 if (((ae.Rel:Int)!=aU.Rel)||((((ae.Terms.length:Int):Int)!=(aU.Values.length:Int))||(((aL.Vars.length:Int):Int)!=(aL.Values.length:Int))))then (
   some ((⟨[],[]⟩:aS),false))
 else (
   (Wj aL).bind fun r8=>
   Il aU ae.Terms 0 r8.Vars r8.Values)
theorem aoJ{aL:aS}{aa aM:Sv}{ae:Atom}{aW:Sv}{aU:Fact}{dZ:Sv}{R:aS×Bool}(hF:PZ aL ae aU=some R):
   Fw.Spec Tryz.prog 308 [(zg [aa.v,aM.v]),(zg [(zi ae.Rel),aW.v]),(zg [(zi aU.Rel),dZ.v])] [ag aa aL.Vars,ag aM aL.Values,ag aW ae.Terms,ag dZ aU.Values] (fun p:Sv×List Nat×Sv×List Nat=>(.tuple [(zg [p.1.v,p.2.2.1.v]),(.bool R.2)].toArray)) (fun p=>[a_ p.2.1 p.1 R.1.Vars,a_ p.2.2.2 p.2.2.1 R.1.Values]):=by
 refine Se 81 Tryz.func308 [.cell 6 136,.tmp 7] ?_
 intro H0 F0
 unfold PZ at hF
 refine au ?_
 refine bM (fun k1=>?_)
 refine bM (fun k2=>?_)
 refine bM (fun k3=>?_)
 refine dJ (fun k4=>?_)
 refine aP ?_
 refine gG (fun f' cs'=>∃(g:Fr),f'=aN g [(3,(pz k1)),(4,(pz k2)),(5,(pz k3)),(6,(pz k4)),(33,(.bool (((ae.Rel:Int)!=aU.Rel)||((((ae.Terms.length:Int):Int)!=(aU.Values.length:Int))||(((aL.Vars.length:Int):Int)!=(aL.Values.length:Int))))))]/\aK cs' [aQ k1 136 (zg [aa.v,aM.v]),ag aa aL.Vars,ag aM aL.Values,aQ k2 123 (zg [(zi ae.Rel),aW.v]),ag aW ae.Terms,aQ k3 147 (zg [(zi aU.Rel),dZ.v]),ag dZ aU.Values,bS k4 136 (.agg ([(.slice none 0 0),(.slice none 0 0)]:List Value).toArray)]) ?_ ?_
 · refine bu ?_
   rcases dK ((ae.Rel:Int)!=aU.Rel)with hg5|hg5
   · rw[hg5]
     try rw[hg5]at hF; dsimp only[bB,bA]at hF
     refine acC ?_
     exact⟨_,ay,ax⟩
   rw[hg5]
   try rw[hg5]at hF; dsimp only[bB,bA]at hF
   refine X6 ?_
   rcases dK (((ae.Terms.length:Int):Int)!=(aU.Values.length:Int))with gD|gD
   · rw[gD]
     try rw[gD]at hF; dsimp only[bB,bA]at hF
     refine eG ?_
     exact⟨_,ay,ax⟩
   rw[gD]
   try rw[gD]at hF; dsimp only[bB,bA]at hF
   refine X6 ?_
   exact⟨_,ay,ax⟩
 rintro _ _ ⟨g7,rfl,hE⟩
 refine bH hE ?_
 refine Ci hF (fun ayT hF=>?_) (fun ayT hF=>?_)
 · refine au ?_
   refine aO (gy dY.h rfl (vs:=[]) .nil (cells:=[(.slice none 0 0),(.slice none 0 0)]) rfl) ?_
   refine As (.agg ([(.slice none 0 0),(.slice none 0 0)]:List Value).toArray) ?_
   refine bC ?_
   cases hF
   exact gL (⟨none,0,0⟩,[],⟨none,0,0⟩,[]) (.cellA rfl rfl .h rfl jC.h dY.h.sz rfl rfl (.tmp rfl rfl .nil)) rfl (.conv .nil (fH (Ro:=(aj aH)) (E:=3)) (.cons .nil) (.conv .nil (fH (Ro:=(aj aH)) (E:=3)) (.cons .nil) (.sel (.cons (.t .h) (.cons .h .nil)))))
 refine bC ?_
 refine bnd hF fun r8 dF hF=>Af (an1 dF) (fun ny=>?_)
 refine dJ (fun k11=>?_)
 refine As (zg [ny.1.v,ny.2.2.1.v]) ?_
 refine eD ?_
 refine aY (bK (m:=ae.Terms.length) (fun m87 f' cs'=>∃(g:Fr)(qy:Nat)(Cb c80 zb:List Int)(v81:Sv)(Vs:List Nat)(v84:Sv)(Vt:List Nat),m87=Cb.length/\f'=aN g [(5,(pz k3)),(6,(pz k4)),(8,(pz k11)),(38,aW.v),(39,(zi (ae.Terms.length:Int))),(40,(zi (qy:Int)))]/\List.drop qy ae.Terms=Cb/\aK cs' [aQ k3 147 (zg [(zi aU.Rel),dZ.v]),ag dZ aU.Values,bS k4 136 (.agg ([(.slice none 0 0),(.slice none 0 0)]:List Value).toArray),bS k11 136 (zg [v81.v,v84.v]),a_ Vs v81 c80,a_ Vt v84 zb,ag aW ae.Terms]/\Il aU Cb qy c80 zb=some R) ⟨_,0,_,_,_,ny.1,ny.2.1,ny.2.2.1,ny.2.2.2,rfl,ay,rfl,ax,hF⟩ ?_)
 rintro m87 _ _ ⟨g88,qy,Cb,c80,zb,v81,Vs,v84,Vt,rfl,rfl,amv,hE,hF⟩
 refine Kb hE ae.Terms (fun aFs=>?_)
 rcases Cb with _|⟨x91,Cb⟩
 · have aBJ:=dn amv
   rw[Il]at hF
   refine aP ?_
   refine cO ?_
   refine bu ?_
   refine As (zg [v81.v,v84.v]) ?_
   refine bC ?_
   cases hF
   exact gL (v81,Vs,v84,Vt) (.cellA rfl rfl .h rfl jC.h dY.h.sz rfl rfl (.tmp rfl rfl .nil)) rfl (.sel (.cons .q4 (.cons .q4 .nil)))
 obtain⟨aBJ,ad_,hd95⟩:=bW amv
 rw[Il]at hF
 refine aP ?_
 refine cK ?_
 refine au ?_
 obtain⟨o98,ayU,aeA⟩:=bind_some hF
 refine fD (fun f' cs'=>∃(c148 UE:List Int)(ZF:Sv)(aeB:List Nat)(v152:Sv)(aeC:List Nat)(g:Fr),o98= .inr (c148,UE)/\f'=aN g [(5,(pz k3)),(6,(pz k4)),(8,(pz k11)),(38,aW.v),(39,(zi (ae.Terms.length:Int))),(40,(zi (qy:Int)))]/\aK cs' [aQ k3 147 (zg [(zi aU.Rel),dZ.v]),ag dZ aU.Values,bS k4 136 (.agg ([(.slice none 0 0),(.slice none 0 0)]:List Value).toArray),bS k11 136 (zg [ZF.v,v152.v]),a_ aeB ZF c148,a_ aeC v152 UE,ag aW ae.Terms]) ?_ ?_
 · replace hF:=ayU
   refine aY (cu (Cm (zi (qy:Int)) rfl rfl ?_))
   refine Ai ad_ (fun aIr aIs=>?_)
   refine Al dG ?_
   refine aP ?_
   obtain⟨aex,auY,ayV⟩:=bind_some hF
   refine au ?_
   refine gG (fun f' cs'=>∃(nY:Bool)(g:Fr),nY=aex/\f'=aN g [(5,(pz k3)),(6,(pz k4)),(8,(pz k11)),(9,(zi (qy:Int))),(10,(zi x91)),(38,aW.v),(39,(zi (ae.Terms.length:Int))),(40,(zi (qy:Int))),(52,(.bool nY))]/\aK cs' [aQ k3 147 (zg [(zi aU.Rel),dZ.v]),ag dZ aU.Values,bS k4 136 (.agg ([(.slice none 0 0),(.slice none 0 0)]:List Value).toArray),bS k11 136 (zg [v81.v,v84.v]),a_ Vs v81 c80,a_ Vt v84 zb,ag aW ae.Terms]) ?_ ?_
   · replace hF:=auY
     refine au ?_
     refine bnd hF fun aew ayW hF=>bJ (Ql ayW) (fun _=>?_)
     refine au ?_
     rcases dK aew with SH|SH
     · rw[SH]
       try rw[SH]at hF; dsimp only[bB,bA]at hF
       refine aX ?_
       refine bnd hF fun UD SG hF=>l9 (.cons .q6 (.cons .q5 .nil)) (jy (pre:=[]) (.cons bq (.cons bq .nil)) (fun _=>.nil) (bU aw_.h bN (aff SG))) (fun _=>?_)
       exact dw hF
     rw[SH]
     try rw[SH]at hF; dsimp only[bB,bA]at hF
     exact dw hF
   rintro _ _ ⟨nY,aIt,rfl,rfl,hE⟩
   replace hF:=ayV
   try dsimp only at hF
   refine bH hE ?_
   refine Ci hF (fun ayX hF=>?_) (fun ayX hF=>?_)
   · refine kM [0,1,2,3,5,6,7,8,9,10,11,12,4,14,13,15,16,17] [0,1,0,4,15,0,32,0,128,0,896,1920,3968,8191,127,32767,65535,131071] [4,13,15,17] mixed (by decide+kernel) ?_
     refine du ?_
     refine ed rfl .no .q3 (fun ha hp=>fI (v:=v81.v) iF.h (EN ha (.tmp rfl rfl) rfl) hp.2 rfl rfl) ?_
     refine du ?_
     refine iq rfl .no rfl (fun ha=>bV (g:=true) (len:=1) (parts:=[(0,.tmp 55)]) cz.h cZ.h (.cons (EN ha (.tmp rfl rfl) rfl) .nil) (vs:=[(zi x91)]) rfl rfl rfl (by intro v hv; simp at hv; rcases hv with rfl<;>rfl)) (fun aIu=>?_)
     refine jF (.cons .h .nil) (bY (Ro:=(aj aH)) (E:=3) (F:=([]++[])) (xs:=([x91]:List Int)) (eF (jd (fun _=>rfl)) bX dm) rfl rfl) ?_
     refine du ?_
     refine ed rfl .no .q4 (fun ha hp=>fI (v:=v84.v) iF.h (EN ha (.tmp rfl rfl) rfl) hp.2 rfl rfl) ?_
     refine fT ?_
     refine zI hF fun x113 aFt ayY hF=>?_
     refine Di ayY (fun qg aIv=>?_)
     refine Dl dG ?_
     refine iq rfl .no rfl (fun ha=>bV (g:=true) (len:=1) (parts:=[(0,.tmp 64)]) cz.h cZ.h (.cons (EN ha (.tmp rfl rfl) rfl) .nil) (vs:=[(zi x113)]) rfl rfl rfl (by intro v hv; simp at hv; rcases hv with rfl<;>rfl)) (fun aIw=>?_)
     refine jF (.cons .h .nil) (bY (Ro:=(aj aH)) (E:=3) (F:=([]++[])) (xs:=([x113]:List Int)) (eF (jd (fun _=>rfl)) bX dm) rfl rfl) ?_
     refine bnd hF fun aey ayZ hF=>df rfl rfl .no (.cons .q7 (.cons .q2 .nil)) (.own .h (by simp[aD]) (.own .q5 (fun _ h=>h) (.dep rfl (.dep rfl .nil)))) (fun ha=>ek (Ro:=(aj aH)) cz.h iL cZ.h rfl rfl rfl (EN ha (.tmp rfl rfl) rfl) (EN ha (.tmp rfl rfl) rfl) ayZ fM) (fun ZG=>?_)
     refine du ?_
     refine bnd hF fun aez acK hF=>df rfl rfl .no (.cons .q7 (.cons (.t .h) .nil)) (.dep rfl (.dep rfl (.dep rfl (.dep rfl .nil)))) (fun ha=>ek (Ro:=(aj aH)) cz.h iL cZ.h rfl rfl rfl (EN ha (.tmp rfl rfl) rfl) (EN ha (.tmp rfl rfl) rfl) acK fM) (fun aeD=>?_)
     refine df rfl rfl .no (.cons .q6 .nil) (.dep rfl (.dep rfl (.dep rfl (.dep rfl .nil)))) (fun ha=>gF (e':=(zg [ZG.1.v,v84.v])) lQ.h.sz (EN ha (.tmp rfl rfl) rfl) (EN ha (.tmp rfl rfl) rfl) rfl rfl rfl rfl rfl) (fun _=>?_)
     refine du ?_
     refine df rfl rfl .no (.cons .h .nil) (.dep rfl (.dep rfl (.dep rfl (.dep rfl .nil)))) (fun ha=>gF (e':=(zg [ZG.1.v,aeD.1.v])) lQ.h.sz (EN ha (.tmp rfl rfl) rfl) (EN ha (.tmp rfl rfl) rfl) rfl rfl rfl rfl rfl) (fun _=>?_)
     refine du ?_
     refine dS [0,1,3,4,5,6,7,2,8] [0,0,3,0,8,0,56,120,255] [2] mixed (by decide+kernel) ?_
     refine ed rfl .no .h (fun ha hp=>jw jC.h dY.h.sz rfl (EN ha (.tmp rfl rfl) rfl) hp.2 rfl) ?_
     refine sU ?_
     refine zI hF fun amr aFu ay0 hF=>?_
     refine Di ay0 (fun aIx aIy=>?_)
     refine Dl dG ?_
     refine bnd hF fun ams acJ hF=>qB rfl rfl .no (.cons .q2 (.cons .q2 .nil)) (.dep rfl .nil) (fun ha=>jy (pre:=[]) (.cons bq (.cons bq .nil)) (fun _=>.nil) (bU acy.h (.cons (EN ha (.tmp rfl rfl) rfl) (.cons (EN ha (.tmp rfl rfl) rfl) .nil)) (Ww acJ))) (fun _=>?_)
     refine cB ?_
     refine Ci hF (fun ay1 hF=>?_) (fun ay1 hF=>?_)
     · refine au ?_
       refine aO (gy dY.h rfl (vs:=[]) .nil (cells:=[(.slice none 0 0),(.slice none 0 0)]) rfl) ?_
       refine As (.agg ([(.slice none 0 0),(.slice none 0 0)]:List Value).toArray) ?_
       refine bC ?_
       cases hF
       replace hF:=aeA
       try dsimp only at hF
       cases hF
       exact gL (⟨none,0,0⟩,[],⟨none,0,0⟩,[]) (.cellA rfl rfl .h rfl jC.h dY.h.sz rfl rfl (.tmp rfl rfl .nil)) rfl (.conv .nil (fH (Ro:=(aj aH)) (E:=3)) (.cons .nil) (.conv .nil (fH (Ro:=(aj aH)) (E:=3)) (.cons .nil) (.sel (.cons (.t .h) (.cons .h .nil)))))
     refine au ?_
     cases hF
     exact⟨_,_,ZG.1,ZG.2,aeD.1,aeD.2,_,rfl,ay,ax⟩
   refine au ?_
   refine dS [0,1,3,4,5,6,7,2,8] [0,0,3,0,8,0,56,120,255] [2] mixed (by decide+kernel) ?_
   refine ed rfl .no .q3 (fun ha hp=>jw jC.h dY.h.sz rfl (EN ha (.tmp rfl rfl) rfl) hp.2 rfl) ?_
   refine sU ?_
   refine zI hF fun amt aFv ay2 hF=>?_
   refine Di ay2 (fun Ol aBH=>?_)
   refine Dl dG ?_
   refine bnd hF fun amu ay3 hF=>qB rfl rfl .no (.cons .q6 (.cons .q5 .nil)) (.dep rfl .nil) (fun ha=>jy (pre:=[]) (.cons bq (.cons bq .nil)) (fun _=>.nil) (bU acy.h (.cons (EN ha (.tmp rfl rfl) rfl) (.cons (EN ha (.tmp rfl rfl) rfl) .nil)) (Ww ay3))) (fun _=>?_)
   refine cB ?_
   refine Ci hF (fun ay4 hF=>?_) (fun ay4 hF=>?_)
   · refine au ?_
     refine aO (gy dY.h rfl (vs:=[]) .nil (cells:=[(.slice none 0 0),(.slice none 0 0)]) rfl) ?_
     refine As (.agg ([(.slice none 0 0),(.slice none 0 0)]:List Value).toArray) ?_
     refine bC ?_
     cases hF
     replace hF:=aeA
     try dsimp only at hF
     cases hF
     exact gL (⟨none,0,0⟩,[],⟨none,0,0⟩,[]) (.cellA rfl rfl .h rfl jC.h dY.h.sz rfl rfl (.tmp rfl rfl .nil)) rfl (.conv .nil (fH (Ro:=(aj aH)) (E:=3)) (.cons .nil) (.conv .nil (fH (Ro:=(aj aH)) (E:=3)) (.cons .nil) (.sel (.cons (.t .h) (.cons .h .nil)))))
   refine au ?_
   cases hF
   exact⟨_,_,v81,Vs,v84,Vt,_,rfl,ay,ax⟩
 rintro _ _ ⟨c148,UE,ZF,aeB,v152,aeC,aIz,rfl,rfl,hE⟩
 replace hF:=aeA
 try dsimp only at hF
 refine bH hE ?_
 refine aP ?_
 rw[wk qy]
 exact⟨_,bO _,_,qy+1,Cb,_,_,ZF,aeB,v152,aeC,rfl,ay,hd95,ax,hF⟩
def Eo(ae:Atom)(eP:aS):List Fact->Nat->(List aS)->Option ((List aS))
 |[],wD,c24=>some c24
 |x32::Ce,wD,c24=>((PZ eP ae x32).bind fun Ar=>
     if Ar.2 then (
       (app c24 ([Ar.1]:List aS)).bind fun z50=>
       some z50)
     else (
       some c24)).bind fun Ls=>
   match Ls with
   |wG=>Eo ae eP Ce (wD+1) wG
def xM(ae:Atom)(bn:List Fact):List aS->Nat->(List aS)->Option ((List aS))
 |[],k9,c3=>some c3
 |eP::dM,k9,c3=>(Eo ae eP bn 0 c3).bind fun iH=>
   match iH with
   |c59=>xM ae bn dM (k9+1) c59
def Qo(su:List aS)(ae:Atom)(bn:List Fact):Option ((List aS)):=
 xM ae bn su 0 ([]:List aS)
theorem aph{su:List aS}{aa:Sv}{ae:Atom}{aW:Sv}{bn:List Fact}{bi:Sv}{R:(List aS)}(hF:Qo su ae bn=some R):
   Fw.Spec Tryz.prog 288 [aa.v,(zg [(zi ae.Rel),aW.v]),bi.v] [wT aa su,ag aW ae.Terms,dD bi bn] (fun p:Sv×List Nat=>p.1.v) (fun p=>[uC p.2 p.1 R]):=by
 refine Se 42 Tryz.func288 [.tmp 6] ?_
 intro H0 F0
 unfold Qo at hF
 refine au ?_
 refine bM (fun k1=>?_)
 refine bC ?_
 refine dx rfl (bV (g:=true) Co.h dY.h .nil (vs:=[]) rfl rfl rfl (by simp)) (fun k2=>?_)
 refine dH (.cons .h .nil) (bY (Ro:=sI) (E:=136) (F:=[]) (xs:=([]:List aS)) bX rfl rfl) ?_
 refine eD ?_
 refine aY (bK (m:=su.length) (fun m7 f' cs'=>∃(g:Fr)(k9:Nat)(dM c3:List aS)(v4:Sv)(F5:List Nat),m7=dM.length/\f'=aN g [(2,bi.v),(4,(pz k1)),(7,v4.v),(15,aa.v),(16,(zi (su.length:Int))),(17,(zi (k9:Int)))]/\List.drop k9 su=dM/\aK cs' [dD bi bn,aQ k1 123 (zg [(zi ae.Rel),aW.v]),ag aW ae.Terms,uC F5 v4 c3,wT aa su]/\xM ae bn dM k9 c3=some R) ⟨_,0,_,_,⟨(some ⟨k2,0,none⟩),0,1⟩,(k2::[]),rfl,ay,rfl,ax,hF⟩ ?_)
 rintro m7 _ _ ⟨g8,k9,dM,c3,v4,F5,rfl,rfl,j4,hE,hF⟩
 refine Kb hE su (fun FE=>?_)
 rcases dM with _|⟨eP,dM⟩
 · have qR:=dn j4
   rw[xM]at hF
   refine aP ?_
   refine cO ?_
   refine eG ?_
   cases hF
   exact Er (v4,F5)
 obtain⟨qR,iA,nX⟩:=bW j4
 rw[xM]at hF
 refine aP ?_
 refine cK ?_
 refine au ?_
 obtain⟨iH,qD,qQ⟩:=bind_some hF
 refine fD (fun f' cs'=>∃(c59:List aS)(v60:Sv)(tN:List Nat)(g:Fr),c59=iH/\f'=aN g [(2,bi.v),(4,(pz k1)),(7,v60.v),(15,aa.v),(16,(zi (su.length:Int))),(17,(zi (k9:Int)))]/\aK cs' [dD bi bn,aQ k1 123 (zg [(zi ae.Rel),aW.v]),ag aW ae.Terms,uC tN v60 c59,wT aa su]) ?_ ?_
 · replace hF:=qD
   refine aY (cu (pY (a:=eP) Co.h dY.h.sz (.tmp rfl rfl) (.tmp rfl rfl) .q4 (Int.natCast_nonneg k9) iA (fun k20 uY=>?_)))
   refine adu (MJ eP) PR (fun mP=>?_)
   refine dJ (fun k23=>?_)
   refine As (zg [mP.1.v,mP.2.v]) ?_
   refine bu ?_
   refine aY (bK (m:=bn.length) (fun m28 f' cs'=>∃(g:Fr)(wD:Nat)(Ce:List Fact)(c24:List aS)(v25:Sv)(F26:List Nat),m28=Ce.length/\f'=aN g [(2,bi.v),(4,(pz k1)),(7,v25.v),(9,(pz k23)),(15,aa.v),(16,(zi (su.length:Int))),(17,(zi (k9:Int))),(21,bi.v),(22,(zi (bn.length:Int))),(23,(zi (wD:Int)))]/\List.drop wD bn=Ce/\aK cs' [dD bi bn,aQ k1 123 (zg [(zi ae.Rel),aW.v]),ag aW ae.Terms,uC F26 v25 c24,bS k23 136 (zg [mP.1.v,mP.2.v]),ag mP.1 eP.Vars,ag mP.2 eP.Values,wT aa su]/\Eo ae eP Ce wD c24=some iH) ⟨_,0,_,_,v4,F5,rfl,ay,rfl,ax,hF⟩ ?_)
   rintro m28 _ _ ⟨g29,wD,Ce,c24,v25,F26,rfl,rfl,Y6,hE,hF⟩
   refine Kb hE bn (fun aFw=>?_)
   rcases Ce with _|⟨x32,Ce⟩
   · have aBK:=dn Y6
     rw[Eo]at hF
     refine aP ?_
     refine cO ?_
     refine aP ?_
     cases hF
     exact⟨_,v25,F26,_,rfl,ay,ax⟩
   obtain⟨aBK,sZ,ZB⟩:=bW Y6
   rw[Eo]at hF
   refine aP ?_
   refine cK ?_
   refine au ?_
   obtain⟨Ls,adb,aer⟩:=bind_some hF
   refine fD (fun f' cs'=>∃(wG:List aS)(v55:Sv)(F56:List Nat)(g:Fr),wG=Ls/\f'=aN g [(2,bi.v),(4,(pz k1)),(7,v55.v),(9,(pz k23)),(15,aa.v),(16,(zi (su.length:Int))),(17,(zi (k9:Int))),(21,bi.v),(22,(zi (bn.length:Int))),(23,(zi (wD:Int)))]/\aK cs' [dD bi bn,aQ k1 123 (zg [(zi ae.Rel),aW.v]),ag aW ae.Terms,uC F56 v55 wG,bS k23 136 (zg [mP.1.v,mP.2.v]),ag mP.1 eP.Vars,ag mP.2 eP.Values,wT aa su]) ?_ ?_
   · replace hF:=adb
     refine aY (cu (pY (a:=x32) dX.h dA.h.sz (.tmp rfl rfl) (.tmp rfl rfl) .h (Int.natCast_nonneg wD) sZ (fun tL U2=>?_)))
     refine iw (ky x32) kL (fun p43=>?_)
     refine dJ (fun K3=>?_)
     refine As (zg [(zi x32.Rel),p43.v]) ?_
     refine aX ?_
     refine bnd hF fun Ar Ac hF=>Af (aoJ Ac) (fun p47=>?_)
     refine au ?_
     refine zx ?_
     refine zx ?_
     refine dJ (fun k48=>?_)
     refine As (zg [p47.1.v,p47.2.2.1.v]) ?_
     refine aX ?_
     refine Ci hF (fun KD hF=>?_) (fun KD hF=>?_)
     · refine bC ?_
       refine dx rfl (bV (g:=true) Co.h dY.h bN (vs:=[(zg [p47.1.v,p47.2.2.1.v])]) rfl rfl rfl (by intro v hv; simp at hv; rcases hv with rfl<;>rfl)) (fun U8=>?_)
       refine dH (.cons .h (.cons (.t .h) (.cons (.t .h) .nil))) (bY (Ro:=sI) (E:=136) (F:=((p47.2.1++p47.2.2.2)++[])) (xs:=([Ar.1]:List aS)) (eF XX bX dm) rfl rfl) ?_
       refine bnd hF fun z50 KF hF=>dU (.cons .q8 (.cons .h .nil)) (ek (Ro:=sI) Co.h aka dY.h rfl rfl rfl (.tmp rfl rfl) (.tmp rfl rfl) KF fM) (fun p52=>?_)
       refine bg ?_
       cases hF
       exact⟨_,p52.1,p52.2,_,rfl,ay,ax⟩
     refine au ?_
     cases hF
     exact⟨_,v25,F26,_,rfl,ay,ax⟩
   rintro _ _ ⟨wG,v55,F56,g58,rfl,rfl,hE⟩
   replace hF:=aer
   try dsimp only at hF
   refine bH hE ?_
   refine aP ?_
   rw[wk wD]
   exact⟨_,bO _,_,wD+1,Ce,_,v55,F56,rfl,ay,ZB,ax,hF⟩
 rintro _ _ ⟨c59,v60,tN,g63,rfl,rfl,hE⟩
 replace hF:=qQ
 try dsimp only at hF
 refine bH hE ?_
 refine aP ?_
 rw[wk k9]
 exact⟨_,bO _,_,k9+1,dM,_,v60,tN,rfl,ay,nX,ax,hF⟩
def AB(bn:List Fact):List Atom->Nat->(List aS)->Option ((List aS))
 |[],k9,c3=>some c3
 |eP::dM,k9,c3=>(Qo c3 eP bn).bind fun iV=>
   AB bn dM (k9+1) iV
def IU(ak:aV)(bn:List Fact):Option ((List aS)):=
 AB bn ak.Atoms 0 ([(⟨[],[]⟩:aS)]:List aS)
theorem aoe{ak:aV}{aa aM:Sv}{bn:List Fact}{aA:Sv}{R:(List aS)}(hF:IU ak bn=some R):
   Fw.Spec Tryz.prog 250 [(zg [aa.v,aM.v]),aA.v] [ag aa ak.Head,bZ aM ak.Atoms,dD aA bn] (fun p:Sv×List Nat=>p.1.v) (fun p=>[uC p.2 p.1 R]):=by
 refine Se 23 Tryz.func250 [.tmp 4] ?_
 intro H0 F0
 unfold IU at hF
 refine au ?_
 refine bM (fun k1=>?_)
 refine bC ?_
 refine aO (gy dY.h rfl (vs:=[]) .nil (cells:=[(.slice none 0 0),(.slice none 0 0)]) rfl) ?_
 refine dx rfl (bV (g:=true) Co.h dY.h bN (vs:=[(.agg ([(.slice none 0 0),(.slice none 0 0)]:List Value).toArray)]) rfl rfl rfl (by intro v hv; simp at hv; rcases hv with rfl<;>rfl)) (fun k2=>?_)
 iterate 2 refine BB .nil (fH (Ro:=(aj aH)) (E:=3)) dm ?_
 refine dH (.cons .q2 (.cons (.t .h) (.cons .h .nil))) (bY (Ro:=sI) (E:=136) (F:=(([]++[])++[])) (xs:=([(⟨[],[]⟩:aS)]:List aS)) (eF (XX (v0:=⟨none,0,0⟩) (v1:=⟨none,0,0⟩) (a:=(⟨[],[]⟩:aS))) bX dm) rfl rfl) ?_
 refine eG ?_
 refine aY (bK (m:=ak.Atoms.length) (fun m7 f' cs'=>∃(g:Fr)(k9:Nat)(dM:List Atom)(c3:List aS)(v4:Sv)(F5:List Nat),m7=dM.length/\f'=aN g [(1,aA.v),(5,v4.v),(11,aM.v),(12,(zi (ak.Atoms.length:Int))),(13,(zi (k9:Int)))]/\List.drop k9 ak.Atoms=dM/\aK cs' [dD aA bn,uC F5 v4 c3,bZ aM ak.Atoms]/\AB bn dM k9 c3=some R) ⟨_,0,_,_,⟨(some ⟨k2,0,none⟩),1,1⟩,(k2::(([]++[])++[])),rfl,ay,rfl,ax,hF⟩ ?_)
 rintro m7 _ _ ⟨g8,k9,dM,c3,v4,F5,rfl,rfl,j4,hE,hF⟩
 refine Kb hE ak.Atoms (fun FE=>?_)
 rcases dM with _|⟨eP,dM⟩
 · have qR:=dn j4
   rw[AB]at hF
   refine aP ?_
   refine cO ?_
   refine eG ?_
   cases hF
   exact Er (v4,F5)
 obtain⟨qR,iA,nX⟩:=bW j4
 rw[AB]at hF
 refine aP ?_
 refine cK ?_
 refine bC ?_
 refine Ai iA (fun k18 j19=>?_)
 refine iw (tZ eP) vw (fun p20=>?_)
 refine dJ (fun k21=>?_)
 refine As (zg [(zi eP.Rel),p20.v]) ?_
 refine aX ?_
 refine bnd hF fun iV tq hF=>l9 (.cons .q4 (.rd (.t .h) rfl (.rd .q3 rfl .nil))) (gH bq (fun _=>(.cons .nil)) (bU axe.h bN (aph tq))) (fun nu=>?_)
 refine bu ?_
 rw[wk k9]
 exact⟨_,bO _,_,k9+1,dM,_,nu.1,nu.2,rfl,ay,nX,ax,hF⟩
def Hd(mZ:List Int):List Int->Nat->Option (Bool)
 |[],k4=>some true
 |x6::aJ,k4=>(ix mZ (k4:Int)).bind fun pM=>
   if ((x6:Int)!=pM)then (
     some false)
   else (
     Hd mZ aJ (k4+1))
def OY(lS:List Int)(mZ:List Int):Option (Bool):=
 if (((lS.length:Int):Int)!=(mZ.length:Int))then (
   some false)
 else (
   Hd mZ lS 0)
theorem aeW{lS:List Int}{aa:Sv}{mZ:List Int}{aA:Sv}{R:Bool}(hF:OY lS mZ=some R):
   Fw.Spec Tryz.prog 251 [aa.v,aA.v] [ag aa lS,ag aA mZ] (fun _:Unit=>(.bool R)) (fun _=>[]):=by
 refine Se 26 Tryz.func251 [.tmp 4] ?_
 intro H0 F0
 unfold OY at hF
 refine yg ?_
 refine Ci hF (fun CV hF=>?_) (fun CV hF=>?_)
 · exact ze hF
 refine bF ?_
 refine aY (bK (m:=lS.length) (fun m2 f' cs'=>∃(g:Fr)(k4:Nat)(aJ:List Int),m2=aJ.length/\f'=aN g [(0,aa.v),(1,aA.v),(12,(zi (lS.length:Int))),(13,(zi (k4:Int)))]/\List.drop k4 lS=aJ/\aK cs' [ag aa lS,ag aA mZ]/\Hd mZ aJ k4=some R) ⟨_,0,_,rfl,ay,rfl,ax,hF⟩ ?_)
 rintro m2 _ _ ⟨g3,k4,aJ,rfl,rfl,hd7,hE,hF⟩
 refine Kb hE lS (fun jV=>?_)
 rcases aJ with _|⟨x6,aJ⟩
 · have fB:=dn hd7
   rw[Hd]at hF
   refine aP ?_
   refine cO ?_
   exact ze hF
 obtain⟨fB,dF,fw⟩:=bW hd7
 rw[Hd]at hF
 refine aP ?_
 refine cK ?_
 refine bu ?_
 refine dS [0,1,2,3,4,5,6,7,8] [0,0,3,7,0,0,48,112,255] [] mixed (by decide+kernel) ?_
 refine cB ?_
 refine Di dF (fun k13 lY=>?_)
 refine Dl dG ?_
 refine cB ?_
 refine zI hF fun pM adS gq hF=>?_
 refine Di gq (fun k19 GV=>?_)
 refine Dl dG ?_
 refine cB ?_
 refine Ci hF (fun qN hF=>?_) (fun qN hF=>?_)
 · exact ze hF
 refine aX ?_
 rw[wk k4]
 exact⟨_,bO _,_,k4+1,aJ,rfl,ay,fw,ax,hF⟩
def Az(ak:aV)(oF:List Int):List aS->Nat->Option (aS×Bool)
 |[],kX=>some ((⟨[],[]⟩:aS),false)
 |x34::oq,kX=>(EY ak x34).bind fun Ar=>
   (OY Ar oF).bind fun lu=>
   if lu then (
     some (x34,true))
   else (
     Az ak oF oq (kX+1))
def Ep(ak:aV)(bn:List Fact)(oF:List Int):Option (aS×Bool):=
 (IU ak bn).bind fun r3=>
 Az ak oF r3 0
theorem aft{ak:aV}{aa aM:Sv}{bn:List Fact}{aA:Sv}{oF:List Int}{bi:Sv}{R:aS×Bool}(hF:Ep ak bn oF=some R):
   Fw.Spec Tryz.prog 187 [(zg [aa.v,aM.v]),aA.v,bi.v] [ag aa ak.Head,bZ aM ak.Atoms,dD aA bn,ag bi oF] (fun p:Sv×Sv=>(.tuple [(zg [p.1.v,p.2.v]),(.bool R.2)].toArray)) (fun p=>[ag p.1 R.1.Vars,ag p.2 R.1.Values]):=by
 refine Se 26 Tryz.func187 [.cell 6 136,.tmp 7] ?_
 intro H0 F0
 unfold Ep at hF
 refine au ?_
 refine bM (fun k1=>?_)
 refine dJ (fun k2=>?_)
 refine bu ?_
 refine bnd hF fun r3 hx4 hF=>fq (aoe hx4) (fun p5=>?_)
 refine bC ?_
 refine aY (jM .h bq ?_)
 refine bK (m:=r3.length) (fun U1 f' cs'=>∃(g:Fr)(kX:Nat)(oq:List aS),U1=oq.length/\f'=aN g [(2,bi.v),(3,(pz k1)),(6,(pz k2)),(12,p5.1.v),(13,(zi (r3.length:Int))),(14,(zi (kX:Int)))]/\List.drop kX r3=oq/\aK cs' [ag bi oF,aQ k1 39 (zg [aa.v,aM.v]),ag aa ak.Head,bZ aM ak.Atoms,bS k2 136 (.agg ([(.slice none 0 0),(.slice none 0 0)]:List Value).toArray),wT p5.1 r3]/\Az ak oF oq kX=some R) ⟨_,0,_,rfl,ay,rfl,ax,hF⟩ ?_
 rintro U1 _ _ ⟨g31,kX,oq,rfl,rfl,Kh,hE,hF⟩
 refine Kb hE r3 (fun axy=>?_)
 rcases oq with _|⟨x34,oq⟩
 · have TG:=dn Kh
   rw[Az]at hF
   refine aP ?_
   refine cO ?_
   refine aX ?_
   refine aO (gy dY.h rfl (vs:=[]) .nil (cells:=[(.slice none 0 0),(.slice none 0 0)]) rfl) ?_
   refine As (.agg ([(.slice none 0 0),(.slice none 0 0)]:List Value).toArray) ?_
   refine bC ?_
   cases hF
   exact gL (⟨none,0,0⟩,⟨none,0,0⟩) (.cellA rfl rfl .h rfl jC.h dY.h.sz rfl rfl (.tmp rfl rfl .nil)) rfl (.conv .nil (BC (R:=aH) (E:=3)) (.cons .nil) (.conv .nil (BC (R:=aH) (E:=3)) (.cons .nil) (.sel (.rd (.t .h) rfl (.rd .h rfl .nil)))))
 obtain⟨TG,vU,hd38⟩:=bW Kh
 rw[Az]at hF
 refine aP ?_
 refine cK ?_
 refine bC ?_
 refine Ai vU (fun tL U2=>?_)
 refine adu (MJ x34) PR (fun p43=>?_)
 refine dJ (fun K3=>?_)
 refine As (zg [p43.1.v,p43.2.v]) ?_
 refine aP ?_
 refine bnd hF fun Ar Ac hF=>fq (Wx Ac) (fun p47=>?_)
 refine au ?_
 refine bnd hF fun lu kU hF=>dU (.cons .h (.rd .q4 rfl .nil)) (gH bq (fun _=>.nil) (bU axf.h bN (aeW kU))) (fun _=>?_)
 refine au ?_
 refine Ci hF (fun aei hF=>?_) (fun aei hF=>?_)
 · refine bg ?_
   refine As (zg [p43.1.v,p43.2.v]) ?_
   refine bC ?_
   cases hF
   exact gL (p43.1,p43.2) (.cellA rfl rfl .h rfl jC.h dY.h.sz rfl rfl (.tmp rfl rfl .nil)) rfl (.sel (.rd .q3 rfl (.rd .q4 rfl .nil)))
 refine aX ?_
 rw[wk kX]
 exact⟨_,bO _,_,kX+1,oq,rfl,ay,hd38,ax,hF⟩
def P5(fuel:Nat)(kK:aV)(ak:aV):Option (Bool):=
 if (((kK.Head.length:Int):Int)!=(ak.Head.length:Int))then (
   some false)
 else (
   (AR kK).bind fun r4=>
   (AR ak).bind fun r7=>
   (Ma ([r4,r7]:List (List Int))).bind fun DI=>
   (Nt fuel kK DI).bind fun jH=>
   if (!jH.2.2)then (
     some false)
   else (
     (EY kK jH.2.1).bind fun kJ=>
     (Ep ak jH.1 kJ).bind fun pQ=>
     some pQ.2))
theorem aoK{fuel:Nat}{kK:aV}{aa aM:Sv}{ak:aV}{aA aW:Sv}{R:Bool}(hF:P5 fuel kK ak=some R):
   Fw.Spec Tryz.prog 97 [(zg [aa.v,aM.v]),(zg [aA.v,aW.v])] [ag aa kK.Head,bZ aM kK.Atoms,ag aA ak.Head,bZ aW ak.Atoms] (fun _:Unit=>(.bool R)) (fun _=>[]):=by
 refine Se 41 Tryz.func97 [.tmp 4] ?_
 intro H0 F0
 unfold P5 at hF
 refine au ?_
 refine bM (fun k1=>?_)
 refine bM (fun k2=>?_)
 refine Cr ?_
 refine Ci hF (fun TZ hF=>?_) (fun TZ hF=>?_)
 · exact ze hF
 refine au ?_
 refine dS [0,1,3,12,2,4,5,6,7,8,9,10,11,13,14,15] [0,0,2,0,14,30,62,127,255,511,511,511,0,5119,14335,32767] [2,4,6,7,14] mixed (by decide+kernel) ?_
 refine fT ?_
 refine iq rfl .no rfl (fun ha=>sD (g:=true) dY.h rfl rfl) (fun k3=>?_)
 refine bnd hF fun r4 hx5 hF=>df rfl rfl .no (.rd .q3 rfl (.rd .q4 rfl .nil)) (.own .h (fun _ h=>h) .nil) (fun ha=>bU X3.h (.cons (EN ha (.tmp rfl rfl) rfl) .nil) (@O7 kK aa aM _ hx5)) (fun p6=>?_)
 refine bnd hF fun r7 pJ hF=>df rfl rfl .no (.rd .q6 rfl (.rd .q7 rfl .nil)) (.own (.t .h) (fun _ h=>h) .nil) (fun ha=>bU X3.h (.cons (EN ha (.tmp rfl rfl) rfl) .nil) (@O7 ak aA aW _ pJ)) (fun p9=>?_)
 refine iq rfl .no rfl (fun ha=>bV (g:=true) (len:=2) (parts:=[(0,.tmp 20),(1,.tmp 22)]) vI.h lQ.h (.cons (EN ha (.tmp rfl rfl) rfl) (.cons (EN ha (.tmp rfl rfl) rfl) .nil)) (vs:=[p6.1.v,p9.1.v]) rfl rfl rfl (by intro v hv; simp at hv; rcases hv with rfl|rfl<;>rfl)) (fun k10=>?_)
 refine jF (.cons .h (.cons (.t .h) (.cons .h .nil))) (bY (Ro:=(az 3 (aj aH))) (E:=22) (F:=(p6.2++(p9.2++[]))) (xs:=([r4,r7]:List (List Int))) (eF NB (eF NB bX dm) dm) rfl rfl) ?_
 refine bnd hF fun DI Uz hF=>qB rfl rfl .no (.cons .h .nil) (.dep rfl (.own .h (fun _ h=>h) .nil)) (fun ha=>gH bq (fun _=>(.cons .nil)) (bU aki.h (.cons (EN ha (.tmp rfl rfl) rfl) .nil) (@aeU ([r4,r7]:List (List Int)) (⟨(some ⟨k10,0,none⟩),2,1⟩) _ Uz))) (fun p13=>?_)
 refine bnd hF fun jH mf hF=>Fx rfl rfl .no (.cons (.t .h) (.rd .q4 rfl (.rd .q5 rfl .nil))) (.dep rfl (.own (.t .h) (fun _ h=>h) .nil)) (fun ha=>gH bq (fun _=>(.cons (.cons (.cons .nil)))) (jA (.rd (.t .h) rfl (.rd .q2 rfl (.rd .h rfl .nil))) (bU akj.h (.cons (EN ha (.tmp rfl rfl) rfl) (.cons (EN ha (.tmp rfl rfl) rfl) .nil)) (@agJ fuel kK aa aM DI p13.1 _ mf)))) (fun p16=>?_)
 refine du ?_
 refine bQ rfl .no (fun ha=>oo (l:=[p16.1.v,(zg [p16.2.2.1.v,p16.2.2.2.2.1.v]),(.bool jH.2.2)]) (v:=p16.1.v) (EN ha (.tmp rfl rfl) rfl) rfl) ?_
 refine bQ rfl .no (fun ha=>oo (l:=[p16.1.v,(zg [p16.2.2.1.v,p16.2.2.2.2.1.v]),(.bool jH.2.2)]) (v:=(zg [p16.2.2.1.v,p16.2.2.2.2.1.v])) (EN ha (.tmp rfl rfl) rfl) rfl) ?_
 refine bQ rfl .no (fun ha=>oo (l:=[p16.1.v,(zg [p16.2.2.1.v,p16.2.2.2.2.1.v]),(.bool jH.2.2)]) (v:=(.bool jH.2.2)) (EN ha (.tmp rfl rfl) rfl) rfl) ?_
 refine du ?_
 refine df rfl rfl .no (.cons .q5 .nil) (.dep rfl (.dep rfl .nil)) (fun ha=>gF (e':=(zg [p16.2.2.1.v,p16.2.2.2.2.1.v])) (v:=(zg [p16.2.2.1.v,p16.2.2.2.2.1.v])) dY.h.sz (EN ha (.tmp rfl rfl) rfl) (EN ha (.tmp rfl rfl) rfl) rfl rfl rfl rfl rfl) (fun _=>?_)
 refine cB ?_
 refine aX ?_
 refine Ci hF (fun CR hF=>?_) (fun CR hF=>?_)
 · exact ze hF
 refine au ?_
 refine jM .q3 bq ?_
 iterate 2 refine jM .q4 bq ?_
 refine dS [0,1,2,3,9,4,5,6,7,8,10,11] [0,0,0,0,12,31,63,127,127,0,767,2047] [4,5,10] mixed (by decide+kernel) ?_
 refine fT ?_
 refine ed rfl .no .q3 (fun ha hp=>jw jC.h dY.h.sz rfl (EN ha (.tmp rfl rfl) rfl) hp.2 rfl) ?_
 refine iq rfl .no rfl (fun ha=>sD (g:=true) dY.h rfl rfl) (fun k23=>?_)
 refine bnd hF fun kJ hx25 hF=>df rfl rfl .no (.rd .q9 rfl (.rd .q10 rfl (.rd .q3 rfl (.rd .q2 rfl .nil)))) (.own .h (fun _ h=>h) (.dep rfl .nil)) (fun ha=>zD (post':=fun p26:Sv×List Nat=>[ag p26.1 kJ]) (fun p26=>(.frz .h bq ax)) (bU acA.h (.cons (EN ha (.tmp rfl rfl) rfl) (.cons (EN ha (.tmp rfl rfl) rfl) .nil)) (@Wx kK aa aM jH.2.1 p16.2.2.1 p16.2.2.2.2.1 _ hx25))) (fun p26=>?_)
 refine bnd hF fun pQ hx28 hF=>qB rfl rfl .no (.rd .q12 rfl (.rd .q13 rfl (.rd .q2 rfl (.rd .h rfl .nil)))) (.own (.t .h) (fun _ h=>h) (.dep rfl .nil)) (fun ha=>bU akl.h (.cons (EN ha (.tmp rfl rfl) rfl) (.cons (EN ha (.tmp rfl rfl) rfl) (.cons (EN ha (.tmp rfl rfl) rfl) .nil))) (@aft ak aA aW jH.1 p16.1 kJ p26.1 _ hx28)) (fun p29=>?_)
 refine du ?_
 refine bQ rfl .no (fun ha=>oo (l:=[(zg [p29.1.v,p29.2.v]),(.bool pQ.2)]) (v:=(zg [p29.1.v,p29.2.v])) (EN ha (.tmp rfl rfl) rfl) rfl) ?_
 refine bQ rfl .no (fun ha=>oo (l:=[(zg [p29.1.v,p29.2.v]),(.bool pQ.2)]) (v:=(.bool pQ.2)) (EN ha (.tmp rfl rfl) rfl) rfl) ?_
 refine df rfl rfl .no (.cons .q3 .nil) (.dep rfl (.dep rfl .nil)) (fun ha=>gF (e':=(zg [p29.1.v,p29.2.v])) (v:=(zg [p29.1.v,p29.2.v])) dY.h.sz (EN ha (.tmp rfl rfl) rfl) (EN ha (.tmp rfl rfl) rfl) rfl rfl rfl rfl rfl) (fun _=>?_)
 refine cB ?_
 exact ze hF
def PH(fuel:Nat)(ah:List Int)(ai:List Method)(ak:aV):Option (Bool):=
 (O6 fuel ah ai ak).bind fun r2=>
 (bif r2.2 then ((P5 fuel r2.1 ak).bind fun r9=>
     some r9)
   else (some false)).bind fun o6=>
 match o6 with
 |c12=>some c12
theorem aof{fuel:Nat}{ah:List Int}{aa:Sv}{ai:List Method}{aA:Sv}{ak:aV}{bi dZ:Sv}{R:Bool}(hF:PH fuel ah ai ak=some R):
   Fw.Spec Tryz.prog 39 [aa.v,aA.v,(zg [bi.v,dZ.v])] [ag aa ah,dO aA ai,ag bi ak.Head,bZ dZ ak.Atoms] (fun _:Unit=>(.bool R)) (fun _=>[]):=by
 refine Se 22 Tryz.func39 [.tmp 6] ?_
 intro H0 F0
 unfold PH at hF
 refine au ?_
 refine bM (fun k1=>?_)
 refine bu ?_
 refine bnd hF fun r2 hx3 hF=>Af (anC hx3) (fun p4=>?_)
 refine au ?_
 refine zx ?_
 refine zx ?_
 refine dJ (fun k5=>?_)
 refine As (zg [p4.1.v,p4.2.2.1.v]) ?_
 refine bg ?_
 obtain⟨o6,Ut,Vh⟩:=bind_some hF
 refine au ?_
 refine gG (fun f' cs'=>∃(c12:Bool)(g:Fr),c12=o6/\f'=aN g [(6,(.bool c12))]/\aK cs' []) ?_ ?_
 · replace hF:=Ut
   refine bg ?_
   rcases dK r2.2 with fG|fG
   · rw[fG]
     try rw[fG]at hF; dsimp only[bB,bA]at hF
     refine aX ?_
     refine bnd hF fun r9 fU hF=>l9 (.cons .q2 (.cons (.t .h) (.rd .q4 rfl (.rd .q5 rfl .nil)))) (jy (pre:=_) (.cons bq (.cons bq .nil)) (fun _=>.nil) (bU az3.h bN (aoK fU))) (fun _=>?_)
     exact dw hF
   rw[fG]
   try rw[fG]at hF; dsimp only[bB,bA]at hF
   exact dw hF
 rintro _ _ ⟨c12,g13,rfl,rfl,hE⟩
 replace hF:=Vh
 try dsimp only at hF
 refine bH hE ?_
 exact ze hF
def Mm(fuel:Nat)(ak:aV):Option ((List Fact)×aS×Bool):=
 (AR ak).bind fun r3=>
 (Nt fuel ak r3).bind fun r6=>
 some (r6.1,r6.2.1,r6.2.2)
theorem afu{fuel:Nat}{ak:aV}{aa aM:Sv}{R:(List Fact)×aS×Bool}(hF:Mm fuel ak=some R):
   Fw.Spec Tryz.prog 103 [(zg [aa.v,aM.v])] [ag aa ak.Head,bZ aM ak.Atoms] (fun p:Sv×List Nat×Sv×List Nat×Sv×List Nat=>(.tuple [p.1.v,(zg [p.2.2.1.v,p.2.2.2.2.1.v]),(.bool R.2.2)].toArray)) (fun p=>[fV p.2.1 p.1 R.1,a_ p.2.2.2.1 p.2.2.1 R.2.1.Vars,a_ p.2.2.2.2.2 p.2.2.2.2.1 R.2.1.Values]):=by
 refine Se 12 Tryz.func103 [.tmp 2,.cell 3 136,.tmp 4] ?_
 intro H0 F0
 unfold Mm at hF
 refine au ?_
 refine bM (fun k1=>?_)
 refine au ?_
 refine dJ (fun k2=>?_)
 refine bg ?_
 refine dS [0,1,2,3,4,5,6,7,8,9] [0,0,2,7,15,15,15,127,255,511] [2,3,8] mixed (by decide+kernel) ?_
 refine cB ?_
 refine bnd hF fun r3 hx4 hF=>ni (O7 hx4) (fun p5=>?_)
 refine bnd hF fun r6 hx7 hF=>Fx rfl rfl .no (.cons .h (.rd .q2 rfl (.rd .q3 rfl .nil))) .nil (fun ha=>gH bq (fun _=>(.cons (.cons (.cons .nil)))) (jA (.rd (.t .h) rfl (.rd .q2 rfl (.rd .h rfl .nil))) (bU akj.h (.cons (EN ha (.tmp rfl rfl) rfl) (.cons (EN ha (.tmp rfl rfl) rfl) .nil)) (agJ hx7)))) (fun p8=>?_)
 refine bQ rfl .no (fun ha=>oo (l:=[p8.1.v,(zg [p8.2.2.1.v,p8.2.2.2.2.1.v]),(.bool r6.2.2)]) (v:=p8.1.v) (EN ha (.tmp rfl rfl) rfl) rfl) ?_
 refine bQ rfl .no (fun ha=>oo (l:=[p8.1.v,(zg [p8.2.2.1.v,p8.2.2.2.2.1.v]),(.bool r6.2.2)]) (v:=(zg [p8.2.2.1.v,p8.2.2.2.2.1.v])) (EN ha (.tmp rfl rfl) rfl) rfl) ?_
 refine bQ rfl .no (fun ha=>oo (l:=[p8.1.v,(zg [p8.2.2.1.v,p8.2.2.2.2.1.v]),(.bool r6.2.2)]) (v:=(.bool r6.2.2)) (EN ha (.tmp rfl rfl) rfl) rfl) ?_
 refine du ?_
 refine df rfl rfl .no (.cons .q4 .nil) .nil (fun ha=>gF (e':=(zg [p8.2.2.1.v,p8.2.2.2.2.1.v])) (v:=(zg [p8.2.2.1.v,p8.2.2.2.2.1.v])) dY.h.sz (EN ha (.tmp rfl rfl) rfl) (EN ha (.tmp rfl rfl) rfl) rfl rfl rfl rfl rfl) (fun _=>?_)
 refine cB ?_
 refine au ?_
 cases hF
 exact gL (p8.1,p8.2.1,p8.2.2.1,p8.2.2.2.1,p8.2.2.2.2.1,p8.2.2.2.2.2) (.tmp rfl rfl (.cellA rfl rfl .h rfl jC.h dY.h.sz rfl rfl (.tmp rfl rfl .nil))) rfl (.sel (.cons .q2 (.cons .q2 (.cons .q2 .nil))))
def Im:List Fact->Nat->(List Fact)->Option ((List Fact))
 |[],k8,c2=>some c2
 |dz::dE,k8,c2=>(Jg dz).bind fun jr=>
   (app c2 ([jr]:List Fact)).bind fun z25=>
   Im dE (k8+1) z25
def MO(ai:List Fact):Option ((List Fact)):=
 Im ai 0 ([]:List Fact)
theorem aaz{ai:List Fact}{aa:Sv}{R:(List Fact)}(hF:MO ai=some R):
   Fw.Spec Tryz.prog 105 [aa.v] [dD aa ai] (fun p:Sv×List Nat=>p.1.v) (fun p=>[fV p.2 p.1 R]):=by
 refine Se 20 Tryz.func105 [.tmp 2] ?_
 intro H0 F0
 unfold MO at hF
 refine aP ?_
 refine dx rfl (bV (g:=true) dX.h dA.h .nil (vs:=[]) rfl rfl rfl (by simp)) (fun k1=>?_)
 refine dH (.cons .h .nil) (bY (Ro:=fP) (E:=147) (F:=[]) (xs:=([]:List Fact)) bX rfl rfl) ?_
 refine eD ?_
 refine aY (bK (m:=ai.length) (fun m6 f' cs'=>∃(g:Fr)(k8:Nat)(dE c2:List Fact)(v3:Sv)(F4:List Nat),m6=dE.length/\f'=aN g [(3,v3.v),(7,aa.v),(8,(zi (ai.length:Int))),(9,(zi (k8:Int)))]/\List.drop k8 ai=dE/\aK cs' [fV F4 v3 c2,dD aa ai]/\Im dE k8 c2=some R) ⟨_,0,_,_,⟨(some ⟨k1,0,none⟩),0,1⟩,(k1::[]),rfl,ay,rfl,ax,hF⟩ ?_)
 rintro m6 _ _ ⟨g7,k8,dE,c2,v3,F4,rfl,rfl,fZ,hE,hF⟩
 refine Kb hE ai (fun Cs=>?_)
 rcases dE with _|⟨dz,dE⟩
 · have o7:=dn fZ
   rw[Im]at hF
   refine aP ?_
   refine cO ?_
   refine eG ?_
   cases hF
   exact Er (v3,F4)
 obtain⟨o7,iM,o9⟩:=bW fZ
 rw[Im]at hF
 refine aP ?_
 refine cK ?_
 refine bC ?_
 refine Ai iM (fun k17 j18=>?_)
 refine iw (ky dz) kL (fun r_=>?_)
 refine dJ (fun k20=>?_)
 refine As (zg [(zi dz.Rel),r_.v]) ?_
 refine aP ?_
 refine bnd hF fun jr mY hF=>fq (aaC mY) (fun lX=>?_)
 refine dx rfl (bV (g:=true) dX.h dA.h bN (vs:=[(zg [(zi jr.Rel),lX.1.v])]) rfl rfl rfl (by intro v hv; simp at hv; rcases hv with rfl<;>rfl)) (fun k24=>?_)
 refine dH (.cons .h (.cons .h .nil)) (bY (Ro:=fP) (E:=147) (F:=(lX.2++[])) (xs:=([jr]:List Fact)) (eF zK bX dm) rfl rfl) ?_
 refine bnd hF fun z25 ll hF=>dU (.cons .q4 (.cons .h .nil)) (ek (Ro:=fP) dX.h CK dA.h rfl rfl rfl (.tmp rfl rfl) (.tmp rfl rfl) ll fM) (fun p27=>?_)
 refine bu ?_
 rw[wk k8]
 exact⟨_,bO _,_,k8+1,dE,_,p27.1,p27.2,rfl,ay,o9,ax,hF⟩
end Go.Proofs.YtdmapdjncfkhhaaGreatDoor
