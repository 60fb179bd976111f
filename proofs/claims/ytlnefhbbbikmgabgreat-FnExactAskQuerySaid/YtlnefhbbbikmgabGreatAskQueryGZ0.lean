/-
  Functions of the program as Lean functions, and that the calls return what these say. No conditions.
-/
import Derived.Test.YtlnefhbbbikmgabGreatAskQueryGL1
import Derived.Test.YtlnefhbbbikmgabGreatAskQueryGS5
import Derived.Test.YtlnefhbbbikmgabGreatAskQueryGI8
set_option maxRecDepth 100000
set_option maxHeartbeats 4000000
set_option linter.unusedVariables false
namespace Go.Proofs.YtlnefhbbbikmgabGreat
open Go Go.Fw
def Ph(fuel:Nat)(iD:bU)(wH:Query):Option (Bool):=
 (Qn iD 1048576).bind fun r3=>
 if (decide ((r3:Int)<0))then (
   some true)
 else (
   (RS wH r3).bind fun r6=>
   if (decide ((r6:Int)<0))then (
     some true)
   else (
     (EJ iD).bind fun fF=>
     (E8 wH).bind fun gQ=>
     (MC fuel fF gQ).bind fun r16=>
     (EJ iD).bind fun eU=>
     (E8 wH).bind fun jy=>
     (Iy fuel eU jy).bind fun fD=>
     ((EK fD.1 r16.1).bind fun zH=>
       bif (!zH)then (some true)
       else (some (!(fD.2==r16.2)))).bind fun Wx=>
     match Wx with
     |c37=>if c37 then (
         some false)
       else (
         (EJ iD).bind fun Oy=>
         (EK eU Oy).bind fun Ox=>
         if (!Ox)then (
           some false)
         else (
           (E8 wH).bind fun pI=>
           (RZ jy pI).bind fun r47=>
           if (!r47)then (
             some false)
           else (
             (Lj eU 1).bind fun r50=>
             (QP jy r50.1).bind fun El=>
             (bif (decide ((El.1:Int)<0))then (some true)
               else ((EK fD.1 r16.1).bind fun r59=>
                 bif (!r59)then (some true)
                 else (some (!(fD.2==r16.2))))).bind fun o56=>
             match o56 with
             |mr=>if mr then (
                 some false)
               else (
                 (Lj fD.1 1).bind fun mE=>
                 (Hf (⟨mE.2.bA,mE.2.Methods,mE.2.bV,(⟨mE.2.Source.Facts,fD.1.Source.Version⟩:Source),(⟨mE.2.Cache.Entries,fD.1.Cache.Age⟩:Cache),fD.1.Now,mE.2.bD,mE.2.dh,fD.1.bI,mE.2.bX⟩:bU) 1).bind fun WL=>
                 if (decide ((WL:Int)<0))then (
                   some false)
                 else (
                   if ((WL:Int)!=mE.1)then (
                     some false)
                   else (
                     (EJ iD).bind fun r71=>
                     (E8 wH).bind fun r74=>
                     (Iy fuel r71 r74).bind fun mW=>
                     ((EK mW.1 r16.1).bind fun r82=>
                       bif (!r82)then (some true)
                       else (some (!(mW.2==r16.2)))).bind fun o80=>
                     match o80 with
                     |wU=>if wU then (
                         some false)
                       else (
                         (Hf (⟨mE.2.bA,mE.2.Methods,mE.2.bV,(⟨mE.2.Source.Facts,fD.1.Source.Version⟩:Source),(⟨mE.2.Cache.Entries,fD.1.Cache.Age⟩:Cache),fD.1.Now,mE.2.bD,mE.2.dh,fD.1.bI,mE.2.bX⟩:bU) 1).bind fun r87=>
                         if (decide ((r87:Int)<0))then (
                           some false)
                         else (
                           if ((r87:Int)!=mE.1)then (
                             some false)
                           else (
                             some true)))))))))))
theorem arV{fuel:Nat}{iD:bU}{aA bB eG f_ iL jq jr iX:Sv}{wH:Query}{bf bR:Sv}{R:Bool}(hF:Ph fuel iD wH=some R):
   Fw.Spec Tryz.prog 3 [(zg [aA.v,bB.v,eG.v,f_.v,(zi iD.Source.Version),iL.v,(zi iD.Cache.Age),(zi iD.Now),jq.v,jr.v,(zi iD.bI),iX.v]),(zg [bf.v,bR.v])] [bi aA iD.bA,afJ bB iD.Methods,afK eG iD.bV,afN f_ iD.Source.Facts,afO iL iD.Cache.Entries,afL jq iD.bD,bi jr iD.dh,aI (ak 79 (ak 22 (ak 3 ax))) iX.v iD.bX,bi bf wH.a_,afM bR wH.aL] (fun _:Unit=>(.bool R)) (fun _=>[]):=by
 refine Se 119 Tryz.func3 [.tmp 4] ?_
 intro H0 F0
 unfold Ph at hF
 refine au ?_
 refine j6 (fun k1=>?_)
 refine j6 (fun k2=>?_)
 refine kP ?_
 refine bnd hF fun r3 hx4 hF=>oO (asG.h hx4) (fun _=>?_)
 refine iq ?_
 refine Ci hF (fun aE3 hF=>?_) (fun aE3 hF=>?_)
 · exact ze hF
 refine dO ?_
 refine bnd hF fun r6 hx7 hF=>oO (auz.h hx7) (fun _=>?_)
 refine iq ?_
 refine Ci hF (fun afY hF=>?_) (fun afY hF=>?_)
 · exact ze hF
 refine au ?_
 refine iQ [0,2,8,1,3,4,5,6,7,9,10] [0,1,0,7,15,31,63,63,0,383,1023] [1,3,4,9] mixed (by decide+kernel) ?_
 refine jF ?_
 refine jw rfl .no rfl (fun ha=>vW (g:=true) qE.h rfl rfl) (fun k9=>?_)
 refine bnd hF fun fF DR hF=>aad rfl rfl .no (.rd .q3 rfl (.rd .q4 rfl (.rd .q5 rfl (.rd .q6 rfl (.rd .q7 rfl (.rd .q8 rfl (.rd .q9 rfl (.rd .q10 rfl .nil)))))))) (.own .h (fun _ h=>h) .nil) (fun ha=>CG (post':=fun kE:Sv×List Nat×Sv×List Nat×Sv×List Nat×Sv×List Nat×Sv×List Nat×Sv×List Nat×Sv×List Nat×Sv×List Nat=>[bi kE.1 fF.bA,dY kE.2.2.1 fF.Methods,wu kE.2.2.2.2.1 fF.bV,iK kE.2.2.2.2.2.2.1 fF.Source.Facts,ku kE.2.2.2.2.2.2.2.2.1 fF.Cache.Entries,sN kE.2.2.2.2.2.2.2.2.2.2.1 fF.bD,bi kE.2.2.2.2.2.2.2.2.2.2.2.2.1 fF.dh,aI (ak 79 (ak 22 (ak 3 ax))) kE.2.2.2.2.2.2.2.2.2.2.2.2.2.2.1.v fF.bX]) (fun kE=>(.cO .h aX (.cO (.t .h) aX (.cO .q2 aX (.cO .q3 aX (.cO .q4 aX (.cO .q5 aX (.cO .q6 aX (.cO .q7 aX bT))))))))) (cK cf7.h (.cons (EN ha (.tmp rfl rfl) rfl) .nil) (X4.h DR))) (fun kE=>?_)
 refine bnd hF fun gQ J3 hF=>pQ rfl rfl .no (.rd (.t (.t (.t (.t (.t (.t (.t (.t (.t (.t (.t (.t (.t (.t (.t (.t (.t (.t (.t .h))))))))))))))))))) rfl (.rd (.t (.t (.t (.t (.t (.t (.t (.t (.t (.t (.t (.t (.t (.t (.t (.t (.t (.t (.t (.t .h)))))))))))))))))))) rfl .nil)) (.own .q8 (fun _ h=>h) .nil) (fun ha=>CG (post':=fun oU:Sv×List Nat×Sv×List Nat=>[bi oU.1 gQ.a_,eF oU.2.2.1 gQ.aL]) (fun oU=>(.cO .h aX (.cO (.t .h) aX bT))) (cK cf8.h (.cons (EN ha (.tmp rfl rfl) rfl) .nil) (YM.h J3))) (fun oU=>?_)
 refine bnd hF fun r16 Vm hF=>aad rfl rfl .no (.rd .q2 rfl (.rd .q3 rfl (.rd .q4 rfl (.rd .q5 rfl (.rd .q6 rfl (.rd .q7 rfl (.rd .q8 rfl (.rd .q9 rfl (.rd .h rfl (.rd (.t .h) rfl .nil)))))))))) (.own .q10 (fun _ h=>h) .nil) (fun ha=>cK cf6.h (.cons (EN ha (.tmp rfl rfl) rfl) (.cons (EN ha (.tmp rfl rfl) rfl) .nil)) (atQ.h Vm)) (fun bZ=>?_)
 refine du ?_
 refine dw rfl .no (fun ha=>tC (l:=[(zg [bZ.1.v,bZ.2.2.1.v,bZ.2.2.2.2.1.v,bZ.2.2.2.2.2.2.1.v,(zi r16.1.Source.Version),bZ.2.2.2.2.2.2.2.2.1.v,(zi r16.1.Cache.Age),(zi r16.1.Now),bZ.2.2.2.2.2.2.2.2.2.1.v,bZ.2.2.2.2.2.2.2.2.2.2.2.1.v,(zi r16.1.bI),bZ.2.2.2.2.2.2.2.2.2.2.2.2.2.1.v]),(.bool r16.2)]) (v:=(zg [bZ.1.v,bZ.2.2.1.v,bZ.2.2.2.2.1.v,bZ.2.2.2.2.2.2.1.v,(zi r16.1.Source.Version),bZ.2.2.2.2.2.2.2.2.1.v,(zi r16.1.Cache.Age),(zi r16.1.Now),bZ.2.2.2.2.2.2.2.2.2.1.v,bZ.2.2.2.2.2.2.2.2.2.2.2.1.v,(zi r16.1.bI),bZ.2.2.2.2.2.2.2.2.2.2.2.2.2.1.v])) (EN ha (.tmp rfl rfl) rfl) rfl) ?_
 refine dw rfl .no (fun ha=>tC (l:=[(zg [bZ.1.v,bZ.2.2.1.v,bZ.2.2.2.2.1.v,bZ.2.2.2.2.2.2.1.v,(zi r16.1.Source.Version),bZ.2.2.2.2.2.2.2.2.1.v,(zi r16.1.Cache.Age),(zi r16.1.Now),bZ.2.2.2.2.2.2.2.2.2.1.v,bZ.2.2.2.2.2.2.2.2.2.2.2.1.v,(zi r16.1.bI),bZ.2.2.2.2.2.2.2.2.2.2.2.2.2.1.v]),(.bool r16.2)]) (v:=(.bool r16.2)) (EN ha (.tmp rfl rfl) rfl) rfl) ?_
 refine dx rfl rfl .no (.cons (.t (.t (.t (.t (.t (.t (.t (.t (.t (.t (.t (.t (.t (.t (.t (.t (.t (.t .h)))))))))))))))))) .nil) (.aV rfl .nil) (fun ha=>iO (e':=(zg [bZ.1.v,bZ.2.2.1.v,bZ.2.2.2.2.1.v,bZ.2.2.2.2.2.2.1.v,(zi r16.1.Source.Version),bZ.2.2.2.2.2.2.2.2.1.v,(zi r16.1.Cache.Age),(zi r16.1.Now),bZ.2.2.2.2.2.2.2.2.2.1.v,bZ.2.2.2.2.2.2.2.2.2.2.2.1.v,(zi r16.1.bI),bZ.2.2.2.2.2.2.2.2.2.2.2.2.2.1.v])) (v:=(zg [bZ.1.v,bZ.2.2.1.v,bZ.2.2.2.2.1.v,bZ.2.2.2.2.2.2.1.v,(zi r16.1.Source.Version),bZ.2.2.2.2.2.2.2.2.1.v,(zi r16.1.Cache.Age),(zi r16.1.Now),bZ.2.2.2.2.2.2.2.2.2.1.v,bZ.2.2.2.2.2.2.2.2.2.2.2.1.v,(zi r16.1.bI),bZ.2.2.2.2.2.2.2.2.2.2.2.2.2.1.v])) qE.h.sz (EN ha (.tmp rfl rfl) rfl) (EN ha (.tmp rfl rfl) rfl) rfl rfl rfl rfl rfl) (fun _=>?_)
 refine jF ?_
 refine eu ?_
 refine bnd hF fun eU DN hF=>V4 (X4.h DN) (fun fH=>?_)
 refine gI (fun k22=>?_)
 refine As (zg [fH.1.v,fH.2.2.1.v,fH.2.2.2.2.1.v,fH.2.2.2.2.2.2.1.v,(zi eU.Source.Version),fH.2.2.2.2.2.2.2.2.1.v,(zi eU.Cache.Age),(zi eU.Now),fH.2.2.2.2.2.2.2.2.2.2.1.v,fH.2.2.2.2.2.2.2.2.2.2.2.2.1.v,(zi eU.bI),fH.2.2.2.2.2.2.2.2.2.2.2.2.2.2.1.v]) ?_
 refine fw ?_
 refine bnd hF fun jy hx24 hF=>V3 (YM.h hx24) (fun p25=>?_)
 refine gI (fun k26=>?_)
 refine As (zg [p25.1.v,p25.2.2.1.v]) ?_
 refine dO ?_
 refine bnd hF fun fD hx28 hF=>aBY (.cons .q2 (.cons (.t .h) (.cons .q9 (.cons .q8 (.cons .q7 (.cons .q6 (.cons .q5 (.cons .q4 (.cons .q3 (.cons .q2 .nil)))))))))) (qQ (pre:=[]) (.cons aX (.cons aX (.cons aX (.cons aX (.cons aX (.cons aX (.cons aX (.cons aX (.cons aX (.cons aX .nil)))))))))) (fun _=>(.cons (.cons (.cons (.cons (.cons (.cons (.cons (.cons .nil))))))))) (cK cf9.h fG (aj3.h hx28))) (fun p29=>?_)
 refine au ?_
 refine zx ?_
 refine zx ?_
 refine gI (fun Eu=>?_)
 refine As (zg [p29.1.v,p29.2.2.1.v,p29.2.2.2.2.1.v,p29.2.2.2.2.2.2.1.v,(zi fD.1.Source.Version),p29.2.2.2.2.2.2.2.2.1.v,(zi fD.1.Cache.Age),(zi fD.1.Now),p29.2.2.2.2.2.2.2.2.2.2.1.v,p29.2.2.2.2.2.2.2.2.2.2.2.2.1.v,(zi fD.1.bI),p29.2.2.2.2.2.2.2.2.2.2.2.2.2.2.1.v]) ?_
 refine fw ?_
 obtain⟨Wx,aE4,aH3⟩:=bind_some hF
 refine au ?_
 refine qo (fun f' cs'=>∃(c37:Bool)(g:Fr),c37=Wx/\f'=dm g [(2,(pz k1)),(3,(pz k2)),(6,(pz k9)),(7,(.bool r16.2)),(8,(pz k22)),(9,(pz k26)),(10,(pz Eu)),(11,(.bool fD.2)),(53,(.bool c37))]/\bL cs' [bC k1 34 (zg [aA.v,bB.v,eG.v,f_.v,(zi iD.Source.Version),iL.v,(zi iD.Cache.Age),(zi iD.Now),jq.v,jr.v,(zi iD.bI),iX.v]),bi aA iD.bA,afJ bB iD.Methods,afK eG iD.bV,afN f_ iD.Source.Facts,afO iL iD.Cache.Entries,afL jq iD.bD,bi jr iD.dh,aI (ak 79 (ak 22 (ak 3 ax))) iX.v iD.bX,bC k2 37 (zg [bf.v,bR.v]),bi bf wH.a_,afM bR wH.aL,aW k9 50 (zg [bZ.1.v,bZ.2.2.1.v,bZ.2.2.2.2.1.v,bZ.2.2.2.2.2.2.1.v,(zi r16.1.Source.Version),bZ.2.2.2.2.2.2.2.2.1.v,(zi r16.1.Cache.Age),(zi r16.1.Now),bZ.2.2.2.2.2.2.2.2.2.1.v,bZ.2.2.2.2.2.2.2.2.2.2.2.1.v,(zi r16.1.bI),bZ.2.2.2.2.2.2.2.2.2.2.2.2.2.1.v]),dW bZ.2.1 bZ.1 r16.1.bA,qz bZ.2.2.2.1 bZ.2.2.1 r16.1.Methods,qY bZ.2.2.2.2.2.1 bZ.2.2.2.2.1 r16.1.bV,ik bZ.2.2.2.2.2.2.2.1 bZ.2.2.2.2.2.2.1 r16.1.Source.Facts,ku bZ.2.2.2.2.2.2.2.2.1 r16.1.Cache.Entries,oL bZ.2.2.2.2.2.2.2.2.2.2.1 bZ.2.2.2.2.2.2.2.2.2.1 r16.1.bD,dW bZ.2.2.2.2.2.2.2.2.2.2.2.2.1 bZ.2.2.2.2.2.2.2.2.2.2.2.1 r16.1.dh,ah (aa 79 (aa 22 (aa 3 (az ax)))) bZ.2.2.2.2.2.2.2.2.2.2.2.2.2.2 bZ.2.2.2.2.2.2.2.2.2.2.2.2.2.1.v r16.1.bX,aW k22 50 (zg [fH.1.v,fH.2.2.1.v,fH.2.2.2.2.1.v,fH.2.2.2.2.2.2.1.v,(zi eU.Source.Version),fH.2.2.2.2.2.2.2.2.1.v,(zi eU.Cache.Age),(zi eU.Now),fH.2.2.2.2.2.2.2.2.2.2.1.v,fH.2.2.2.2.2.2.2.2.2.2.2.2.1.v,(zi eU.bI),fH.2.2.2.2.2.2.2.2.2.2.2.2.2.2.1.v]),dW fH.2.1 fH.1 eU.bA,qz fH.2.2.2.1 fH.2.2.1 eU.Methods,qY fH.2.2.2.2.2.1 fH.2.2.2.2.1 eU.bV,ik fH.2.2.2.2.2.2.2.1 fH.2.2.2.2.2.2.1 eU.Source.Facts,jK fH.2.2.2.2.2.2.2.2.2.1 fH.2.2.2.2.2.2.2.2.1 eU.Cache.Entries,oL fH.2.2.2.2.2.2.2.2.2.2.2.1 fH.2.2.2.2.2.2.2.2.2.2.1 eU.bD,dW fH.2.2.2.2.2.2.2.2.2.2.2.2.2.1 fH.2.2.2.2.2.2.2.2.2.2.2.2.1 eU.dh,ah (aa 79 (aa 22 (aa 3 (az ax)))) fH.2.2.2.2.2.2.2.2.2.2.2.2.2.2.2 fH.2.2.2.2.2.2.2.2.2.2.2.2.2.2.1.v eU.bX,aW k26 56 (zg [p25.1.v,p25.2.2.1.v]),dW p25.2.1 p25.1 jy.a_,TN p25.2.2.2 p25.2.2.1 jy.aL,aW Eu 50 (zg [p29.1.v,p29.2.2.1.v,p29.2.2.2.2.1.v,p29.2.2.2.2.2.2.1.v,(zi fD.1.Source.Version),p29.2.2.2.2.2.2.2.2.1.v,(zi fD.1.Cache.Age),(zi fD.1.Now),p29.2.2.2.2.2.2.2.2.2.2.1.v,p29.2.2.2.2.2.2.2.2.2.2.2.2.1.v,(zi fD.1.bI),p29.2.2.2.2.2.2.2.2.2.2.2.2.2.2.1.v]),dW p29.2.1 p29.1 fD.1.bA,qz p29.2.2.2.1 p29.2.2.1 fD.1.Methods,qY p29.2.2.2.2.2.1 p29.2.2.2.2.1 fD.1.bV,ik p29.2.2.2.2.2.2.2.1 p29.2.2.2.2.2.2.1 fD.1.Source.Facts,jK p29.2.2.2.2.2.2.2.2.2.1 p29.2.2.2.2.2.2.2.2.1 fD.1.Cache.Entries,oL p29.2.2.2.2.2.2.2.2.2.2.2.1 p29.2.2.2.2.2.2.2.2.2.2.1 fD.1.bD,dW p29.2.2.2.2.2.2.2.2.2.2.2.2.2.1 p29.2.2.2.2.2.2.2.2.2.2.2.2.1 fD.1.dh,ah (aa 79 (aa 22 (aa 3 (az ax)))) p29.2.2.2.2.2.2.2.2.2.2.2.2.2.2.2 p29.2.2.2.2.2.2.2.2.2.2.2.2.2.2.1.v fD.1.bX]) ?_ ?_
 · replace hF:=aE4
   refine eu ?_
   refine bnd hF fun zH hx34 hF=>afk (.cons (.t (.t (.t (.t (.t (.t (.t (.t (.t (.t (.t (.t (.t (.t (.t (.t (.t (.t (.t (.t (.t (.t (.t (.t (.t (.t (.t (.t (.t .h))))))))))))))))))))))))))))) (.cons (.t (.t (.t (.t (.t (.t (.t (.t (.t (.t (.t (.t (.t (.t (.t (.t (.t (.t (.t (.t (.t (.t (.t (.t (.t (.t (.t (.t .h)))))))))))))))))))))))))))) (.cons (.t (.t (.t (.t (.t (.t (.t (.t (.t (.t (.t (.t (.t (.t (.t (.t (.t (.t (.t (.t (.t (.t (.t (.t (.t (.t (.t .h))))))))))))))))))))))))))) (.cons (.t (.t (.t (.t (.t (.t (.t (.t (.t (.t (.t (.t (.t (.t (.t (.t (.t (.t (.t (.t (.t (.t (.t (.t (.t .h))))))))))))))))))))))))) (.cons (.t (.t (.t (.t (.t (.t (.t (.t (.t (.t (.t (.t (.t (.t (.t (.t (.t (.t (.t (.t (.t (.t (.t (.t .h)))))))))))))))))))))))) (.cons (.t (.t (.t (.t (.t (.t (.t (.t (.t (.t (.t (.t (.t (.t (.t (.t (.t (.t (.t (.t (.t (.t (.t .h))))))))))))))))))))))) (.cons (.t (.t (.t (.t (.t (.t (.t (.t (.t (.t (.t (.t (.t (.t (.t (.t (.t (.t (.t (.t (.t (.t .h)))))))))))))))))))))) (.cons (.t (.t (.t (.t (.t (.t (.t (.t (.t (.t (.t (.t (.t (.t (.t (.t (.t (.t .h)))))))))))))))))) (.cons (.t (.t (.t (.t (.t (.t (.t (.t (.t (.t (.t (.t (.t (.t (.t (.t (.t .h))))))))))))))))) (.cons (.t (.t (.t (.t (.t (.t (.t (.t (.t (.t (.t (.t (.t (.t (.t (.t .h)))))))))))))))) (.cons (.t (.t (.t (.t (.t (.t (.t (.t (.t (.t (.t (.t (.t (.t (.t .h))))))))))))))) (.cons .q14 (.cons .q13 (.cons .q12 (.cons .q11 (.rd .q14 rfl .nil)))))))))))))))) (qQ (pre:=_) (.cons aX (.cons aX (.cons aX (.cons aX (.cons aX (.cons aX (.cons aX (.cons aX (.cons aX (.cons aX (.cons aX (.cons aX (.cons aX (.cons aX (.cons aX .nil))))))))))))))) (fun _=>.nil) (qR (.rd .h rfl (.rd (.t .h) rfl (.rd .q2 rfl (.rd .q3 rfl (.rd .q4 rfl (.rd .q5 rfl (.rd .q6 rfl (.rd .q7 rfl (.rd .q8 rfl (.rd .q9 rfl (.rd .q10 rfl (.rd .q11 rfl (.rd (.t (.t (.t (.t (.t (.t (.t (.t (.t (.t (.t (.t (.t (.t (.t .h))))))))))))))) rfl (.rd .q12 rfl (.rd .q13 rfl (.rd .q14 rfl .nil)))))))))))))))) (cK aby.h fG (X5.h hx34)))) (fun _=>?_)
   refine eu ?_
   rcases kQ (!zH)with VW|VW
   · rw[VW]
     try rw[VW]at hF; dsimp only[eZ,eY]at hF
     exact jP hF
   rw[VW]
   try rw[VW]at hF; dsimp only[eZ,eY]at hF
   refine fI ?_
   refine aP (TF (a:=fD.2) (b:=r16.2) Tryz.underlying4 (.tmp rfl rfl) (.tmp rfl rfl)) ?_
   exact jP hF
 rintro _ _ ⟨c37,aHi,rfl,rfl,hE⟩
 replace hF:=aH3
 try dsimp only at hF
 refine gV hE ?_
 refine Ci hF (fun aE5 hF=>?_) (fun aE5 hF=>?_)
 · exact ze hF
 refine eu ?_
 refine iQ [0,1,2,3,4] [0,0,2,7,15] [2,3] mixed (by decide+kernel) ?_
 refine dF rfl .no (.t (.t (.t (.t (.t (.t (.t (.t (.t (.t (.t (.t (.t (.t (.t (.t (.t (.t (.t (.t (.t .h))))))))))))))))))))) (fun ha hp=>lm Dy.h qE.h.sz rfl (EN ha (.tmp rfl rfl) rfl) hp.2 rfl) ?_
 refine du ?_
 refine bnd hF fun Oy hx39 hF=>aad rfl rfl .no (.rd (.t .h) rfl (.rd .q2 rfl (.rd .q3 rfl (.rd .q4 rfl (.rd .q5 rfl (.rd .q6 rfl (.rd .q7 rfl (.rd .q8 rfl .nil)))))))) (.own (.t (.t (.t (.t (.t (.t (.t (.t (.t (.t (.t (.t (.t (.t (.t (.t (.t (.t (.t (.t (.t .h))))))))))))))))))))) (fun _ h=>h) .nil) (fun ha=>cK cf7.h (.cons (EN ha (.tmp rfl rfl) rfl) .nil) (X4.h hx39)) (fun p40=>?_)
 refine bnd hF fun Ox JY hF=>axX rfl rfl .no (.cons .q7 (.cons .q6 (.cons .q5 (.cons .q4 (.cons .q3 (.cons .q2 (.cons (.t .h) (.cons .h (.cons (.t (.t (.t (.t (.t (.t (.t (.t (.t (.t (.t (.t (.t (.t (.t (.t (.t (.t (.t (.t (.t (.t (.t (.t (.t (.t (.t (.t (.t .h))))))))))))))))))))))))))))) (.cons (.t (.t (.t (.t (.t (.t (.t (.t (.t (.t (.t (.t (.t (.t (.t (.t (.t (.t (.t (.t (.t (.t (.t (.t (.t (.t (.t (.t .h)))))))))))))))))))))))))))) (.cons (.t (.t (.t (.t (.t (.t (.t (.t (.t (.t (.t (.t (.t (.t (.t (.t (.t (.t (.t (.t (.t (.t (.t (.t (.t (.t (.t .h))))))))))))))))))))))))))) (.cons (.t (.t (.t (.t (.t (.t (.t (.t (.t (.t (.t (.t (.t (.t (.t (.t (.t (.t (.t (.t (.t (.t (.t (.t (.t (.t .h)))))))))))))))))))))))))) (.cons (.t (.t (.t (.t (.t (.t (.t (.t (.t (.t (.t (.t (.t (.t (.t (.t (.t (.t (.t (.t (.t (.t (.t (.t (.t .h))))))))))))))))))))))))) (.cons (.t (.t (.t (.t (.t (.t (.t (.t (.t (.t (.t (.t (.t (.t (.t (.t (.t (.t (.t (.t (.t (.t (.t (.t .h)))))))))))))))))))))))) (.cons (.t (.t (.t (.t (.t (.t (.t (.t (.t (.t (.t (.t (.t (.t (.t (.t (.t (.t (.t (.t (.t (.t (.t .h))))))))))))))))))))))) (.cons (.t (.t (.t (.t (.t (.t (.t (.t (.t (.t (.t (.t (.t (.t (.t (.t (.t (.t (.t (.t (.t (.t .h)))))))))))))))))))))) .nil)))))))))))))))) (.aV rfl .nil) (fun ha=>qQ (pre:=[]) (.cons aX (.cons aX (.cons aX (.cons aX (.cons aX (.cons aX (.cons aX (.cons aX (.cons aX (.cons aX (.cons aX (.cons aX (.cons aX (.cons aX (.cons aX (.cons aX .nil)))))))))))))))) (fun _=>.nil) (cK aby.h (.cons (EN ha (.tmp rfl rfl) rfl) (.cons (EN ha (.tmp rfl rfl) rfl) .nil)) (X5.h JY))) (fun _=>?_)
 refine jF ?_
 refine Ci hF (fun aH4 hF=>?_) (fun aH4 hF=>?_)
 · exact ze hF
 refine eu ?_
 refine iQ [0,1,2,3,4] [0,0,2,7,15] [2,3] mixed (by decide+kernel) ?_
 refine dF rfl .no (.t (.t (.t (.t (.t (.t (.t (.t (.t (.t (.t (.t (.t (.t (.t (.t (.t (.t (.t (.t (.t (.t (.t (.t (.t (.t (.t (.t (.t (.t (.t (.t (.t (.t (.t (.t (.t (.t .h)))))))))))))))))))))))))))))))))))))) (fun ha hp=>lm abr.h F_.h.sz rfl (EN ha (.tmp rfl rfl) rfl) hp.2 rfl) ?_
 refine du ?_
 refine bnd hF fun pI U7 hF=>pQ rfl rfl .no (.rd (.t (.t (.t (.t (.t (.t (.t (.t (.t (.t (.t (.t (.t (.t (.t (.t (.t (.t (.t (.t (.t (.t (.t (.t (.t (.t .h)))))))))))))))))))))))))) rfl (.rd (.t (.t (.t (.t (.t (.t (.t (.t (.t (.t (.t (.t (.t (.t (.t (.t (.t (.t (.t (.t (.t (.t (.t (.t (.t (.t (.t .h))))))))))))))))))))))))))) rfl .nil)) (.own (.t (.t (.t (.t (.t (.t (.t (.t (.t (.t (.t (.t (.t (.t (.t (.t (.t (.t (.t (.t (.t (.t (.t (.t (.t (.t (.t (.t (.t (.t (.t (.t (.t (.t (.t (.t (.t (.t .h)))))))))))))))))))))))))))))))))))))) (fun _ h=>h) .nil) (fun ha=>cK cf8.h (.cons (EN ha (.tmp rfl rfl) rfl) .nil) (YM.h U7)) (fun p46=>?_)
 refine bnd hF fun r47 DD hF=>aeO rfl rfl .no (.cons (.t .h) (.cons .h (.cons (.t (.t (.t (.t (.t (.t (.t (.t (.t (.t (.t (.t (.t (.t (.t (.t (.t (.t (.t (.t (.t (.t (.t (.t (.t (.t (.t (.t (.t (.t (.t (.t (.t (.t (.t (.t (.t (.t (.t (.t .h)))))))))))))))))))))))))))))))))))))))) (.cons (.t (.t (.t (.t (.t (.t (.t (.t (.t (.t (.t (.t (.t (.t (.t (.t (.t (.t (.t (.t (.t (.t (.t (.t (.t (.t (.t (.t (.t (.t (.t (.t (.t (.t (.t (.t (.t (.t (.t .h))))))))))))))))))))))))))))))))))))))) .nil)))) (.aV rfl .nil) (fun ha=>qQ (pre:=[]) (.cons aX (.cons aX (.cons aX (.cons aX .nil)))) (fun _=>.nil) (cK aF'.h (.cons (EN ha (.tmp rfl rfl) rfl) (.cons (EN ha (.tmp rfl rfl) rfl) .nil)) (auA.h DD))) (fun _=>?_)
 refine jF ?_
 refine Ci hF (fun ahr hF=>?_) (fun ahr hF=>?_)
 · exact ze hF
 refine iq ?_
 refine bnd hF fun r50 JV hF=>V4 (XW JV) (fun p52=>?_)
 refine fI ?_
 refine bnd hF fun El ahL hF=>V3 (acU ahL) (fun p55=>?_)
 refine fw ?_
 obtain⟨o56,aE6,aH5⟩:=bind_some hF
 refine au ?_
 refine qo (fun f' cs'=>∃(mr:Bool)(g:Fr),mr=o56/\f'=dm g [(2,(pz k1)),(3,(pz k2)),(6,(pz k9)),(7,(.bool r16.2)),(10,(pz Eu)),(82,(.bool mr))]/\bL cs' [bC k1 34 (zg [aA.v,bB.v,eG.v,f_.v,(zi iD.Source.Version),iL.v,(zi iD.Cache.Age),(zi iD.Now),jq.v,jr.v,(zi iD.bI),iX.v]),bi aA iD.bA,afJ bB iD.Methods,afK eG iD.bV,afN f_ iD.Source.Facts,afO iL iD.Cache.Entries,afL jq iD.bD,bi jr iD.dh,aI (ak 79 (ak 22 (ak 3 ax))) iX.v iD.bX,bC k2 37 (zg [bf.v,bR.v]),bi bf wH.a_,afM bR wH.aL,aW k9 50 (zg [bZ.1.v,bZ.2.2.1.v,bZ.2.2.2.2.1.v,bZ.2.2.2.2.2.2.1.v,(zi r16.1.Source.Version),bZ.2.2.2.2.2.2.2.2.1.v,(zi r16.1.Cache.Age),(zi r16.1.Now),bZ.2.2.2.2.2.2.2.2.2.1.v,bZ.2.2.2.2.2.2.2.2.2.2.2.1.v,(zi r16.1.bI),bZ.2.2.2.2.2.2.2.2.2.2.2.2.2.1.v]),dW bZ.2.1 bZ.1 r16.1.bA,qz bZ.2.2.2.1 bZ.2.2.1 r16.1.Methods,qY bZ.2.2.2.2.2.1 bZ.2.2.2.2.1 r16.1.bV,ik bZ.2.2.2.2.2.2.2.1 bZ.2.2.2.2.2.2.1 r16.1.Source.Facts,ku bZ.2.2.2.2.2.2.2.2.1 r16.1.Cache.Entries,oL bZ.2.2.2.2.2.2.2.2.2.2.1 bZ.2.2.2.2.2.2.2.2.2.1 r16.1.bD,dW bZ.2.2.2.2.2.2.2.2.2.2.2.2.1 bZ.2.2.2.2.2.2.2.2.2.2.2.1 r16.1.dh,ah (aa 79 (aa 22 (aa 3 (az ax)))) bZ.2.2.2.2.2.2.2.2.2.2.2.2.2.2 bZ.2.2.2.2.2.2.2.2.2.2.2.2.2.1.v r16.1.bX,aW Eu 50 (zg [p29.1.v,p29.2.2.1.v,p29.2.2.2.2.1.v,p29.2.2.2.2.2.2.1.v,(zi fD.1.Source.Version),p29.2.2.2.2.2.2.2.2.1.v,(zi fD.1.Cache.Age),(zi fD.1.Now),p29.2.2.2.2.2.2.2.2.2.2.1.v,p29.2.2.2.2.2.2.2.2.2.2.2.2.1.v,(zi fD.1.bI),p29.2.2.2.2.2.2.2.2.2.2.2.2.2.2.1.v]),dW p29.2.1 p29.1 fD.1.bA,qz p29.2.2.2.1 p29.2.2.1 fD.1.Methods,qY p29.2.2.2.2.2.1 p29.2.2.2.2.1 fD.1.bV,ik p29.2.2.2.2.2.2.2.1 p29.2.2.2.2.2.2.1 fD.1.Source.Facts,jK p29.2.2.2.2.2.2.2.2.2.1 p29.2.2.2.2.2.2.2.2.1 fD.1.Cache.Entries,oL p29.2.2.2.2.2.2.2.2.2.2.2.1 p29.2.2.2.2.2.2.2.2.2.2.1 fD.1.bD,dW p29.2.2.2.2.2.2.2.2.2.2.2.2.2.1 p29.2.2.2.2.2.2.2.2.2.2.2.2.1 fD.1.dh,ah (aa 79 (aa 22 (aa 3 (az ax)))) p29.2.2.2.2.2.2.2.2.2.2.2.2.2.2.2 p29.2.2.2.2.2.2.2.2.2.2.2.2.2.2.1.v fD.1.bX]) ?_ ?_
 · replace hF:=aE6
   refine fw ?_
   rcases kQ (decide ((El.1:Int)<0))with y9|y9
   · rw[y9]
     try rw[y9]at hF; dsimp only[eZ,eY]at hF
     exact jP hF
   rw[y9]
   try rw[y9]at hF; dsimp only[eZ,eY]at hF
   refine fI ?_
   refine bnd hF fun r59 xJ hF=>afk (.cons (.t (.t (.t (.t (.t (.t (.t (.t (.t (.t (.t (.t (.t (.t (.t (.t (.t (.t (.t (.t (.t (.t (.t (.t (.t (.t (.t (.t (.t (.t (.t (.t (.t (.t (.t (.t (.t (.t (.t (.t .h)))))))))))))))))))))))))))))))))))))))) (.cons (.t (.t (.t (.t (.t (.t (.t (.t (.t (.t (.t (.t (.t (.t (.t (.t (.t (.t (.t (.t (.t (.t (.t (.t (.t (.t (.t (.t (.t (.t (.t (.t (.t (.t (.t (.t (.t (.t (.t .h))))))))))))))))))))))))))))))))))))))) (.cons (.t (.t (.t (.t (.t (.t (.t (.t (.t (.t (.t (.t (.t (.t (.t (.t (.t (.t (.t (.t (.t (.t (.t (.t (.t (.t (.t (.t (.t (.t (.t (.t (.t (.t (.t (.t (.t (.t .h)))))))))))))))))))))))))))))))))))))) (.cons (.t (.t (.t (.t (.t (.t (.t (.t (.t (.t (.t (.t (.t (.t (.t (.t (.t (.t (.t (.t (.t (.t (.t (.t (.t (.t (.t (.t (.t (.t (.t (.t (.t (.t (.t (.t .h)))))))))))))))))))))))))))))))))))) (.cons (.t (.t (.t (.t (.t (.t (.t (.t (.t (.t (.t (.t (.t (.t (.t (.t (.t (.t (.t (.t (.t (.t (.t (.t (.t (.t (.t (.t (.t (.t (.t (.t (.t (.t (.t .h))))))))))))))))))))))))))))))))))) (.cons (.t (.t (.t (.t (.t (.t (.t (.t (.t (.t (.t (.t (.t (.t (.t (.t (.t (.t (.t (.t (.t (.t (.t (.t (.t (.t (.t (.t (.t (.t (.t (.t (.t (.t .h)))))))))))))))))))))))))))))))))) (.cons (.t (.t (.t (.t (.t (.t (.t (.t (.t (.t (.t (.t (.t (.t (.t (.t (.t (.t (.t (.t (.t (.t (.t (.t (.t (.t (.t (.t (.t (.t (.t (.t (.t .h))))))))))))))))))))))))))))))))) (.cons (.t (.t (.t (.t (.t (.t (.t (.t (.t (.t (.t (.t (.t (.t (.t (.t (.t (.t (.t (.t (.t (.t (.t (.t (.t (.t (.t (.t (.t (.t (.t (.t (.t (.t (.t (.t (.t (.t (.t (.t (.t (.t (.t (.t .h)))))))))))))))))))))))))))))))))))))))))))) (.cons (.t (.t (.t (.t (.t (.t (.t (.t (.t (.t (.t (.t (.t (.t (.t (.t (.t (.t (.t (.t (.t (.t (.t (.t (.t (.t (.t (.t (.t (.t (.t (.t (.t (.t (.t (.t (.t (.t (.t (.t (.t (.t (.t .h))))))))))))))))))))))))))))))))))))))))))) (.cons (.t (.t (.t (.t (.t (.t (.t (.t (.t (.t (.t (.t (.t (.t (.t (.t (.t (.t (.t (.t (.t (.t (.t (.t (.t (.t (.t (.t (.t (.t (.t (.t (.t (.t (.t (.t (.t (.t (.t (.t (.t (.t .h)))))))))))))))))))))))))))))))))))))))))) (.cons (.t (.t (.t (.t (.t (.t (.t (.t (.t (.t (.t (.t (.t (.t (.t (.t (.t (.t (.t (.t (.t (.t (.t (.t (.t (.t (.t (.t (.t (.t (.t (.t (.t (.t (.t (.t (.t (.t (.t (.t (.t .h))))))))))))))))))))))))))))))))))))))))) (.cons (.t (.t (.t (.t (.t (.t (.t (.t (.t (.t (.t (.t (.t (.t (.t (.t (.t (.t (.t (.t (.t (.t (.t (.t (.t (.t (.t (.t (.t (.t (.t (.t (.t (.t (.t (.t (.t (.t (.t (.t .h)))))))))))))))))))))))))))))))))))))))) (.cons (.t (.t (.t (.t (.t (.t (.t (.t (.t (.t (.t (.t (.t (.t (.t (.t (.t (.t (.t (.t (.t (.t (.t (.t (.t (.t (.t (.t (.t (.t (.t (.t (.t (.t (.t (.t (.t (.t (.t .h))))))))))))))))))))))))))))))))))))))) (.cons (.t (.t (.t (.t (.t (.t (.t (.t (.t (.t (.t (.t (.t (.t (.t (.t (.t (.t (.t (.t (.t (.t (.t (.t (.t (.t (.t (.t (.t (.t (.t (.t (.t (.t (.t (.t (.t (.t .h)))))))))))))))))))))))))))))))))))))) (.cons (.t (.t (.t (.t (.t (.t (.t (.t (.t (.t (.t (.t (.t (.t (.t (.t (.t (.t (.t (.t (.t (.t (.t (.t (.t (.t (.t (.t (.t (.t (.t (.t (.t (.t (.t (.t (.t .h))))))))))))))))))))))))))))))))))))) (.rd (.t (.t (.t (.t (.t (.t (.t (.t (.t (.t (.t (.t (.t (.t (.t (.t (.t (.t (.t (.t (.t (.t (.t (.t (.t (.t (.t (.t (.t (.t (.t (.t (.t .h))))))))))))))))))))))))))))))))) rfl .nil)))))))))))))))) (qQ (pre:=_) (.cons aX (.cons aX (.cons aX (.cons aX (.cons aX (.cons aX (.cons aX (.cons aX (.cons aX (.cons aX (.cons aX (.cons aX (.cons aX (.cons aX (.cons aX .nil))))))))))))))) (fun _=>.nil) (qR (.rd .h rfl (.rd (.t .h) rfl (.rd .q2 rfl (.rd .q3 rfl (.rd .q4 rfl (.rd .q5 rfl (.rd .q6 rfl (.rd .q7 rfl (.rd .q8 rfl (.rd .q9 rfl (.rd .q10 rfl (.rd .q11 rfl (.rd (.t (.t (.t (.t (.t (.t (.t (.t (.t (.t (.t (.t (.t (.t (.t .h))))))))))))))) rfl (.rd .q12 rfl (.rd .q13 rfl (.rd .q14 rfl .nil)))))))))))))))) (cK aby.h fG (X5.h xJ)))) (fun _=>?_)
   refine dO ?_
   rcases kQ (!r59)with VX|VX
   · rw[VX]
     try rw[VX]at hF; dsimp only[eZ,eY]at hF
     exact jP hF
   rw[VX]
   try rw[VX]at hF; dsimp only[eZ,eY]at hF
   refine fI ?_
   refine aP (TF (a:=fD.2) (b:=r16.2) Tryz.underlying4 (.tmp rfl rfl) (.tmp rfl rfl)) ?_
   exact jP hF
 rintro _ _ ⟨mr,g97,rfl,rfl,hE⟩
 replace hF:=aH5
 try dsimp only at hF
 refine gV hE ?_
 refine Ci hF (fun aH6 hF=>?_) (fun aH6 hF=>?_)
 · exact ze hF
 refine iq ?_
 refine bnd hF fun mE J4 hF=>V4 (XW J4) (fun p66=>?_)
 refine kP ?_
 refine bnd hF fun WL aH7 hF=>agH (.cons .q7 (.cons .q6 (.cons .q5 (.cons .q4 (.cons .q3 (.cons .q2 (.cons (.t .h) (.cons .h .nil)))))))) (qQ (pre:=[]) (.cons aX (.cons aX (.cons aX (.cons aX (.cons aX (.cons aX (.cons aX (.cons aX .nil)))))))) (fun _=>.nil) (cK aqd.h fG (ai3.h aH7))) (fun _=>?_)
 refine iq ?_
 refine Ci hF (fun aH8 hF=>?_) (fun aH8 hF=>?_)
 · exact ze hF
 refine iq ?_
 refine Ci hF (fun aH9 hF=>?_) (fun aH9 hF=>?_)
 · exact ze hF
 refine au ?_
 refine iQ [0,2,8,1,3,4,5,6,7,9,10] [0,1,0,7,15,31,63,63,0,383,1023] [1,3,4,9] mixed (by decide+kernel) ?_
 refine jF ?_
 refine jw rfl .no rfl (fun ha=>vW (g:=true) qE.h rfl rfl) (fun k70=>?_)
 refine bnd hF fun r71 aH_ hF=>aad rfl rfl .no (.rd .q10 rfl (.rd .q11 rfl (.rd .q12 rfl (.rd .q13 rfl (.rd .q14 rfl (.rd (.t (.t (.t (.t (.t (.t (.t (.t (.t (.t (.t (.t (.t (.t (.t .h))))))))))))))) rfl (.rd (.t (.t (.t (.t (.t (.t (.t (.t (.t (.t (.t (.t (.t (.t (.t (.t .h)))))))))))))))) rfl (.rd (.t (.t (.t (.t (.t (.t (.t (.t (.t (.t (.t (.t (.t (.t (.t (.t (.t .h))))))))))))))))) rfl .nil)))))))) (.own .h (fun _ h=>h) .nil) (fun ha=>cK cf7.h (.cons (EN ha (.tmp rfl rfl) rfl) .nil) (X4.h aH_)) (fun p73=>?_)
 refine bnd hF fun r74 U5 hF=>pQ rfl rfl .no (.rd (.t (.t (.t (.t (.t (.t (.t (.t (.t (.t (.t (.t (.t (.t (.t (.t (.t (.t (.t (.t (.t (.t (.t (.t (.t (.t (.t .h))))))))))))))))))))))))))) rfl (.rd (.t (.t (.t (.t (.t (.t (.t (.t (.t (.t (.t (.t (.t (.t (.t (.t (.t (.t (.t (.t (.t (.t (.t (.t (.t (.t (.t (.t .h)))))))))))))))))))))))))))) rfl .nil)) (.own .q8 (fun _ h=>h) .nil) (fun ha=>cK cf8.h (.cons (EN ha (.tmp rfl rfl) rfl) .nil) (YM.h U5)) (fun p76=>?_)
 refine bnd hF fun mW N_ hF=>axY rfl rfl .no (.cons (.t .h) (.cons .h (.cons .q7 (.cons .q6 (.cons .q5 (.cons .q4 (.cons .q3 (.cons .q2 (.cons (.t .h) (.cons .h .nil)))))))))) (.own .h (fun _ h=>h) .nil) (fun ha=>qQ (pre:=[]) (.cons aX (.cons aX (.cons aX (.cons aX (.cons aX (.cons aX (.cons aX (.cons aX (.cons aX (.cons aX .nil)))))))))) (fun _=>(.cons (.cons (.cons (.cons (.cons (.cons (.cons (.cons .nil))))))))) (cK cf9.h (.cons (EN ha (.tmp rfl rfl) rfl) (.cons (EN ha (.tmp rfl rfl) rfl) .nil)) (aj3.h N_))) (fun je=>?_)
 refine du ?_
 refine dw rfl .no (fun ha=>tC (l:=[(zg [je.1.v,je.2.2.1.v,je.2.2.2.2.1.v,je.2.2.2.2.2.2.1.v,(zi mW.1.Source.Version),je.2.2.2.2.2.2.2.2.1.v,(zi mW.1.Cache.Age),(zi mW.1.Now),je.2.2.2.2.2.2.2.2.2.2.1.v,je.2.2.2.2.2.2.2.2.2.2.2.2.1.v,(zi mW.1.bI),je.2.2.2.2.2.2.2.2.2.2.2.2.2.2.1.v]),(.bool mW.2)]) (v:=(zg [je.1.v,je.2.2.1.v,je.2.2.2.2.1.v,je.2.2.2.2.2.2.1.v,(zi mW.1.Source.Version),je.2.2.2.2.2.2.2.2.1.v,(zi mW.1.Cache.Age),(zi mW.1.Now),je.2.2.2.2.2.2.2.2.2.2.1.v,je.2.2.2.2.2.2.2.2.2.2.2.2.1.v,(zi mW.1.bI),je.2.2.2.2.2.2.2.2.2.2.2.2.2.2.1.v])) (EN ha (.tmp rfl rfl) rfl) rfl) ?_
 refine dw rfl .no (fun ha=>tC (l:=[(zg [je.1.v,je.2.2.1.v,je.2.2.2.2.1.v,je.2.2.2.2.2.2.1.v,(zi mW.1.Source.Version),je.2.2.2.2.2.2.2.2.1.v,(zi mW.1.Cache.Age),(zi mW.1.Now),je.2.2.2.2.2.2.2.2.2.2.1.v,je.2.2.2.2.2.2.2.2.2.2.2.2.1.v,(zi mW.1.bI),je.2.2.2.2.2.2.2.2.2.2.2.2.2.2.1.v]),(.bool mW.2)]) (v:=(.bool mW.2)) (EN ha (.tmp rfl rfl) rfl) rfl) ?_
 refine dx rfl rfl .no (.cons (.t (.t (.t (.t (.t (.t (.t (.t (.t (.t (.t (.t (.t (.t (.t (.t (.t (.t .h)))))))))))))))))) .nil) (.aV rfl .nil) (fun ha=>iO (e':=(zg [je.1.v,je.2.2.1.v,je.2.2.2.2.1.v,je.2.2.2.2.2.2.1.v,(zi mW.1.Source.Version),je.2.2.2.2.2.2.2.2.1.v,(zi mW.1.Cache.Age),(zi mW.1.Now),je.2.2.2.2.2.2.2.2.2.2.1.v,je.2.2.2.2.2.2.2.2.2.2.2.2.1.v,(zi mW.1.bI),je.2.2.2.2.2.2.2.2.2.2.2.2.2.2.1.v])) (v:=(zg [je.1.v,je.2.2.1.v,je.2.2.2.2.1.v,je.2.2.2.2.2.2.1.v,(zi mW.1.Source.Version),je.2.2.2.2.2.2.2.2.1.v,(zi mW.1.Cache.Age),(zi mW.1.Now),je.2.2.2.2.2.2.2.2.2.2.1.v,je.2.2.2.2.2.2.2.2.2.2.2.2.1.v,(zi mW.1.bI),je.2.2.2.2.2.2.2.2.2.2.2.2.2.2.1.v])) qE.h.sz (EN ha (.tmp rfl rfl) rfl) (EN ha (.tmp rfl rfl) rfl) rfl rfl rfl rfl rfl) (fun _=>?_)
 refine jF ?_
 refine au ?_
 obtain⟨o80,aE7,aH'⟩:=bind_some hF
 refine au ?_
 refine qo (fun f' cs'=>∃(wU:Bool)(g:Fr),wU=o80/\f'=dm g [(10,(pz Eu)),(13,(zi mE.1)),(110,(.bool wU))]/\bL cs' [aW Eu 50 (zg [p29.1.v,p29.2.2.1.v,p29.2.2.2.2.1.v,p29.2.2.2.2.2.2.1.v,(zi fD.1.Source.Version),p29.2.2.2.2.2.2.2.2.1.v,(zi fD.1.Cache.Age),(zi fD.1.Now),p29.2.2.2.2.2.2.2.2.2.2.1.v,p29.2.2.2.2.2.2.2.2.2.2.2.2.1.v,(zi fD.1.bI),p29.2.2.2.2.2.2.2.2.2.2.2.2.2.2.1.v]),dW p66.1 p29.1 mE.2.bA,qz p66.2.1 p29.2.2.1 mE.2.Methods,qY p66.2.2.1 p29.2.2.2.2.1 mE.2.bV,ik p66.2.2.2.1 p29.2.2.2.2.2.2.1 mE.2.Source.Facts,jK p66.2.2.2.2.1 p29.2.2.2.2.2.2.2.2.1 mE.2.Cache.Entries,oL p66.2.2.2.2.2.1 p29.2.2.2.2.2.2.2.2.2.2.1 mE.2.bD,dW p66.2.2.2.2.2.2.1 p29.2.2.2.2.2.2.2.2.2.2.2.2.1 mE.2.dh,ah (aa 79 (aa 22 (aa 3 (az ax)))) p66.2.2.2.2.2.2.2 p29.2.2.2.2.2.2.2.2.2.2.2.2.2.2.1.v mE.2.bX]) ?_ ?_
 · replace hF:=aE7
   refine eu ?_
   refine bnd hF fun r82 aru hF=>afk (.cons (.t (.t (.t (.t (.t (.t (.t (.t (.t (.t (.t (.t (.t (.t (.t (.t (.t (.t (.t (.t (.t (.t (.t (.t (.t (.t (.t (.t (.t (.t (.t (.t (.t (.t (.t (.t (.t (.t (.t (.t (.t (.t (.t (.t (.t (.t (.t .h))))))))))))))))))))))))))))))))))))))))))))))) (.cons (.t (.t (.t (.t (.t (.t (.t (.t (.t (.t (.t (.t (.t (.t (.t (.t (.t (.t (.t (.t (.t (.t (.t (.t (.t (.t (.t (.t (.t (.t (.t (.t (.t (.t (.t (.t (.t (.t (.t (.t (.t (.t (.t (.t (.t (.t .h)))))))))))))))))))))))))))))))))))))))))))))) (.cons (.t (.t (.t (.t (.t (.t (.t (.t (.t (.t (.t (.t (.t (.t (.t (.t (.t (.t (.t (.t (.t (.t (.t (.t (.t (.t (.t (.t (.t (.t (.t (.t (.t (.t (.t (.t (.t (.t (.t (.t (.t (.t (.t (.t (.t .h))))))))))))))))))))))))))))))))))))))))))))) (.cons (.t (.t (.t (.t (.t (.t (.t (.t (.t (.t (.t (.t (.t (.t (.t (.t (.t (.t (.t (.t (.t (.t (.t (.t (.t (.t (.t (.t (.t (.t (.t (.t (.t (.t (.t (.t (.t (.t (.t (.t (.t (.t (.t .h))))))))))))))))))))))))))))))))))))))))))) (.cons (.t (.t (.t (.t (.t (.t (.t (.t (.t (.t (.t (.t (.t (.t (.t (.t (.t (.t (.t (.t (.t (.t (.t (.t (.t (.t (.t (.t (.t (.t (.t (.t (.t (.t (.t (.t (.t (.t (.t (.t (.t (.t .h)))))))))))))))))))))))))))))))))))))))))) (.cons (.t (.t (.t (.t (.t (.t (.t (.t (.t (.t (.t (.t (.t (.t (.t (.t (.t (.t (.t (.t (.t (.t (.t (.t (.t (.t (.t (.t (.t (.t (.t (.t (.t (.t (.t (.t (.t (.t (.t (.t (.t .h))))))))))))))))))))))))))))))))))))))))) (.cons (.t (.t (.t (.t (.t (.t (.t (.t (.t (.t (.t (.t (.t (.t (.t (.t (.t (.t (.t (.t (.t (.t (.t (.t (.t (.t (.t (.t (.t (.t (.t (.t (.t (.t (.t (.t (.t (.t (.t (.t .h)))))))))))))))))))))))))))))))))))))))) (.cons (.t (.t (.t (.t (.t (.t (.t (.t (.t (.t (.t (.t (.t (.t (.t (.t (.t (.t .h)))))))))))))))))) (.cons (.t (.t (.t (.t (.t (.t (.t (.t (.t (.t (.t (.t (.t (.t (.t (.t (.t .h))))))))))))))))) (.cons (.t (.t (.t (.t (.t (.t (.t (.t (.t (.t (.t (.t (.t (.t (.t (.t .h)))))))))))))))) (.cons (.t (.t (.t (.t (.t (.t (.t (.t (.t (.t (.t (.t (.t (.t (.t .h))))))))))))))) (.cons .q14 (.cons .q13 (.cons .q12 (.cons .q11 (.rd (.t (.t (.t (.t (.t (.t (.t (.t (.t (.t (.t (.t (.t (.t (.t (.t (.t (.t (.t (.t (.t (.t (.t (.t (.t (.t (.t (.t (.t (.t (.t (.t .h)))))))))))))))))))))))))))))))) rfl .nil)))))))))))))))) (qQ (pre:=_) (.cons aX (.cons aX (.cons aX (.cons aX (.cons aX (.cons aX (.cons aX (.cons aX (.cons aX (.cons aX (.cons aX (.cons aX (.cons aX (.cons aX (.cons aX .nil))))))))))))))) (fun _=>.nil) (qR (.rd .h rfl (.rd (.t .h) rfl (.rd .q2 rfl (.rd .q3 rfl (.rd .q4 rfl (.rd .q5 rfl (.rd .q6 rfl (.rd .q7 rfl (.rd .q8 rfl (.rd .q9 rfl (.rd .q10 rfl (.rd .q11 rfl (.rd (.t (.t (.t (.t (.t (.t (.t (.t (.t (.t (.t (.t (.t (.t (.t .h))))))))))))))) rfl (.rd .q12 rfl (.rd .q13 rfl (.rd .q14 rfl .nil)))))))))))))))) (cK aby.h fG (X5.h aru)))) (fun _=>?_)
   refine eu ?_
   rcases kQ (!r82)with VY|VY
   · rw[VY]
     try rw[VY]at hF; dsimp only[eZ,eY]at hF
     exact jP hF
   rw[VY]
   try rw[VY]at hF; dsimp only[eZ,eY]at hF
   refine fI ?_
   refine aP (TF (a:=mW.2) (b:=r16.2) Tryz.underlying4 (.tmp rfl rfl) (.tmp rfl rfl)) ?_
   exact jP hF
 rintro _ _ ⟨wU,g93,rfl,rfl,hE⟩
 replace hF:=aH'
 try dsimp only at hF
 refine gV hE ?_
 refine Ci hF (fun aIa hF=>?_) (fun aIa hF=>?_)
 · exact ze hF
 refine iq ?_
 refine bnd hF fun r87 JX hF=>agH (.cons .q8 (.cons .q7 (.cons .q6 (.cons .q5 (.cons .q4 (.cons .q3 (.cons .q2 (.cons (.t .h) .nil)))))))) (qQ (pre:=[]) (.cons aX (.cons aX (.cons aX (.cons aX (.cons aX (.cons aX (.cons aX (.cons aX .nil)))))))) (fun _=>.nil) (cK aqd.h fG (ai3.h JX))) (fun _=>?_)
 refine iq ?_
 refine Ci hF (fun aIb hF=>?_) (fun aIb hF=>?_)
 · exact ze hF
 refine iq ?_
 refine Ci hF (fun aIc hF=>?_) (fun aIc hF=>?_)
 · exact ze hF
 exact ze hF
instance arZ:GL 3 t16 t19 u20 Ph:=⟨fun h=>arV h⟩
end Go.Proofs.YtlnefhbbbikmgabGreat
