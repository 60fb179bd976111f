/-
  Functions of the program as Lean functions, and that the calls return what these say. No conditions.
-/
import Derived.Test.YtlnefhbbbikmgabGreatAskQueryGS4
set_option maxRecDepth 100000
set_option maxHeartbeats 4000000
set_option linter.unusedVariables false
namespace Go.Proofs.YtlnefhbbbikmgabGreat
open Go Go.Fw
def EH(aF:bU)(r4:bU)(iA:Run×Cache):List ag->Nat->(List ag)->(List Int)->Option (bU×Bool)
 |[],Ep,lh,ll=>(QT iA.1.nN).bind fun r83=>
   (app r4.bX ([r83]:List (List (List Int)))).bind fun z87=>
   some ((⟨r4.bA,r4.Methods,r4.bV,r4.Source,iA.2,r4.Now,lh,ll,(IntKind.i64.wrap (aF.bI+iA.1.bK)),z87⟩:bU),true)
 |x76::CK,Ep,lh,ll=>(ET x76.Method x76.Values).bind fun Ky=>
   (app lh ([Ky]:List ag)).bind fun WM=>
   (app ll ([aF.Now]:List Int)).bind fun aqS=>
   EH aF r4 iA CK (Ep+1) WM aqS
def MC(fuel:Nat)(aF:bU)(aK:Query):Option (bU×Bool):=
 (MQ aF).bind fun r4=>
 ((Qr aF).bind fun fF=>
   bif (!fF)then (some true)
   else ((zP aF.bA aK).bind fun iG=>
     bif (!iG)then (some true)
     else (bif (decide ((500:Int)<(aF.bD.length:Int)))then (some true)
       else (bif (decide ((900000:Int)<aF.bI))then (some true)
         else (some (decide ((100:Int)<=(aF.bX.length:Int)))))))).bind fun o8=>
 match o8 with
 |c20=>if c20 then (
     some (r4,false))
   else (
     (Ll fuel aF.bA aF.Methods aK).bind fun eX=>
     if (!eX.2)then (
       some (r4,false))
     else (
       (Ih aF.bA aF.Methods eX.1.Query eX.1.Steps aF.Source.Facts aF.Cache aF.Now).bind fun iA=>
       if (decide ((1000:Int)<(IntKind.i64.wrap ((aF.bD.length:Int)+(iA.1.bD.length:Int)))))then (
         some (r4,false))
       else (
         EH aF r4 iA iA.1.bD 0 r4.bD r4.dh)))
theorem atd{fuel:Nat}{aF:bU}{aA bB eG f_ iL jq jr iX:Sv}{aK:Query}{bf bR:Sv}{R:bU×Bool}(hF:MC fuel aF aK=some R):
   Fw.Spec Tryz.prog 6 [(zg [aA.v,bB.v,eG.v,f_.v,(zi aF.Source.Version),iL.v,(zi aF.Cache.Age),(zi aF.Now),jq.v,jr.v,(zi aF.bI),iX.v]),(zg [bf.v,bR.v])] [bi aA aF.bA,dY bB aF.Methods,wu eG aF.bV,iK f_ aF.Source.Facts,ku iL aF.Cache.Entries,sN jq aF.bD,bi jr aF.dh,aI (ak 79 (ak 22 (ak 3 ax))) iX.v aF.bX,bi bf aK.a_,eF bR aK.aL] (fun p:Sv×List Nat×Sv×List Nat×Sv×List Nat×Sv×List Nat×Sv×Sv×List Nat×Sv×List Nat×Sv×List Nat=>(.tuple [(zg [p.1.v,p.2.2.1.v,p.2.2.2.2.1.v,p.2.2.2.2.2.2.1.v,(zi R.1.Source.Version),p.2.2.2.2.2.2.2.2.1.v,(zi R.1.Cache.Age),(zi R.1.Now),p.2.2.2.2.2.2.2.2.2.1.v,p.2.2.2.2.2.2.2.2.2.2.2.1.v,(zi R.1.bI),p.2.2.2.2.2.2.2.2.2.2.2.2.2.1.v]),(.bool R.2)].toArray)) (fun p=>[dW p.2.1 p.1 R.1.bA,qz p.2.2.2.1 p.2.2.1 R.1.Methods,qY p.2.2.2.2.2.1 p.2.2.2.2.1 R.1.bV,ik p.2.2.2.2.2.2.2.1 p.2.2.2.2.2.2.1 R.1.Source.Facts,ku p.2.2.2.2.2.2.2.2.1 R.1.Cache.Entries,oL p.2.2.2.2.2.2.2.2.2.2.1 p.2.2.2.2.2.2.2.2.2.1 R.1.bD,dW p.2.2.2.2.2.2.2.2.2.2.2.2.1 p.2.2.2.2.2.2.2.2.2.2.2.1 R.1.dh,ah (aa 79 (aa 22 (aa 3 (az ax)))) p.2.2.2.2.2.2.2.2.2.2.2.2.2.2 p.2.2.2.2.2.2.2.2.2.2.2.2.2.1.v R.1.bX]):=by
 refine Se 131 Tryz.func6 [.cell 4 50,.tmp 5] ?_
 intro H0 F0
 unfold MC at hF
 refine au ?_
 refine j6 (fun k1=>?_)
 refine j6 (fun k2=>?_)
 refine gI (fun k3=>?_)
 refine dO ?_
 refine bnd hF fun r4 hx5 hF=>V4 (auC.h hx5) (fun p6=>?_)
 refine gI (fun k7=>?_)
 refine As (zg [p6.1.v,p6.2.2.1.v,p6.2.2.2.2.1.v,p6.2.2.2.2.2.2.1.v,(zi r4.Source.Version),p6.2.2.2.2.2.2.2.2.1.v,(zi r4.Cache.Age),(zi r4.Now),p6.2.2.2.2.2.2.2.2.2.2.1.v,p6.2.2.2.2.2.2.2.2.2.2.2.2.1.v,(zi r4.bI),p6.2.2.2.2.2.2.2.2.2.2.2.2.2.2.1.v]) ?_
 refine eu ?_
 obtain⟨o8,ahF,hO9⟩:=bind_some hF
 refine au ?_
 refine qo (fun f' cs'=>∃(c20:Bool)(g:Fr),c20=o8/\f'=dm g [(2,(pz k1)),(3,(pz k2)),(4,(pz k3)),(6,(pz k7)),(40,(.bool c20))]/\bL cs' [bC k1 50 (zg [aA.v,bB.v,eG.v,f_.v,(zi aF.Source.Version),iL.v,(zi aF.Cache.Age),(zi aF.Now),jq.v,jr.v,(zi aF.bI),iX.v]),bi aA aF.bA,dY bB aF.Methods,wu eG aF.bV,iK f_ aF.Source.Facts,ku iL aF.Cache.Entries,sN jq aF.bD,bi jr aF.dh,aI (ak 79 (ak 22 (ak 3 ax))) iX.v aF.bX,bC k2 56 (zg [bf.v,bR.v]),bi bf aK.a_,eF bR aK.aL,aW k3 50 (.agg ([(.slice none 0 0),(.slice none 0 0),(.slice none 0 0),(.slice none 0 0),(zi 0),(.slice none 0 0),(zi 0),(zi 0),(.slice none 0 0),(.slice none 0 0),(zi 0),(.slice none 0 0)]:List Value).toArray),aW k7 50 (zg [p6.1.v,p6.2.2.1.v,p6.2.2.2.2.1.v,p6.2.2.2.2.2.2.1.v,(zi r4.Source.Version),p6.2.2.2.2.2.2.2.2.1.v,(zi r4.Cache.Age),(zi r4.Now),p6.2.2.2.2.2.2.2.2.2.2.1.v,p6.2.2.2.2.2.2.2.2.2.2.2.2.1.v,(zi r4.bI),p6.2.2.2.2.2.2.2.2.2.2.2.2.2.2.1.v]),dW p6.2.1 p6.1 r4.bA,qz p6.2.2.2.1 p6.2.2.1 r4.Methods,qY p6.2.2.2.2.2.1 p6.2.2.2.2.1 r4.bV,ik p6.2.2.2.2.2.2.2.1 p6.2.2.2.2.2.2.1 r4.Source.Facts,jK p6.2.2.2.2.2.2.2.2.2.1 p6.2.2.2.2.2.2.2.2.1 r4.Cache.Entries,oL p6.2.2.2.2.2.2.2.2.2.2.2.1 p6.2.2.2.2.2.2.2.2.2.2.1 r4.bD,dW p6.2.2.2.2.2.2.2.2.2.2.2.2.2.1 p6.2.2.2.2.2.2.2.2.2.2.2.2.1 r4.dh,ah (aa 79 (aa 22 (aa 3 (az ax)))) p6.2.2.2.2.2.2.2.2.2.2.2.2.2.2.2 p6.2.2.2.2.2.2.2.2.2.2.2.2.2.2.1.v r4.bX]) ?_ ?_
 · replace hF:=ahF
   refine au ?_
   refine bnd hF fun fF DR hF=>oO (asH.h DR) (fun _=>?_)
   refine eu ?_
   rcases kQ (!fF)with zk|zk
   · rw[zk]
     try rw[zk]at hF; dsimp only[eZ,eY]at hF
     exact jP hF
   rw[zk]
   try rw[zk]at hF; dsimp only[eZ,eY]at hF
   refine iq ?_
   refine bnd hF fun iG DL hF=>oO (ada.h DL) (fun _=>?_)
   refine dO ?_
   rcases kQ (!iG)with Vp|Vp
   · rw[Vp]
     try rw[Vp]at hF; dsimp only[eZ,eY]at hF
     exact jP hF
   rw[Vp]
   try rw[Vp]at hF; dsimp only[eZ,eY]at hF
   refine aaz ?_
   rcases kQ (decide ((500:Int)<(aF.bD.length:Int)))with Vq|Vq
   · rw[Vq]
     try rw[Vq]at hF; dsimp only[eZ,eY]at hF
     exact jP hF
   rw[Vq]
   try rw[Vq]at hF; dsimp only[eZ,eY]at hF
   refine kP ?_
   rcases kQ (decide ((900000:Int)<aF.bI))with zh|zh
   · rw[zh]
     try rw[zh]at hF; dsimp only[eZ,eY]at hF
     exact jP hF
   rw[zh]
   try rw[zh]at hF; dsimp only[eZ,eY]at hF
   exact jP hF
 rintro _ _ ⟨c20,aP3,rfl,rfl,hE⟩
 replace hF:=hO9
 try dsimp only at hF
 refine gV hE ?_
 refine Ci hF (fun aDX hF=>?_) (fun aDX hF=>?_)
 · refine eu ?_
   refine As (zg [p6.1.v,p6.2.2.1.v,p6.2.2.2.2.1.v,p6.2.2.2.2.2.2.1.v,(zi r4.Source.Version),p6.2.2.2.2.2.2.2.2.1.v,(zi r4.Cache.Age),(zi r4.Now),p6.2.2.2.2.2.2.2.2.2.2.1.v,p6.2.2.2.2.2.2.2.2.2.2.2.2.1.v,(zi r4.bI),p6.2.2.2.2.2.2.2.2.2.2.2.2.2.2.1.v]) ?_
   refine fw ?_
   cases hF
   exact iW (p6.1,p6.2.1,p6.2.2.1,p6.2.2.2.1,p6.2.2.2.2.1,p6.2.2.2.2.2.1,p6.2.2.2.2.2.2.1,p6.2.2.2.2.2.2.2.1,p6.2.2.2.2.2.2.2.2.1,p6.2.2.2.2.2.2.2.2.2.2.1,p6.2.2.2.2.2.2.2.2.2.2.2.1,p6.2.2.2.2.2.2.2.2.2.2.2.2.1,p6.2.2.2.2.2.2.2.2.2.2.2.2.2.1,p6.2.2.2.2.2.2.2.2.2.2.2.2.2.2.1,p6.2.2.2.2.2.2.2.2.2.2.2.2.2.2.2) (.lZ rfl rfl .h rfl Dy.h qE.h.sz rfl rfl (.tmp rfl rfl .nil)) rfl (.cO (.t (.t (.t (.t (.t (.t (.t (.t (.t (.t (.t (.t (.t (.t (.t (.t (.t (.t .h)))))))))))))))))) aX (.sel (.cons (.t (.t (.t (.t (.t (.t (.t (.t (.t (.t (.t (.t (.t (.t (.t .h))))))))))))))) (.cons (.t (.t (.t (.t (.t (.t (.t (.t (.t (.t (.t (.t (.t (.t (.t .h))))))))))))))) (.cons (.t (.t (.t (.t (.t (.t (.t (.t (.t (.t (.t (.t (.t (.t (.t .h))))))))))))))) (.cons (.t (.t (.t (.t (.t (.t (.t (.t (.t (.t (.t (.t (.t (.t (.t .h))))))))))))))) (.rd .h rfl (.cons (.t (.t (.t (.t (.t (.t (.t (.t (.t (.t (.t (.t (.t (.t (.t .h))))))))))))))) (.cons (.t (.t (.t (.t (.t (.t (.t (.t (.t (.t (.t (.t (.t (.t (.t .h))))))))))))))) (.cons (.t (.t (.t (.t (.t (.t (.t (.t (.t (.t (.t (.t (.t (.t (.t .h))))))))))))))) .nil))))))))))
 refine iq ?_
 refine bnd hF fun eX Vr hF=>Cx3 (asa.h Vr) (fun jU=>?_)
 refine au ?_
 refine zx ?_
 refine zx ?_
 refine gI (fun k24=>?_)
 refine As (zg [jU.1.v,jU.2.2.1.v,jU.2.2.2.2.v,(zi eX.1.bK)]) ?_
 refine iq ?_
 refine Ci hF (fun agf hF=>?_) (fun agf hF=>?_)
 · refine eu ?_
   refine As (zg [p6.1.v,p6.2.2.1.v,p6.2.2.2.2.1.v,p6.2.2.2.2.2.2.1.v,(zi r4.Source.Version),p6.2.2.2.2.2.2.2.2.1.v,(zi r4.Cache.Age),(zi r4.Now),p6.2.2.2.2.2.2.2.2.2.2.1.v,p6.2.2.2.2.2.2.2.2.2.2.2.2.1.v,(zi r4.bI),p6.2.2.2.2.2.2.2.2.2.2.2.2.2.2.1.v]) ?_
   refine fw ?_
   cases hF
   exact iW (p6.1,p6.2.1,p6.2.2.1,p6.2.2.2.1,p6.2.2.2.2.1,p6.2.2.2.2.2.1,p6.2.2.2.2.2.2.1,p6.2.2.2.2.2.2.2.1,p6.2.2.2.2.2.2.2.2.1,p6.2.2.2.2.2.2.2.2.2.2.1,p6.2.2.2.2.2.2.2.2.2.2.2.1,p6.2.2.2.2.2.2.2.2.2.2.2.2.1,p6.2.2.2.2.2.2.2.2.2.2.2.2.2.1,p6.2.2.2.2.2.2.2.2.2.2.2.2.2.2.1,p6.2.2.2.2.2.2.2.2.2.2.2.2.2.2.2) (.lZ rfl rfl .h rfl Dy.h qE.h.sz rfl rfl (.tmp rfl rfl .nil)) rfl (.cO (.t (.t (.t (.t (.t (.t (.t (.t (.t (.t (.t (.t (.t (.t (.t (.t (.t (.t (.t (.t (.t (.t .h)))))))))))))))))))))) aX (.sel (.cons (.t (.t (.t (.t (.t (.t (.t (.t (.t (.t (.t (.t (.t (.t (.t (.t (.t (.t (.t .h))))))))))))))))))) (.cons (.t (.t (.t (.t (.t (.t (.t (.t (.t (.t (.t (.t (.t (.t (.t (.t (.t (.t (.t .h))))))))))))))))))) (.cons (.t (.t (.t (.t (.t (.t (.t (.t (.t (.t (.t (.t (.t (.t (.t (.t (.t (.t (.t .h))))))))))))))))))) (.cons (.t (.t (.t (.t (.t (.t (.t (.t (.t (.t (.t (.t (.t (.t (.t (.t (.t (.t (.t .h))))))))))))))))))) (.rd .h rfl (.cons (.t (.t (.t (.t (.t (.t (.t (.t (.t (.t (.t (.t (.t (.t (.t (.t (.t (.t (.t .h))))))))))))))))))) (.cons (.t (.t (.t (.t (.t (.t (.t (.t (.t (.t (.t (.t (.t (.t (.t (.t (.t (.t (.t .h))))))))))))))))))) (.cons (.t (.t (.t (.t (.t (.t (.t (.t (.t (.t (.t (.t (.t (.t (.t (.t (.t (.t (.t .h))))))))))))))))))) .nil))))))))))
 refine au ?_
 refine uq (.t .h) aX ?_
 refine uq .q2 aX ?_
 refine lN ?_
 refine gM .q2 (fun hp=>pO (s:=2) (l:=[jU.1.v,jU.2.2.1.v]) abr.h F_.h.sz (.tmp rfl rfl) hp.2 rfl (by decide) (aQS rfl) rfl) ?_
 refine lN ?_
 refine gM .q4 (fun hp=>pO (s:=2) (l:=[iL.v,(zi aF.Cache.Age)]) wD.h p_.h.sz (.tmp rfl rfl) hp.2 rfl (by decide) (aQS rfl) rfl) ?_
 refine eu ?_
 refine bnd hF fun iA aHo hF=>Cx4 (atc.h aHo) (fun p27=>?_)
 refine au ?_
 refine zx ?_
 refine zx ?_
 refine gI (fun k28=>?_)
 refine gI (fun k29=>?_)
 refine As (zg [p27.1.v,p27.2.2.1.v,p27.2.2.2.1.v,(zi iA.1.bK)]) ?_
 refine As (zg [p27.2.2.2.2.2.v,(zi iA.2.Age)]) ?_
 refine TM ?_
 refine Ci hF (fun agh hF=>?_) (fun agh hF=>?_)
 · refine eu ?_
   refine As (zg [p6.1.v,p6.2.2.1.v,p6.2.2.2.2.1.v,p6.2.2.2.2.2.2.1.v,(zi r4.Source.Version),p6.2.2.2.2.2.2.2.2.1.v,(zi r4.Cache.Age),(zi r4.Now),p6.2.2.2.2.2.2.2.2.2.2.1.v,p6.2.2.2.2.2.2.2.2.2.2.2.2.1.v,(zi r4.bI),p6.2.2.2.2.2.2.2.2.2.2.2.2.2.2.1.v]) ?_
   refine fw ?_
   cases hF
   exact iW (p6.1,p6.2.1,p6.2.2.1,p6.2.2.2.1,p6.2.2.2.2.1,p6.2.2.2.2.2.1,p6.2.2.2.2.2.2.1,p6.2.2.2.2.2.2.2.1,p6.2.2.2.2.2.2.2.2.1,p6.2.2.2.2.2.2.2.2.2.2.1,p6.2.2.2.2.2.2.2.2.2.2.2.1,p6.2.2.2.2.2.2.2.2.2.2.2.2.1,p6.2.2.2.2.2.2.2.2.2.2.2.2.2.1,p6.2.2.2.2.2.2.2.2.2.2.2.2.2.2.1,p6.2.2.2.2.2.2.2.2.2.2.2.2.2.2.2) (.lZ rfl rfl .h rfl Dy.h qE.h.sz rfl rfl (.tmp rfl rfl .nil)) rfl (.cO (.t (.t (.t (.t (.t (.t (.t (.t (.t (.t (.t (.t (.t (.t (.t (.t (.t (.t (.t (.t (.t (.t (.t (.t (.t (.t (.t (.t .h)))))))))))))))))))))))))))) aX (.sel (.cons (.t (.t (.t (.t (.t (.t (.t (.t (.t (.t (.t (.t (.t (.t (.t (.t (.t (.t (.t (.t (.t (.t (.t (.t (.t .h))))))))))))))))))))))))) (.cons (.t (.t (.t (.t (.t (.t (.t (.t (.t (.t (.t (.t (.t (.t (.t (.t (.t (.t (.t (.t (.t (.t (.t (.t (.t .h))))))))))))))))))))))))) (.cons (.t (.t (.t (.t (.t (.t (.t (.t (.t (.t (.t (.t (.t (.t (.t (.t (.t (.t (.t (.t (.t (.t (.t (.t (.t .h))))))))))))))))))))))))) (.cons (.t (.t (.t (.t (.t (.t (.t (.t (.t (.t (.t (.t (.t (.t (.t (.t (.t (.t (.t (.t (.t (.t (.t (.t (.t .h))))))))))))))))))))))))) (.rd .h rfl (.cons (.t (.t (.t (.t (.t (.t (.t (.t (.t (.t (.t (.t (.t (.t (.t (.t (.t (.t (.t (.t (.t (.t (.t (.t (.t .h))))))))))))))))))))))))) (.cons (.t (.t (.t (.t (.t (.t (.t (.t (.t (.t (.t (.t (.t (.t (.t (.t (.t (.t (.t (.t (.t (.t (.t (.t (.t .h))))))))))))))))))))))))) (.cons (.t (.t (.t (.t (.t (.t (.t (.t (.t (.t (.t (.t (.t (.t (.t (.t (.t (.t (.t (.t (.t (.t (.t (.t (.t .h))))))))))))))))))))))))) .nil))))))))))
 refine fI ?_
 refine gU (kI (m:=iA.1.bD.length) (fun m72 f' cs'=>∃(g:Fr)(Ep:Nat)(CK lh:List ag)(ll:List Int)(v66:Sv)(Bb:List Nat)(v69:Sv)(KF:List Nat),m72=CK.length/\f'=dm g [(2,(pz k1)),(4,(pz k3)),(6,(pz k7)),(9,(pz k28)),(10,(pz k29)),(11,(zi (Ep:Int)))]/\List.drop Ep iA.1.bD=CK/\bL cs' [bC k1 50 (zg [aA.v,bB.v,eG.v,f_.v,(zi aF.Source.Version),iL.v,(zi aF.Cache.Age),(zi aF.Now),jq.v,jr.v,(zi aF.bI),iX.v]),bi aA aF.bA,dY bB aF.Methods,wu eG aF.bV,iK f_ aF.Source.Facts,ku iL aF.Cache.Entries,sN jq aF.bD,bi jr aF.dh,aI (ak 79 (ak 22 (ak 3 ax))) iX.v aF.bX,aW k3 50 (.agg ([(.slice none 0 0),(.slice none 0 0),(.slice none 0 0),(.slice none 0 0),(zi 0),(.slice none 0 0),(zi 0),(zi 0),(.slice none 0 0),(.slice none 0 0),(zi 0),(.slice none 0 0)]:List Value).toArray),aW k7 50 (zg [p6.1.v,p6.2.2.1.v,p6.2.2.2.2.1.v,p6.2.2.2.2.2.2.1.v,(zi r4.Source.Version),p6.2.2.2.2.2.2.2.2.1.v,(zi r4.Cache.Age),(zi r4.Now),v66.v,v69.v,(zi r4.bI),p6.2.2.2.2.2.2.2.2.2.2.2.2.2.2.1.v]),dW p6.2.1 p6.1 r4.bA,qz p6.2.2.2.1 p6.2.2.1 r4.Methods,qY p6.2.2.2.2.2.1 p6.2.2.2.2.1 r4.bV,ik p6.2.2.2.2.2.2.2.1 p6.2.2.2.2.2.2.1 r4.Source.Facts,jK p6.2.2.2.2.2.2.2.2.2.1 p6.2.2.2.2.2.2.2.2.1 r4.Cache.Entries,oL Bb v66 lh,dW KF v69 ll,ah (aa 79 (aa 22 (aa 3 (az ax)))) p6.2.2.2.2.2.2.2.2.2.2.2.2.2.2.2 p6.2.2.2.2.2.2.2.2.2.2.2.2.2.2.1.v r4.bX,aW k28 81 (zg [p27.1.v,p27.2.2.1.v,p27.2.2.2.1.v,(zi iA.1.bK)]),ah (aa 22 (aa 3 (az ax))) p27.2.1 p27.1.v iA.1.nN,sN p27.2.2.1 iA.1.bD,ik p27.2.2.2.2.1 p27.2.2.2.1 iA.1.rP,aW k29 47 (zg [p27.2.2.2.2.2.v,(zi iA.2.Age)]),ku p27.2.2.2.2.2 iA.2.Entries]/\EH aF r4 iA CK Ep lh ll=some R) ⟨_,0,_,_,_,p6.2.2.2.2.2.2.2.2.2.2.1,p6.2.2.2.2.2.2.2.2.2.2.2.1,p6.2.2.2.2.2.2.2.2.2.2.2.2.1,p6.2.2.2.2.2.2.2.2.2.2.2.2.2.1,rfl,df,rfl,bT,hF⟩ ?_)
 rintro m72 _ _ ⟨g73,Ep,CK,lh,ll,v66,Bb,v69,KF,rfl,rfl,aqT,hE,hF⟩
 refine Kb hE iA.1.bD (fun aN1=>?_)
 rcases CK with _|⟨x76,CK⟩
 · have aHp:=dn aqT
   rw[EH]at hF
   refine kP ?_
   refine mQ ?_
   refine iq ?_
   refine As (zg [p6.1.v,p6.2.2.1.v,p6.2.2.2.2.1.v,p6.2.2.2.2.2.2.1.v,(zi r4.Source.Version),p27.2.2.2.2.2.v,(zi iA.2.Age),(zi r4.Now),v66.v,v69.v,(zi r4.bI),p6.2.2.2.2.2.2.2.2.2.2.2.2.2.2.1.v]) ?_
   refine kP ?_
   refine As (zg [p6.1.v,p6.2.2.1.v,p6.2.2.2.2.1.v,p6.2.2.2.2.2.2.1.v,(zi r4.Source.Version),p27.2.2.2.2.2.v,(zi iA.2.Age),(zi r4.Now),v66.v,v69.v,(zi (IntKind.i64.wrap (aF.bI+iA.1.bK))),p6.2.2.2.2.2.2.2.2.2.2.2.2.2.2.1.v]) ?_
   refine au ?_
   refine iQ [0,1,2,3,4,5,6,7,8] [0,1,0,4,12,28,63,127,255] [4,6,8] mixed (by decide+kernel) ?_
   refine du ?_
   refine dF rfl .no .h (fun ha hp=>gy (v:=p6.2.2.2.2.2.2.2.2.2.2.2.2.2.2.1.v) ap4.h (EN ha (.tmp rfl rfl) rfl) hp.2 rfl rfl) ?_
   refine du ?_
   refine dF rfl .no (.t (.t (.t (.t (.t (.t (.t (.t (.t (.t (.t (.t (.t (.t (.t (.t (.t (.t (.t .h))))))))))))))))))) (fun ha hp=>gy (v:=p27.1.v) abp.h (EN ha (.tmp rfl rfl) rfl) hp.2 rfl rfl) ?_
   refine bnd hF fun r83 Gf hF=>pQ rfl rfl .no (.cons (.t (.t (.t (.t (.t (.t (.t (.t (.t (.t (.t (.t (.t (.t (.t (.t (.t (.t (.t (.t .h)))))))))))))))))))) .nil) (.aV rfl (.own .h (fun _ h=>h) .nil)) (fun ha=>mH aX (fun _=>(.cons .nil)) (cK aGa.h (.cons (EN ha (.tmp rfl rfl) rfl) .nil) (ajH.h Gf))) (fun p85=>?_)
   refine jw rfl .no rfl (fun ha=>gq (g:=true) (len:=1) (parts:=[(0,.tmp 126)]) Aw.h xG.h (.cons (EN ha (.tmp rfl rfl) rfl) .nil) (vs:=[p85.1.v]) rfl rfl rfl (by intro v hv; simp at hv; rcases hv with rfl<;>rfl)) (fun k86=>?_)
   refine lQ (.cons .h (.cons (.t .h) .nil)) (gu (Ro:=(aa 22 (aa 3 (az ax)))) (E:=79) (F:=(p85.2++[])) (xs:=([r83]:List (List (List Int)))) (iV yA fU dS) rfl rfl) ?_
   refine bnd hF fun z87 JX hF=>dx rfl rfl .no (.cons (.t (.t (.t (.t (.t (.t (.t (.t (.t (.t (.t (.t (.t (.t (.t (.t (.t (.t (.t (.t .h)))))))))))))))))))) (.cons .h .nil)) (.aV rfl (.aV rfl (.aV rfl .nil))) (fun ha=>iU (Ro:=(aa 22 (aa 3 (az ax)))) Aw.h UW xG.h rfl rfl rfl (EN ha (.tmp rfl rfl) rfl) (EN ha (.tmp rfl rfl) rfl) JX kJ) (fun p89=>?_)
   refine du ?_
   refine dx rfl rfl .no (.cons .q2 .nil) (.aV rfl (.aV rfl (.aV rfl .nil))) (fun ha=>iO (e':=(zg [p6.1.v,p6.2.2.1.v,p6.2.2.2.2.1.v,p6.2.2.2.2.2.2.1.v,(zi r4.Source.Version),p27.2.2.2.2.2.v,(zi iA.2.Age),(zi r4.Now),v66.v,v69.v,(zi (IntKind.i64.wrap (aF.bI+iA.1.bK))),p89.1.v])) ap9.h.sz (EN ha (.tmp rfl rfl) rfl) (EN ha (.tmp rfl rfl) rfl) rfl rfl rfl rfl rfl) (fun _=>?_)
   refine du ?_
   refine eu ?_
   refine As (zg [p6.1.v,p6.2.2.1.v,p6.2.2.2.2.1.v,p6.2.2.2.2.2.2.1.v,(zi r4.Source.Version),p27.2.2.2.2.2.v,(zi iA.2.Age),(zi r4.Now),v66.v,v69.v,(zi (IntKind.i64.wrap (aF.bI+iA.1.bK))),p89.1.v]) ?_
   refine fw ?_
   cases hF
   exact iW (p6.1,p6.2.1,p6.2.2.1,p6.2.2.2.1,p6.2.2.2.2.1,p6.2.2.2.2.2.1,p6.2.2.2.2.2.2.1,p6.2.2.2.2.2.2.2.1,p27.2.2.2.2.2,v66,Bb,v69,KF,p89.1,p89.2) (.lZ rfl rfl .h rfl Dy.h qE.h.sz rfl rfl (.tmp rfl rfl .nil)) rfl (.sel (.cons .q13 (.cons .q13 (.cons .q13 (.cons .q13 (.rd (.t (.t (.t (.t (.t (.t (.t (.t (.t (.t (.t (.t (.t (.t (.t (.t (.t (.t (.t (.t .h)))))))))))))))))))) rfl (.cons .q14 (.cons .q14 (.cons .q2 .nil)))))))))
 obtain⟨aHp,aqU,aHq⟩:=kH aqT
 rw[EH]at hF
 refine kP ?_
 refine mP ?_
 refine eu ?_
 refine iQ [0,1,2,3,4,5,6,7,8,9,10,11,12,13,14,15,16,17,18] [0,1,0,4,0,28,60,124,0,256,0,1792,3840,7936,16380,32764,65535,131071,262143] [14,16,18] mixed (by decide+kernel) ?_
 refine du ?_
 refine dF rfl .no .q10 (fun ha hp=>gy (v:=v66.v) JQ.h (EN ha (.tmp rfl rfl) rfl) hp.2 rfl rfl) ?_
 refine du ?_
 refine dF rfl .no (.t (.t (.t (.t (.t (.t (.t (.t (.t (.t (.t (.t (.t (.t (.t (.t (.t (.t (.t .h))))))))))))))))))) (fun ha hp=>gy (v:=p27.2.2.1.v) JQ.h (EN ha (.tmp rfl rfl) rfl) hp.2 rfl rfl) ?_
 refine du ?_
 refine Di aqU (fun k90 j91=>?_)
 refine du ?_
 refine Dl anx ?_
 refine du ?_
 refine dF rfl .no (.t (.t (.t (.t (.t (.t (.t (.t (.t (.t (.t (.t (.t (.t (.t (.t (.t (.t (.t (.t .h)))))))))))))))))))) (fun ha hp=>gy (v:=p27.2.2.1.v) JQ.h (EN ha (.tmp rfl rfl) rfl) hp.2 rfl rfl) ?_
 refine du ?_
 refine Di aqU (fun k92 j93=>?_)
 refine du ?_
 refine afh (R':=(ak 3 ax)) ry.h rfl .no (.tmp rfl rfl) rfl .h anz (fun w94=>?_)
 refine bnd hF fun Ky hx96 hF=>dx rfl rfl .no (.rd .h rfl .nil) (.aV rfl (.aV rfl (.own .q13 (fun _ h=>h) .nil))) (fun ha=>cK aqe.h (.cons (EN ha (.tmp rfl rfl) rfl) (.cons (EN ha (.tmp rfl rfl) rfl) .nil)) (aj1.h hx96)) (fun p97=>?_)
 refine jw rfl .no rfl (fun ha=>gq (g:=true) (len:=1) (parts:=[(0,.tmp 103)]) uD.h nD.h (.cons (EN ha (.tmp rfl rfl) rfl) .nil) (vs:=[(zg [(zi Ky.Method),p97.1.v])]) rfl rfl rfl (by intro v hv; simp at hv; rcases hv with rfl<;>rfl)) (fun k98=>?_)
 refine lQ (.cons .h (.cons .h .nil)) (gu (Ro:=ji) (E:=85) (F:=(p97.2++[])) (xs:=([Ky]:List ag)) (iV UV fU dS) rfl rfl) ?_
 refine bnd hF fun WM TP hF=>dx rfl rfl .no (.cons (.t (.t (.t (.t (.t (.t (.t (.t (.t (.t (.t (.t (.t (.t (.t (.t (.t (.t (.t (.t .h)))))))))))))))))))) (.cons .h .nil)) (.aV rfl (.aV rfl (.aV rfl (.aV rfl .nil)))) (fun ha=>iU (Ro:=ji) uD.h N7 nD.h rfl rfl rfl (EN ha (.tmp rfl rfl) rfl) (EN ha (.tmp rfl rfl) rfl) TP kJ) (fun DT=>?_)
 refine du ?_
 refine dx rfl rfl .no (.cons .q14 .nil) (.aV rfl (.aV rfl (.aV rfl (.aV rfl .nil)))) (fun ha=>iO (e':=(zg [p6.1.v,p6.2.2.1.v,p6.2.2.2.2.1.v,p6.2.2.2.2.2.2.1.v,(zi r4.Source.Version),p6.2.2.2.2.2.2.2.2.1.v,(zi r4.Cache.Age),(zi r4.Now),DT.1.v,v69.v,(zi r4.bI),p6.2.2.2.2.2.2.2.2.2.2.2.2.2.2.1.v])) agU.h.sz (EN ha (.tmp rfl rfl) rfl) (EN ha (.tmp rfl rfl) rfl) rfl rfl rfl rfl rfl) (fun _=>?_)
 refine du ?_
 refine fI ?_
 refine lJ rfl (gq (g:=true) jO.h gP.h fG (vs:=[(zi aF.Now)]) rfl rfl rfl (by intro v hv; simp at hv; rcases hv with rfl<;>rfl)) (fun aGC=>?_)
 refine mo (.cons .h .nil) (gu (Ro:=(az ax)) (E:=3) (F:=([]++[])) (xs:=([aF.Now]:List Int)) (iV (vg (fun _=>rfl)) fU dS) rfl rfl) ?_
 refine bnd hF fun aqS hx104 hF=>iZ (.cons (.t (.t (.t (.t (.t (.t (.t (.t (.t (.t (.t (.t (.t (.t (.t (.t (.t (.t (.t (.t (.t .h))))))))))))))))))))) (.cons .h .nil)) (iU (Ro:=(az ax)) jO.h yT gP.h rfl rfl rfl (.tmp rfl rfl) (.tmp rfl rfl) hx104 kJ) (fun ahG=>?_)
 refine au ?_
 refine As (zg [p6.1.v,p6.2.2.1.v,p6.2.2.2.2.1.v,p6.2.2.2.2.2.2.1.v,(zi r4.Source.Version),p6.2.2.2.2.2.2.2.2.1.v,(zi r4.Cache.Age),(zi r4.Now),DT.1.v,ahG.1.v,(zi r4.bI),p6.2.2.2.2.2.2.2.2.2.2.2.2.2.2.1.v]) ?_
 refine lN ?_
 rw[wk Ep]
 exact⟨_,lT _,_,Ep+1,CK,_,_,DT.1,DT.2,ahG.1,ahG.2,rfl,df,aHq,bT,hF⟩
instance atQ:GL 6 t25 t29 u32 MC:=⟨fun h=>atd h⟩
end Go.Proofs.YtlnefhbbbikmgabGreat
