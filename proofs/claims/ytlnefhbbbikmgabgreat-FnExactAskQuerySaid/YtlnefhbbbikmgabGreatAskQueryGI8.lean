/-
  Functions of the program as Lean functions, and that the calls return what these say. No conditions.
-/
import Derived.Test.YtlnefhbbbikmgabGreatAskQueryGI7
set_option maxRecDepth 100000
set_option maxHeartbeats 4000000
set_option linter.unusedVariables false
namespace Go.Proofs.YtlnefhbbbikmgabGreat
open Go Go.Fw
def Zj(aG:List Method)(aK:Query)(bY:List Step)(dM:List aj)(bG:Cache)(dA:Int):Option (Run×Cache):=
 (O7 aG aK bY aG bG dA dM ([]:List ag)).bind fun r9=>
 (MZ aG r9.2.2).bind fun gQ=>
 some ((⟨r9.1.nN,r9.2.2,r9.1.rP,gQ⟩:Run),r9.2.1)
theorem ajO{aG:List Method}{aA:Sv}{aK:Query}{bf bR:Sv}{bY:List Step}{bJ:Sv}{dM:List aj}{gN:Sv}{kq4:Nat}{bG:Cache}{jQ:Sv}{aHY:List Nat}{dA:Int}{R:Run×Cache}(hF:Zj aG aK bY dM bG dA=some R):
   Fw.Spec Tryz.prog 136 [aA.v,(zg [bf.v,bR.v]),bJ.v,gN.v,(pz kq4),(zi dA)] [dY aA aG,bi bf aK.a_,eF bR aK.aL,h_ bJ bY,iK gN dM,aW kq4 47 (zg [jQ.v,(zi bG.Age)]),jK aHY jQ bG.Entries] (fun p:Sv×List Nat×Sv×List Nat×Sv×List Nat×Sv×List Nat=>(zg [p.1.v,p.2.2.1.v,p.2.2.2.2.1.v,(zi R.1.bK)])) (fun p=>[ah (aa 22 (aa 3 (az ax))) p.2.1 p.1.v R.1.nN,oL p.2.2.2.1 p.2.2.1 R.1.bD,ik p.2.2.2.2.2.1 p.2.2.2.2.1 R.1.rP,aW kq4 47 (zg [p.2.2.2.2.2.2.1.v,(zi R.2.Age)]),jK p.2.2.2.2.2.2.2 p.2.2.2.2.2.2.1 R.2.Entries]):=by
 refine Se 28 Tryz.func136 [.cell 12 81] ?_
 intro H0 F0
 unfold Zj at hF
 refine au ?_
 refine j6 (fun k1=>?_)
 refine j6 (fun k2=>?_)
 refine j6 (fun k3=>?_)
 refine j6 (fun k4=>?_)
 refine j6 (fun k5=>?_)
 refine gI (fun k6=>?_)
 refine eu ?_
 refine lJ rfl (gq (g:=true) uD.h nD.h .nil (vs:=[]) rfl rfl rfl (by simp)) (fun k7=>?_)
 refine mo (.cons .h .nil) (gu (Ro:=ji) (E:=85) (F:=[]) (xs:=([]:List ag)) fU rfl rfl) ?_
 refine gI (fun k8=>?_)
 refine As (.slice (some ⟨k7,0,none⟩) 0 1) ?_
 refine fI ?_
 refine aP (Rc (fn:=.func 208) (vs:=[]) (us:=[(pz k1),(pz k4),(pz k5),(pz k3),(pz k8)]) .nil fG) ?_
 refine bnd hF fun r9 DJ hF=>Cx6 (@acm _ _ _ _ _ _ _ _ _ _ _ _ _ _ _ _ _ _ _ _ _ _ (⟨(some ⟨k7,0,none⟩),0,1⟩) _ _ DJ) (fun gm=>?_)
 refine gI (fun k12=>?_)
 refine As (zg [gm.1.v,gm.2.2.1.v,gm.2.2.2.1.v,(zi r9.1.bK)]) ?_
 refine au ?_
 refine iQ [0,1,2,4,3,5,6,7] [0,0,0,6,1,31,63,127] [3,5,7] mixed (by decide+kernel) ?_
 refine dF rfl .no .q5 (fun ha hp=>gy (v:=gm.2.2.2.2.2.2.2.1.v) JQ.h (EN ha (.tmp rfl rfl) rfl) hp.2 rfl rfl) ?_
 refine du ?_
 refine dF rfl .no .q5 (fun ha hp=>gy (v:=gm.2.2.2.2.2.2.2.1.v) JQ.h (EN ha (.tmp rfl rfl) rfl) hp.2 rfl rfl) ?_
 refine du ?_
 refine bnd hF fun gQ J3 hF=>dx rfl rfl .no (.cons .q6 (.rd .q12 rfl .nil)) (.aV rfl (.own .q5 (fun _ h=>h) .nil)) (fun ha=>mH aX (fun _=>.nil) (qR (.rd (.t .h) rfl (.rd .h rfl .nil)) (cK aoE.h (.cons (EN ha (.tmp rfl rfl) rfl) (.cons (EN ha (.tmp rfl rfl) rfl) .nil)) (@aj2 aG aA r9.2.2 gm.2.2.2.2.2.2.2.1 _ J3)))) (fun _=>?_)
 refine dx rfl rfl .no (.cons (.t .h) .nil) (.aV rfl (.aV rfl .nil)) (fun ha=>iO (e':=(zg [gm.1.v,gm.2.2.2.2.2.2.2.1.v,gm.2.2.2.1.v,(zi r9.1.bK)])) agU.h.sz (EN ha (.tmp rfl rfl) rfl) (EN ha (.tmp rfl rfl) rfl) rfl rfl rfl rfl rfl) (fun _=>?_)
 refine du ?_
 refine dx rfl rfl .no (.cons .h .nil) (.aV rfl (.aV rfl .nil)) (fun ha=>iO (e':=(zg [gm.1.v,gm.2.2.2.2.2.2.2.1.v,gm.2.2.2.1.v,(zi gQ)])) (v:=(zi gQ)) gP.h.sz (EN ha (.tmp rfl rfl) rfl) (EN ha (.tmp rfl rfl) rfl) rfl rfl rfl rfl rfl) (fun _=>?_)
 refine du ?_
 refine eu ?_
 refine As (zg [gm.1.v,gm.2.2.2.2.2.2.2.1.v,gm.2.2.2.1.v,(zi gQ)]) ?_
 refine eu ?_
 cases hF
 exact Er (gm.1,gm.2.1,gm.2.2.2.2.2.2.2.1,gm.2.2.2.2.2.2.2.2,gm.2.2.2.1,gm.2.2.2.2.1,gm.2.2.2.2.2.1,gm.2.2.2.2.2.2.1)
instance:dz Tryz.prog 136 (type_of% @ajO):=⟨@ajO⟩
def Mm(aC:List Int)(aG:List Method)(aK:Query)(bY:List Step)(dM:List aj)(bG:Cache)(dA:Int):Option (Run×Cache):=
 (Me bG).bind fun r5=>
 ((Sa aC aG aK bY).bind fun nT=>
   bif (!nT)then (some true)
   else ((Sc aG bY).bind fun fu=>
     bif (!fu)then (some true)
     else ((ME aC dM).bind fun eU=>
       bif (!eU)then (some true)
       else ((R8 aC aG bG).bind fun jy=>
         bif (!jy)then (some true)
         else ((IU dA).bind fun fD=>
           some (!fD)))))).bind fun o9=>
 match o9 with
 |Wz=>if Wz then (
     some (({nN:=[],bD:=[],rP:=[],bK:=0}:Run),r5))
   else (
     (Zj aG aK bY dM r5 dA).bind fun OA=>
     some (OA.1,OA.2))
instance ato:I7 41 t0 t26 t29 t32 t20 t23 t1 u35 Mm:=⟨by
 intro _ _ _ _ _ _ _ _ _ _ _ _ _ _ _ hF
 refine' en Tryz.func41 (Mm.eq_1 ..)
 refine' rc (q1 49 tB) [1,3,4,6,9,14,15,16]
 refine' dw rfl .no (fun ha=>iy Ay.h rfl (vs:=[]) .nil (cells:=[(.slice none 0 0),(.slice none 0 0),(.slice none 0 0),(.int .i64 0)]) rfl) ?_
 refine' go⟩
def EI(aF:bU)(r4:bU)(eX:Run×Cache):List ag->Nat->(List ag)->(List Int)->Option (bU×Bool)
 |[],x_,ll,sZ=>(app r4.bX ([eX.1.nN]:List (List (List Int)))).bind fun z88=>
   some ((⟨r4.bA,r4.Methods,r4.bV,r4.Source,eX.2,r4.Now,ll,sZ,(IntKind.i64.wrap (r4.bI+eX.1.bK)),z88⟩:bU),true)
 |x80::yD,x_,ll,sZ=>(app ll ([x80]:List ag)).bind fun WM=>
   (app sZ ([aF.Now]:List Int)).bind fun arq=>
   EI aF r4 eX yD (x_+1) WM arq
def Iy(fuel:Nat)(aF:bU)(aK:Query):Option (bU×Bool):=
 (Lm aF).bind fun r4=>
 ((QB aF).bind fun fF=>
   bif (!fF)then (some true)
   else (bif (decide ((500:Int)<(aF.bD.length:Int)))then (some true)
     else (bif (decide ((900000:Int)<aF.bI))then (some true)
       else (some (decide ((100:Int)<=(aF.bX.length:Int))))))).bind fun o8=>
 match o8 with
 |c16=>if c16 then (
     some (r4,false))
   else (
     (Lp fuel aF.bA aF.Methods aK).bind fun fC=>
     if (!fC.2)then (
       some (r4,false))
     else (
       (Mm aF.bA aF.Methods fC.1.Query fC.1.Steps aF.Source.Facts aF.Cache aF.Now).bind fun eX=>
       if (decide ((1000:Int)<(IntKind.i64.wrap ((aF.bD.length:Int)+(eX.1.bD.length:Int)))))then (
         some (r4,false))
       else (
         EI aF r4 eX eX.1.bD 0 r4.bD r4.dh)))
theorem atp{fuel:Nat}{aF:bU}{aA bB eG f_ iL jq jr iX:Sv}{aK:Query}{bf bR:Sv}{R:bU×Bool}(hF:Iy fuel aF aK=some R):
   Fw.Spec Tryz.prog 9 [(zg [aA.v,bB.v,eG.v,f_.v,(zi aF.Source.Version),iL.v,(zi aF.Cache.Age),(zi aF.Now),jq.v,jr.v,(zi aF.bI),iX.v]),(zg [bf.v,bR.v])] [bi aA aF.bA,dY bB aF.Methods,wu eG aF.bV,iK f_ aF.Source.Facts,ku iL aF.Cache.Entries,sN jq aF.bD,bi jr aF.dh,aI (ak 79 (ak 22 (ak 3 ax))) iX.v aF.bX,bi bf aK.a_,eF bR aK.aL] (fun p:Sv×List Nat×Sv×List Nat×Sv×List Nat×Sv×List Nat×Sv×List Nat×Sv×List Nat×Sv×List Nat×Sv×List Nat=>(.tuple [(zg [p.1.v,p.2.2.1.v,p.2.2.2.2.1.v,p.2.2.2.2.2.2.1.v,(zi R.1.Source.Version),p.2.2.2.2.2.2.2.2.1.v,(zi R.1.Cache.Age),(zi R.1.Now),p.2.2.2.2.2.2.2.2.2.2.1.v,p.2.2.2.2.2.2.2.2.2.2.2.2.1.v,(zi R.1.bI),p.2.2.2.2.2.2.2.2.2.2.2.2.2.2.1.v]),(.bool R.2)].toArray)) (fun p=>[dW p.2.1 p.1 R.1.bA,qz p.2.2.2.1 p.2.2.1 R.1.Methods,qY p.2.2.2.2.2.1 p.2.2.2.2.1 R.1.bV,ik p.2.2.2.2.2.2.2.1 p.2.2.2.2.2.2.1 R.1.Source.Facts,jK p.2.2.2.2.2.2.2.2.2.1 p.2.2.2.2.2.2.2.2.1 R.1.Cache.Entries,oL p.2.2.2.2.2.2.2.2.2.2.2.1 p.2.2.2.2.2.2.2.2.2.2.1 R.1.bD,dW p.2.2.2.2.2.2.2.2.2.2.2.2.2.1 p.2.2.2.2.2.2.2.2.2.2.2.2.1 R.1.dh,ah (aa 79 (aa 22 (aa 3 (az ax)))) p.2.2.2.2.2.2.2.2.2.2.2.2.2.2.2 p.2.2.2.2.2.2.2.2.2.2.2.2.2.2.1.v R.1.bX]):=by
 refine Se 113 Tryz.func9 [.cell 4 50,.tmp 5] ?_
 intro H0 F0
 unfold Iy at hF
 refine au ?_
 refine j6 (fun k1=>?_)
 refine j6 (fun k2=>?_)
 refine gI (fun k3=>?_)
 refine dO ?_
 refine bnd hF fun r4 hx5 hF=>V4 (asc.h hx5) (fun p6=>?_)
 refine gI (fun k7=>?_)
 refine As (zg [p6.1.v,p6.2.2.1.v,p6.2.2.2.2.1.v,p6.2.2.2.2.2.2.1.v,(zi r4.Source.Version),p6.2.2.2.2.2.2.2.2.1.v,(zi r4.Cache.Age),(zi r4.Now),p6.2.2.2.2.2.2.2.2.2.2.1.v,p6.2.2.2.2.2.2.2.2.2.2.2.2.1.v,(zi r4.bI),p6.2.2.2.2.2.2.2.2.2.2.2.2.2.2.1.v]) ?_
 refine eu ?_
 obtain⟨o8,ahF,hO9⟩:=bind_some hF
 refine au ?_
 refine qo (fun f' cs'=>∃(c16:Bool)(g:Fr),c16=o8/\f'=dm g [(2,(pz k1)),(3,(pz k2)),(4,(pz k3)),(6,(pz k7)),(34,(.bool c16))]/\bL cs' [bC k1 50 (zg [aA.v,bB.v,eG.v,f_.v,(zi aF.Source.Version),iL.v,(zi aF.Cache.Age),(zi aF.Now),jq.v,jr.v,(zi aF.bI),iX.v]),bi aA aF.bA,dY bB aF.Methods,wu eG aF.bV,iK f_ aF.Source.Facts,ku iL aF.Cache.Entries,sN jq aF.bD,bi jr aF.dh,aI (ak 79 (ak 22 (ak 3 ax))) iX.v aF.bX,bC k2 56 (zg [bf.v,bR.v]),bi bf aK.a_,eF bR aK.aL,aW k3 50 (.agg ([(.slice none 0 0),(.slice none 0 0),(.slice none 0 0),(.slice none 0 0),(zi 0),(.slice none 0 0),(zi 0),(zi 0),(.slice none 0 0),(.slice none 0 0),(zi 0),(.slice none 0 0)]:List Value).toArray),aW k7 50 (zg [p6.1.v,p6.2.2.1.v,p6.2.2.2.2.1.v,p6.2.2.2.2.2.2.1.v,(zi r4.Source.Version),p6.2.2.2.2.2.2.2.2.1.v,(zi r4.Cache.Age),(zi r4.Now),p6.2.2.2.2.2.2.2.2.2.2.1.v,p6.2.2.2.2.2.2.2.2.2.2.2.2.1.v,(zi r4.bI),p6.2.2.2.2.2.2.2.2.2.2.2.2.2.2.1.v]),dW p6.2.1 p6.1 r4.bA,qz p6.2.2.2.1 p6.2.2.1 r4.Methods,qY p6.2.2.2.2.2.1 p6.2.2.2.2.1 r4.bV,ik p6.2.2.2.2.2.2.2.1 p6.2.2.2.2.2.2.1 r4.Source.Facts,jK p6.2.2.2.2.2.2.2.2.2.1 p6.2.2.2.2.2.2.2.2.1 r4.Cache.Entries,oL p6.2.2.2.2.2.2.2.2.2.2.2.1 p6.2.2.2.2.2.2.2.2.2.2.1 r4.bD,dW p6.2.2.2.2.2.2.2.2.2.2.2.2.2.1 p6.2.2.2.2.2.2.2.2.2.2.2.2.1 r4.dh,ah (aa 79 (aa 22 (aa 3 (az ax)))) p6.2.2.2.2.2.2.2.2.2.2.2.2.2.2.2 p6.2.2.2.2.2.2.2.2.2.2.2.2.2.2.1.v r4.bX]) ?_ ?_
 · replace hF:=ahF
   refine au ?_
   refine bnd hF fun fF DR hF=>oO (asN.h DR) (fun _=>?_)
   refine eu ?_
   rcases kQ (!fF)with zk|zk
   · rw[zk]
     try rw[zk]at hF; dsimp only[eZ,eY]at hF
     exact jP hF
   rw[zk]
   try rw[zk]at hF; dsimp only[eZ,eY]at hF
   refine aaz ?_
   rcases kQ (decide ((500:Int)<(aF.bD.length:Int)))with zq|zq
   · rw[zq]
     try rw[zq]at hF; dsimp only[eZ,eY]at hF
     exact jP hF
   rw[zq]
   try rw[zq]at hF; dsimp only[eZ,eY]at hF
   refine kP ?_
   rcases kQ (decide ((900000:Int)<aF.bI))with zf|zf
   · rw[zf]
     try rw[zf]at hF; dsimp only[eZ,eY]at hF
     exact jP hF
   rw[zf]
   try rw[zf]at hF; dsimp only[eZ,eY]at hF
   exact jP hF
 rintro _ _ ⟨c16,aQM,rfl,rfl,hE⟩
 replace hF:=hO9
 try dsimp only at hF
 refine gV hE ?_
 refine Ci hF (fun agf hF=>?_) (fun agf hF=>?_)
 · refine eu ?_
   refine As (zg [p6.1.v,p6.2.2.1.v,p6.2.2.2.2.1.v,p6.2.2.2.2.2.2.1.v,(zi r4.Source.Version),p6.2.2.2.2.2.2.2.2.1.v,(zi r4.Cache.Age),(zi r4.Now),p6.2.2.2.2.2.2.2.2.2.2.1.v,p6.2.2.2.2.2.2.2.2.2.2.2.2.1.v,(zi r4.bI),p6.2.2.2.2.2.2.2.2.2.2.2.2.2.2.1.v]) ?_
   refine fw ?_
   cases hF
   exact iW (p6.1,p6.2.1,p6.2.2.1,p6.2.2.2.1,p6.2.2.2.2.1,p6.2.2.2.2.2.1,p6.2.2.2.2.2.2.1,p6.2.2.2.2.2.2.2.1,p6.2.2.2.2.2.2.2.2.1,p6.2.2.2.2.2.2.2.2.2.1,p6.2.2.2.2.2.2.2.2.2.2.1,p6.2.2.2.2.2.2.2.2.2.2.2.1,p6.2.2.2.2.2.2.2.2.2.2.2.2.1,p6.2.2.2.2.2.2.2.2.2.2.2.2.2.1,p6.2.2.2.2.2.2.2.2.2.2.2.2.2.2.1,p6.2.2.2.2.2.2.2.2.2.2.2.2.2.2.2) (.lZ rfl rfl .h rfl Dy.h qE.h.sz rfl rfl (.tmp rfl rfl .nil)) rfl (.sel (.cons .q14 (.cons .q14 (.cons .q14 (.cons .q14 (.cons .q14 (.cons .q14 (.cons .q14 (.cons .q14 .nil)))))))))
 refine iq ?_
 refine bnd hF fun fC aHZ hF=>Cx3 (asf.h aHZ) (fun WV=>?_)
 refine au ?_
 refine zx ?_
 refine zx ?_
 refine gI (fun k20=>?_)
 refine As (zg [WV.1.v,WV.2.1.v,WV.2.2.1.v,(zi fC.1.bK)]) ?_
 refine iq ?_
 refine Ci hF (fun agh hF=>?_) (fun agh hF=>?_)
 · refine eu ?_
   refine As (zg [p6.1.v,p6.2.2.1.v,p6.2.2.2.2.1.v,p6.2.2.2.2.2.2.1.v,(zi r4.Source.Version),p6.2.2.2.2.2.2.2.2.1.v,(zi r4.Cache.Age),(zi r4.Now),p6.2.2.2.2.2.2.2.2.2.2.1.v,p6.2.2.2.2.2.2.2.2.2.2.2.2.1.v,(zi r4.bI),p6.2.2.2.2.2.2.2.2.2.2.2.2.2.2.1.v]) ?_
   refine fw ?_
   cases hF
   exact iW (p6.1,p6.2.1,p6.2.2.1,p6.2.2.2.1,p6.2.2.2.2.1,p6.2.2.2.2.2.1,p6.2.2.2.2.2.2.1,p6.2.2.2.2.2.2.2.1,p6.2.2.2.2.2.2.2.2.1,p6.2.2.2.2.2.2.2.2.2.1,p6.2.2.2.2.2.2.2.2.2.2.1,p6.2.2.2.2.2.2.2.2.2.2.2.1,p6.2.2.2.2.2.2.2.2.2.2.2.2.1,p6.2.2.2.2.2.2.2.2.2.2.2.2.2.1,p6.2.2.2.2.2.2.2.2.2.2.2.2.2.2.1,p6.2.2.2.2.2.2.2.2.2.2.2.2.2.2.2) (.lZ rfl rfl .h rfl Dy.h qE.h.sz rfl rfl (.tmp rfl rfl .nil)) rfl (.sel (.cons (.t (.t (.t (.t (.t (.t (.t (.t (.t (.t (.t (.t (.t (.t (.t (.t (.t (.t .h)))))))))))))))))) (.cons (.t (.t (.t (.t (.t (.t (.t (.t (.t (.t (.t (.t (.t (.t (.t (.t (.t (.t .h)))))))))))))))))) (.cons (.t (.t (.t (.t (.t (.t (.t (.t (.t (.t (.t (.t (.t (.t (.t (.t (.t (.t .h)))))))))))))))))) (.cons (.t (.t (.t (.t (.t (.t (.t (.t (.t (.t (.t (.t (.t (.t (.t (.t (.t (.t .h)))))))))))))))))) (.cons (.t (.t (.t (.t (.t (.t (.t (.t (.t (.t (.t (.t (.t (.t (.t (.t (.t (.t .h)))))))))))))))))) (.cons (.t (.t (.t (.t (.t (.t (.t (.t (.t (.t (.t (.t (.t (.t (.t (.t (.t (.t .h)))))))))))))))))) (.cons (.t (.t (.t (.t (.t (.t (.t (.t (.t (.t (.t (.t (.t (.t (.t (.t (.t (.t .h)))))))))))))))))) (.cons (.t (.t (.t (.t (.t (.t (.t (.t (.t (.t (.t (.t (.t (.t (.t (.t (.t (.t .h)))))))))))))))))) .nil)))))))))
 refine iq ?_
 refine gM .h (fun hp=>pO (s:=2) (l:=[WV.1.v,WV.2.1.v]) abr.h F_.h.sz (.tmp rfl rfl) hp.2 rfl (by decide) (aQS rfl) rfl) ?_
 refine lN ?_
 refine gM .q4 (fun hp=>pO (s:=2) (l:=[iL.v,(zi aF.Cache.Age)]) wD.h p_.h.sz (.tmp rfl rfl) hp.2 rfl (by decide) (aQS rfl) rfl) ?_
 refine eu ?_
 refine bnd hF fun eX Vr hF=>apR (.cons .q3 (.rd .q4 rfl (.rd .q5 rfl (.rd (.t .h) rfl (.rd .q2 rfl (.rd .q7 rfl (.rd .q8 rfl .nil))))))) (mH aX (fun _=>(.cons (.cons (.cons (.cons .nil))))) (qR (.rd (.t .h) rfl (.rd .q2 rfl (.rd .q3 rfl (.rd .q4 rfl (.rd .h rfl (.rd .q5 rfl (.rd .q6 rfl .nil))))))) (cK aGb.h fG (ato.h Vr)))) (fun jU=>?_)
 refine au ?_
 refine zx ?_
 refine zx ?_
 refine gI (fun k24=>?_)
 refine gI (fun k25=>?_)
 refine As (zg [jU.1.v,jU.2.2.1.v,jU.2.2.2.2.1.v,(zi eX.1.bK)]) ?_
 refine As (zg [jU.2.2.2.2.2.2.1.v,(zi eX.2.Age)]) ?_
 refine TM ?_
 refine Ci hF (fun aE1 hF=>?_) (fun aE1 hF=>?_)
 · refine eu ?_
   refine As (zg [p6.1.v,p6.2.2.1.v,p6.2.2.2.2.1.v,p6.2.2.2.2.2.2.1.v,(zi r4.Source.Version),p6.2.2.2.2.2.2.2.2.1.v,(zi r4.Cache.Age),(zi r4.Now),p6.2.2.2.2.2.2.2.2.2.2.1.v,p6.2.2.2.2.2.2.2.2.2.2.2.2.1.v,(zi r4.bI),p6.2.2.2.2.2.2.2.2.2.2.2.2.2.2.1.v]) ?_
   refine fw ?_
   cases hF
   exact iW (p6.1,p6.2.1,p6.2.2.1,p6.2.2.2.1,p6.2.2.2.2.1,p6.2.2.2.2.2.1,p6.2.2.2.2.2.2.1,p6.2.2.2.2.2.2.2.1,p6.2.2.2.2.2.2.2.2.1,p6.2.2.2.2.2.2.2.2.2.1,p6.2.2.2.2.2.2.2.2.2.2.1,p6.2.2.2.2.2.2.2.2.2.2.2.1,p6.2.2.2.2.2.2.2.2.2.2.2.2.1,p6.2.2.2.2.2.2.2.2.2.2.2.2.2.1,p6.2.2.2.2.2.2.2.2.2.2.2.2.2.2.1,p6.2.2.2.2.2.2.2.2.2.2.2.2.2.2.2) (.lZ rfl rfl .h rfl Dy.h qE.h.sz rfl rfl (.tmp rfl rfl .nil)) rfl (.sel (.cons (.t (.t (.t (.t (.t (.t (.t (.t (.t (.t (.t (.t (.t (.t (.t (.t (.t (.t (.t (.t (.t (.t (.t (.t .h)))))))))))))))))))))))) (.cons (.t (.t (.t (.t (.t (.t (.t (.t (.t (.t (.t (.t (.t (.t (.t (.t (.t (.t (.t (.t (.t (.t (.t (.t .h)))))))))))))))))))))))) (.cons (.t (.t (.t (.t (.t (.t (.t (.t (.t (.t (.t (.t (.t (.t (.t (.t (.t (.t (.t (.t (.t (.t (.t (.t .h)))))))))))))))))))))))) (.cons (.t (.t (.t (.t (.t (.t (.t (.t (.t (.t (.t (.t (.t (.t (.t (.t (.t (.t (.t (.t (.t (.t (.t (.t .h)))))))))))))))))))))))) (.cons (.t (.t (.t (.t (.t (.t (.t (.t (.t (.t (.t (.t (.t (.t (.t (.t (.t (.t (.t (.t (.t (.t (.t (.t .h)))))))))))))))))))))))) (.cons (.t (.t (.t (.t (.t (.t (.t (.t (.t (.t (.t (.t (.t (.t (.t (.t (.t (.t (.t (.t (.t (.t (.t (.t .h)))))))))))))))))))))))) (.cons (.t (.t (.t (.t (.t (.t (.t (.t (.t (.t (.t (.t (.t (.t (.t (.t (.t (.t (.t (.t (.t (.t (.t (.t .h)))))))))))))))))))))))) (.cons (.t (.t (.t (.t (.t (.t (.t (.t (.t (.t (.t (.t (.t (.t (.t (.t (.t (.t (.t (.t (.t (.t (.t (.t .h)))))))))))))))))))))))) .nil)))))))))
 refine kP ?_
 refine gU (aB_ (s:=2) .q4 (fun ars G36=>?_))
 refine kI (m:=eX.1.bD.length) (fun m76 f' cs'=>∃(g:Fr)(x_:Nat)(yD ll:List ag)(sZ:List Int)(v69:Sv)(KF:List Nat)(v72:Sv)(F73 G74:List Nat),m76=yD.length/\f'=dm g [(2,(pz k1)),(4,(pz k3)),(6,(pz k7)),(9,(pz k24)),(10,(pz k25)),(77,jU.2.2.1.v),(78,(zi (eX.1.bD.length:Int))),(79,(zi (x_:Int)))]/\List.drop x_ eX.1.bD=yD/\bL cs' [bC k1 50 (zg [aA.v,bB.v,eG.v,f_.v,(zi aF.Source.Version),iL.v,(zi aF.Cache.Age),(zi aF.Now),jq.v,jr.v,(zi aF.bI),iX.v]),bi aA aF.bA,dY bB aF.Methods,wu eG aF.bV,iK f_ aF.Source.Facts,ku iL aF.Cache.Entries,sN jq aF.bD,bi jr aF.dh,aI (ak 79 (ak 22 (ak 3 ax))) iX.v aF.bX,aW k3 50 (.agg ([(.slice none 0 0),(.slice none 0 0),(.slice none 0 0),(.slice none 0 0),(zi 0),(.slice none 0 0),(zi 0),(zi 0),(.slice none 0 0),(.slice none 0 0),(zi 0),(.slice none 0 0)]:List Value).toArray),aW k7 50 (zg [p6.1.v,p6.2.2.1.v,p6.2.2.2.2.1.v,p6.2.2.2.2.2.2.1.v,(zi r4.Source.Version),p6.2.2.2.2.2.2.2.2.1.v,(zi r4.Cache.Age),(zi r4.Now),v69.v,v72.v,(zi r4.bI),p6.2.2.2.2.2.2.2.2.2.2.2.2.2.2.1.v]),dW p6.2.1 p6.1 r4.bA,qz p6.2.2.2.1 p6.2.2.1 r4.Methods,qY p6.2.2.2.2.2.1 p6.2.2.2.2.1 r4.bV,ik p6.2.2.2.2.2.2.2.1 p6.2.2.2.2.2.2.1 r4.Source.Facts,jK p6.2.2.2.2.2.2.2.2.2.1 p6.2.2.2.2.2.2.2.2.1 r4.Cache.Entries,oL KF v69 ll,dW F73 v72 sZ,ah (aa 79 (aa 22 (aa 3 (az ax)))) p6.2.2.2.2.2.2.2.2.2.2.2.2.2.2.2 p6.2.2.2.2.2.2.2.2.2.2.2.2.2.2.1.v r4.bX,aW k24 81 (zg [jU.1.v,jU.2.2.1.v,jU.2.2.2.2.1.v,(zi eX.1.bK)]),ah (aa 22 (aa 3 (az ax))) jU.2.1 jU.1.v eX.1.nN,uf 85 2 ji G74 jU.2.2.1.v ars eX.1.bD.length x_ yD,ik jU.2.2.2.2.2.1 jU.2.2.2.2.1 eX.1.rP,aW k25 47 (zg [jU.2.2.2.2.2.2.1.v,(zi eX.2.Age)]),jK jU.2.2.2.2.2.2.2 jU.2.2.2.2.2.2.1 eX.2.Entries]/\EI aF r4 eX yD x_ ll sZ=some R) ⟨_,0,_,_,_,p6.2.2.2.2.2.2.2.2.2.2.1,p6.2.2.2.2.2.2.2.2.2.2.2.1,p6.2.2.2.2.2.2.2.2.2.2.2.2.1,p6.2.2.2.2.2.2.2.2.2.2.2.2.2.1,G36,rfl,df,rfl,bT,hF⟩ ?_
 rintro m76 _ _ ⟨g77,x_,yD,ll,sZ,v69,KF,v72,F73,G74,rfl,rfl,art,hE,hF⟩
 refine gV hE ?_
 refine zV (c:=uf 85 2 ji G74 jU.2.2.1.v ars eX.1.bD.length x_ yD) (.t (.t (.t (.t (.t (.t (.t (.t (.t (.t (.t (.t (.t (.t (.t (.t (.t (.t (.t (.t (.t .h))))))))))))))))))))) avQ (fun aOs=>?_)
 rcases yD with _|⟨x80,yD⟩
 · have ag_:=dn art
   rw[EI]at hF
   refine dO ?_
   refine mQ ?_
   refine afH ?_
   refine As (zg [p6.1.v,p6.2.2.1.v,p6.2.2.2.2.1.v,p6.2.2.2.2.2.2.1.v,(zi r4.Source.Version),p6.2.2.2.2.2.2.2.2.1.v,(zi r4.Cache.Age),(zi r4.Now),v69.v,v72.v,(zi (IntKind.i64.wrap (r4.bI+eX.1.bK))),p6.2.2.2.2.2.2.2.2.2.2.2.2.2.2.1.v]) ?_
   refine dO ?_
   refine As (zg [p6.1.v,p6.2.2.1.v,p6.2.2.2.2.1.v,p6.2.2.2.2.2.2.1.v,(zi r4.Source.Version),jU.2.2.2.2.2.2.1.v,(zi eX.2.Age),(zi r4.Now),v69.v,v72.v,(zi (IntKind.i64.wrap (r4.bI+eX.1.bK))),p6.2.2.2.2.2.2.2.2.2.2.2.2.2.2.1.v]) ?_
   refine lN ?_
   refine lJ rfl (gq (g:=true) Aw.h xG.h fG (vs:=[jU.1.v]) rfl rfl rfl (by intro v hv; simp at hv; rcases hv with rfl<;>rfl)) (fun k87=>?_)
   refine mo (.cons .h (.cons (.t (.t (.t (.t (.t (.t (.t (.t (.t (.t (.t (.t (.t (.t (.t (.t (.t (.t (.t (.t .h)))))))))))))))))))) .nil)) (gu (Ro:=(aa 22 (aa 3 (az ax)))) (E:=79) (F:=(jU.2.1++[])) (xs:=([eX.1.nN]:List (List (List Int)))) (iV yA fU dS) rfl rfl) ?_
   refine bnd hF fun z88 aH0 hF=>iZ (.cons (.t (.t (.t (.t (.t (.t (.t (.t (.t (.t (.t (.t (.t (.t (.t (.t (.t (.t (.t .h))))))))))))))))))) (.cons .h .nil)) (iU (Ro:=(aa 22 (aa 3 (az ax)))) Aw.h UW xG.h rfl rfl rfl (.tmp rfl rfl) (.tmp rfl rfl) aH0 kJ) (fun p90=>?_)
   refine au ?_
   refine As (zg [p6.1.v,p6.2.2.1.v,p6.2.2.2.2.1.v,p6.2.2.2.2.2.2.1.v,(zi r4.Source.Version),jU.2.2.2.2.2.2.1.v,(zi eX.2.Age),(zi r4.Now),v69.v,v72.v,(zi (IntKind.i64.wrap (r4.bI+eX.1.bK))),p90.1.v]) ?_
   refine fw ?_
   refine As (zg [p6.1.v,p6.2.2.1.v,p6.2.2.2.2.1.v,p6.2.2.2.2.2.2.1.v,(zi r4.Source.Version),jU.2.2.2.2.2.2.1.v,(zi eX.2.Age),(zi r4.Now),v69.v,v72.v,(zi (IntKind.i64.wrap (r4.bI+eX.1.bK))),p90.1.v]) ?_
   refine fw ?_
   cases hF
   exact iW (p6.1,p6.2.1,p6.2.2.1,p6.2.2.2.1,p6.2.2.2.2.1,p6.2.2.2.2.2.1,p6.2.2.2.2.2.2.1,p6.2.2.2.2.2.2.2.1,jU.2.2.2.2.2.2.1,jU.2.2.2.2.2.2.2,v69,KF,v72,F73,p90.1,p90.2) (.lZ rfl rfl .h rfl Dy.h qE.h.sz rfl rfl (.tmp rfl rfl .nil)) rfl (.sel (.cons .q12 (.cons .q12 (.cons .q12 (.cons .q12 (.cons (.t (.t (.t (.t (.t (.t (.t (.t (.t (.t (.t (.t (.t (.t (.t (.t (.t (.t (.t .h))))))))))))))))))) (.cons .q13 (.cons .q13 (.cons .q2 .nil)))))))))
 obtain⟨ag_,aru,aH1⟩:=kH art
 rw[EI]at hF
 refine dO ?_
 refine mP ?_
 refine fw ?_
 refine ax_ aF4 (.t (.t (.t (.t (.t (.t (.t (.t (.t (.t (.t (.t (.t (.t (.t (.t (.t (.t (.t (.t (.t .h))))))))))))))))))))) (fun Ow G92 aH2=>?_)
 refine Jk (R:=sj 2) (a:=(zg [(zi x80.Method),Ow.1.v])) uD.h nD.h.sz (.tmp rfl rfl) (.tmp rfl rfl) (.t .h) (aRX x_) (azA aH2) (fun k94 j95=>?_)
 refine azB abq.h nD.h.sz rfl (.tmp rfl rfl) .h ?_
 refine gI (fun k96=>?_)
 refine As (zg [(zi x80.Method),Ow.1.v]) ?_
 refine au ?_
 refine qP [0,1,2,3,5,6,7,8,9,4,11,10,12,13,14] [0,1,0,4,15,0,32,0,128,384,1023,127,4095,8191,16383] [4,10,12,14] mixed (by decide+kernel) ?_
 refine du ?_
 refine dF rfl .no (.t (.t (.t (.t (.t (.t (.t (.t (.t (.t (.t (.t (.t (.t (.t .h))))))))))))))) (fun ha hp=>gy (v:=v69.v) JQ.h (EN ha (.tmp rfl rfl) rfl) hp.2 rfl rfl) ?_
 refine dF rfl .no .h (fun ha hp=>lm abq.h nD.h.sz rfl (EN ha (.tmp rfl rfl) rfl) hp.2 rfl) ?_
 refine jw rfl .no rfl (fun ha=>gq (g:=true) (len:=1) (parts:=[(0,.tmp 85)]) uD.h nD.h (.cons (EN ha (.tmp rfl rfl) rfl) .nil) (vs:=[(zg [(zi x80.Method),Ow.1.v])]) rfl rfl rfl (by intro v hv; simp at hv; rcases hv with rfl<;>rfl)) (fun k97=>?_)
 refine lQ (.cons .h (.cons .q2 .nil)) (gu (Ro:=ji) (E:=85) (F:=(Ow.2++[])) (xs:=([x80]:List ag)) (iV UV fU dS) rfl rfl) ?_
 refine du ?_
 refine dF rfl .no (.t (.t (.t (.t (.t (.t (.t (.t (.t (.t (.t (.t (.t (.t (.t .h))))))))))))))) (fun ha hp=>gy (v:=v72.v) ry.h (EN ha (.tmp rfl rfl) rfl) hp.2 rfl rfl) ?_
 refine jF ?_
 refine jw rfl .no rfl (fun ha=>gq (g:=true) (len:=1) (parts:=[(0,.tmp 91)]) jO.h gP.h (.cons (EN ha (.tmp rfl rfl) rfl) .nil) (vs:=[(zi aF.Now)]) rfl rfl rfl (by intro v hv; simp at hv; rcases hv with rfl<;>rfl)) (fun k98=>?_)
 refine lQ (.cons .h .nil) (gu (Ro:=(az ax)) (E:=3) (F:=([]++[])) (xs:=([aF.Now]:List Int)) (iV (vg (fun _=>rfl)) fU dS) rfl rfl) ?_
 refine bnd hF fun WM TP hF=>dx rfl rfl .no (.cons (.t (.t (.t (.t (.t (.t (.t (.t (.t (.t (.t (.t (.t (.t (.t (.t (.t (.t (.t (.t (.t (.t .h)))))))))))))))))))))) (.cons (.t .h) .nil)) (.own .h (by simp[ah]) (.own (.t (.t (.t (.t (.t (.t (.t (.t (.t (.t (.t (.t (.t (.t (.t .h))))))))))))))) (fun _ h=>h) (.aV rfl (.aV rfl (.aV rfl .nil))))) (fun ha=>iU (Ro:=ji) uD.h N7 nD.h rfl rfl rfl (EN ha (.tmp rfl rfl) rfl) (EN ha (.tmp rfl rfl) rfl) TP kJ) (fun DT=>?_)
 refine du ?_
 refine bnd hF fun arq aE2 hF=>dx rfl rfl .no (.cons (.t (.t (.t (.t (.t (.t (.t (.t (.t (.t (.t (.t (.t (.t (.t (.t (.t (.t (.t (.t (.t (.t .h)))))))))))))))))))))) (.cons (.t .h) .nil)) (.aV rfl (.aV rfl (.aV rfl (.aV rfl (.aV rfl .nil))))) (fun ha=>iU (Ro:=(az ax)) jO.h yT gP.h rfl rfl rfl (EN ha (.tmp rfl rfl) rfl) (EN ha (.tmp rfl rfl) rfl) aE2 kJ) (fun aid=>?_)
 refine dx rfl rfl .no (.cons (.t (.t (.t (.t (.t (.t (.t (.t (.t (.t (.t (.t (.t (.t (.t (.t .h)))))))))))))))) .nil) (.aV rfl (.aV rfl (.aV rfl (.aV rfl (.aV rfl .nil))))) (fun ha=>iO (e':=(zg [p6.1.v,p6.2.2.1.v,p6.2.2.2.2.1.v,p6.2.2.2.2.2.2.1.v,(zi r4.Source.Version),p6.2.2.2.2.2.2.2.2.1.v,(zi r4.Cache.Age),(zi r4.Now),DT.1.v,v72.v,(zi r4.bI),p6.2.2.2.2.2.2.2.2.2.2.2.2.2.2.1.v])) agU.h.sz (EN ha (.tmp rfl rfl) rfl) (EN ha (.tmp rfl rfl) rfl) rfl rfl rfl rfl rfl) (fun _=>?_)
 refine du ?_
 refine dx rfl rfl .no (.cons .h .nil) (.aV rfl (.aV rfl (.aV rfl (.aV rfl (.aV rfl .nil))))) (fun ha=>iO (e':=(zg [p6.1.v,p6.2.2.1.v,p6.2.2.2.2.1.v,p6.2.2.2.2.2.2.1.v,(zi r4.Source.Version),p6.2.2.2.2.2.2.2.2.1.v,(zi r4.Cache.Age),(zi r4.Now),DT.1.v,aid.1.v,(zi r4.bI),p6.2.2.2.2.2.2.2.2.2.2.2.2.2.2.1.v])) lw.h.sz (EN ha (.tmp rfl rfl) rfl) (EN ha (.tmp rfl rfl) rfl) rfl rfl rfl rfl rfl) (fun _=>?_)
 refine du ?_
 refine dO ?_
 rw[wk x_]
 exact⟨_,lT _,_,x_+1,yD,_,_,DT.1,DT.2,aid.1,aid.2,G92,rfl,df,aH1,bT,hF⟩
instance aj3:GL 9 t25 t29 u38 Iy:=⟨fun h=>atp h⟩
end Go.Proofs.YtlnefhbbbikmgabGreat
