/-
  Functions of the program as Lean functions, and that the calls return what these say. No conditions.
-/
import Derived.Test.YtlnefhbbbikmgabGreatAskQueryGL0
set_option maxRecDepth 100000
set_option maxHeartbeats 4000000
set_option linter.unusedVariables false
namespace Go.Proofs.YtlnefhbbbikmgabGreat
open Go Go.Fw
def Pi:Nat->(List Method)->Int->Int->Option (Int×(List Method))
 |0,_,_,_=>none
 |m64+1,Kq,lF,mr=>if (decide ((mr:Int)<(Kq.length:Int)))then (
     (ix Kq mr).bind fun Eg=>
     (some (Kq.set (mr).toNat {Eg with aD:=lF})).bind fun z79=>
     (ix z79 mr).bind fun x84=>
     (vT x84.bg (IntKind.i64.wrap (lF+1))).bind fun Eh=>
     (some (z79.set (mr).toNat {x84 with bg:=Eh.2})).bind fun Wm=>
     (ix Wm mr).bind fun x97=>
     (some (Wm.set (mr).toNat {x97 with Limit:=Eh.1})).bind fun U0=>
     (ix U0 mr).bind fun aqi=>
     (some (U0.set (mr).toNat {aqi with bK:=(IntKind.i64.wrap (Eh.1+1))})).bind fun ag7=>
     (ix ag7 mr).bind fun x115=>
     (some (ag7.set (mr).toNat {x115 with gW:=(IntKind.i64.wrap ((IntKind.i64.wrap (Eh.1+1))+1))})).bind fun z119=>
     Pi m64 z119 (IntKind.i64.wrap ((IntKind.i64.wrap ((IntKind.i64.wrap (Eh.1+1))+1))+1)) (IntKind.i64.wrap (mr+1)))
   else (
     some (lF,Kq))
def Yq(ae:List Method)(dL:Int):Option (Int×(List Method)):=
 Pi (((ae.length:Int)-0).toNat+2) ae dL 0
theorem ai'{ae:List Method}{aA:Sv}{jb:List Nat}{dL:Int}{R:Int×(List Method)}(hF:Yq ae dL=some R):
   Fw.Spec Tryz.prog 51 [aA.v,(.int .i64 dL)] [ah (aa 127 iT) jb aA.v ae] (fun _:List Nat=>(.int .i64 R.1)) (fun p=>[ah (aa 127 iT) p aA.v R.2]):=by
 refine' en Tryz.func51 (Yq.eq_1 ..)
 refine' AZ (.mk (β:=(List Method)×Int×Int) (ι:=List Nat) (fun|(Kq,lF,mr),i1=>[(1,(.int .i64 lF)),(5,(.int .i64 mr))]) (fun|(Kq,lF,mr),i1=>[ah (aa 127 iT) i1 aA.v Kq]) [1,5] [aA.v]) [0]<;>rw[Pi]at hF<;>refine' go
 replace hF:=bind_some hF
 obtain⟨Eg,U1,hF⟩:=hF
 have ag8:=lX U1
 obtain⟨aGp,N_⟩:=kU U1
 refine iJ yS.h xu.h.sz aU aU bQ ag8 (fun k72 ag9=>?_)
 refine' go
 replace hF:=bind_some hF
 obtain⟨z79,Oa,hF⟩:=hF
 replace Oa:=aQ0 Oa
 rename_i lF mr _ _ _
 refine' Cy (wZ (Ro:=iT) (i:=mr) gP.h.sz rfl aU aU ag9 N_ rfl rfl axi (ayj (d:=lF))) (fun _=>?_)
 rw[Oa]
 refine' go
 replace hF:=bind_some hF
 obtain⟨x84,abz,hF⟩:=hF
 have aGq:=lX abz
 obtain⟨aPc,aqj⟩:=kU abz
 refine iJ yS.h xu.h.sz aU aU bQ aGq (fun Ov ag_=>?_)
 refine' go
 refine CB ry.h aU l6 ag_ aqj amZ (fun w88=>?_)
 refine' go
 replace hF:=bind_some hF
 obtain⟨Eh,hx90,hF⟩:=hF
 replace hF:=bind_some hF
 obtain⟨Wm,hx93,hF⟩:=hF
 replace hx93:=aQ0 hx93
 refine' Cy (CE aqj amZ (fun Fw=>cK uN (.cons aU (.cons aU .nil)) (@Bj x84.bg w88 Fw (IntKind.i64.wrap (lF+1)) _ hx90)) rfl) (fun Ow=>?_)
 rw[hx93]
 refine' go
 replace hF:=bind_some hF
 obtain⟨x97,hx98,hF⟩:=hF
 have aGr:=lX hx98
 obtain⟨aPd,TP⟩:=kU hx98
 refine iJ yS.h xu.h.sz aU aU bQ aGr (fun k94 aGs=>?_)
 refine' go
 replace hF:=bind_some hF
 obtain⟨U0,hx102,hF⟩:=hF
 replace hx102:=aQ0 hx102
 refine' Cy (wZ (Ro:=iT) (i:=mr) gP.h.sz rfl aU aU aGs TP rfl rfl axj (ayk (d:=Eh.1))) (fun _=>?_)
 rw[hx102]
 refine' go
 replace hF:=bind_some hF
 obtain⟨aqi,aoJ,hF⟩:=hF
 have aC_:=lX aoJ
 obtain⟨aNk,Jq⟩:=kU aoJ
 refine iJ yS.h xu.h.sz aU aU bQ aC_ (fun aPe aC'=>?_)
 refine' go
 replace hF:=bind_some hF
 obtain⟨ag7,afP,hF⟩:=hF
 replace afP:=aQ0 afP
 refine' Cy (wZ (Ro:=iT) (i:=mr) gP.h.sz rfl aU aU aC' Jq rfl rfl axk (ayl (d:=(IntKind.i64.wrap (Eh.1+1))))) (fun _=>?_)
 rw[afP]
 refine' go
 replace hF:=bind_some hF
 obtain⟨x115,Jr,hF⟩:=hF
 have afQ:=lX Jr
 obtain⟨aDa,afR⟩:=kU Jr
 refine iJ yS.h xu.h.sz aU aU bQ afQ (fun aqk afS=>?_)
 refine' go
 replace hF:=bind_some hF
 obtain⟨z119,afT,hF⟩:=hF
 replace afT:=aQ0 afT
 refine' Cy (wZ (Ro:=iT) (i:=mr) gP.h.sz rfl aU aU afS afR rfl rfl axl (aym (d:=(IntKind.i64.wrap ((IntKind.i64.wrap (Eh.1+1))+1))))) (fun _=>?_)
 rw[afT]
 refine' go
instance:dz Tryz.prog 51 (type_of% @ai'):=⟨@ai'⟩
def PK:Nat->(List bO)->Int->Int->Option (Int×(List bO))
 |0,_,_,_=>none
 |m46+1,Ei,wO,vS=>if (decide ((vS:Int)<(Ei.length:Int)))then (
     (ix Ei vS).bind fun pG=>
     (some (Ei.set (vS).toNat {pG with From:=wO})).bind fun z61=>
     (ix z61 vS).bind fun x66=>
     (some (z61.set (vS).toNat {x66 with To:=(IntKind.i64.wrap (wO+1))})).bind fun z70=>
     (ix z70 vS).bind fun Eg=>
     (vT Eg.Map (IntKind.i64.wrap ((IntKind.i64.wrap (wO+1))+1))).bind fun Wn=>
     (some (z70.set (vS).toNat {Eg with Map:=Wn.2})).bind fun z83=>
     PK m46 z83 Wn.1 (IntKind.i64.wrap (vS+1)))
   else (
     some (wO,Ei))
def Zd(ae:List bO)(dL:Int):Option (Int×(List bO)):=
 PK (((ae.length:Int)-0).toNat+2) ae dL 0
theorem ajE{ae:List bO}{aA:Sv}{jb:List Nat}{dL:Int}{R:Int×(List bO)}(hF:Zd ae dL=some R):
   Fw.Spec Tryz.prog 52 [aA.v,(.int .i64 dL)] [ah (aa 129 jX) jb aA.v ae] (fun _:List Nat=>(.int .i64 R.1)) (fun p=>[ah (aa 129 jX) p aA.v R.2]):=by
 refine' en Tryz.func52 (Zd.eq_1 ..)
 refine' AZ (.mk (β:=(List bO)×Int×Int) (ι:=List Nat) (fun|(Ei,wO,vS),i1=>[(1,(.int .i64 wO)),(5,(.int .i64 vS))]) (fun|(Ei,wO,vS),i1=>[ah (aa 129 jX) i1 aA.v Ei]) [1,5] [aA.v]) [0]<;>rw[PK]at hF<;>refine' go
 replace hF:=bind_some hF
 obtain⟨pG,yU,hF⟩:=hF
 have JS:=lX yU
 obtain⟨ag',xJ⟩:=kU yU
 refine iJ F9.h yL.h.sz aU aU bQ JS (fun k54 JU=>?_)
 refine' go
 replace hF:=bind_some hF
 obtain⟨z61,aha,hF⟩:=hF
 replace aha:=aQ0 aha
 rename_i wO vS _ _ _
 refine' Cy (wZ (Ro:=jX) (i:=vS) gP.h.sz rfl aU aU JU xJ rfl rfl axm (ayn (d:=wO))) (fun _=>?_)
 rw[aha]
 refine' go
 replace hF:=bind_some hF
 obtain⟨x66,aql,hF⟩:=hF
 have aGt:=lX aql
 obtain⟨aPf,aGu⟩:=kU aql
 refine iJ F9.h yL.h.sz aU aU bQ aGt (fun k63 aGv=>?_)
 refine' go
 replace hF:=bind_some hF
 obtain⟨z70,Ob,hF⟩:=hF
 replace Ob:=aQ0 Ob
 refine' Cy (wZ (Ro:=jX) (i:=vS) gP.h.sz rfl aU aU aGv aGu rfl rfl axn (ayo (d:=(IntKind.i64.wrap (wO+1))))) (fun _=>?_)
 rw[Ob]
 refine' go
 replace hF:=bind_some hF
 obtain⟨Eg,U1,hF⟩:=hF
 have ag8:=lX U1
 obtain⟨aGp,N_⟩:=kU U1
 refine iJ F9.h yL.h.sz aU aU bQ ag8 (fun k72 ag9=>?_)
 refine' go
 refine CB ry.h aU l6 ag9 N_ am0 (fun w79=>?_)
 refine' go
 replace hF:=bind_some hF
 obtain⟨Wn,ahb,hF⟩:=hF
 replace hF:=bind_some hF
 obtain⟨z83,Gf,hF⟩:=hF
 replace Gf:=aQ0 Gf
 refine' Cy (CE N_ am0 (fun Fw=>cK uN (.cons aU (.cons aU .nil)) (@Bj Eg.Map w79 Fw (IntKind.i64.wrap ((IntKind.i64.wrap (wO+1))+1)) _ ahb)) rfl) (fun p82=>?_)
 rw[Gf]
 refine' go
instance:dz Tryz.prog 52 (type_of% @ajE):=⟨@ajE⟩
def PL:Nat->(List aj)->Int->Int->Option (Int×(List aj))
 |0,_,_,_=>none
 |Wo+1,mD,ig,gD=>if (decide ((gD:Int)<(mD.length:Int)))then (
     (ix mD gD).bind fun Ba=>
     (some (mD.set (gD).toNat {Ba with aD:=ig})).bind fun z52=>
     (ix z52 gD).bind fun pG=>
     (vT pG.Values (IntKind.i64.wrap (ig+1))).bind fun wP=>
     (some (z52.set (gD).toNat {pG with Values:=wP.2})).bind fun z65=>
     PL Wo z65 wP.1 (IntKind.i64.wrap (gD+1)))
   else (
     some (ig,mD))
def QN(ae:List aj)(dL:Int):Option (Int×(List aj)):=
 PL (((ae.length:Int)-0).toNat+2) ae dL 0
theorem acS{ae:List aj}{aA:Sv}{jb:List Nat}{dL:Int}{R:Int×(List aj)}(hF:QN ae dL=some R):
   Fw.Spec Tryz.prog 144 [aA.v,(.int .i64 dL)] [ah (aa 164 dV) jb aA.v ae] (fun _:List Nat=>(.int .i64 R.1)) (fun p=>[ah (aa 164 dV) p aA.v R.2]):=by
 refine' en Tryz.func144 (QN.eq_1 ..)
 refine' AZ (.mk (β:=(List aj)×Int×Int) (ι:=List Nat) (fun|(mD,ig,gD),i1=>[(1,(.int .i64 ig)),(5,(.int .i64 gD))]) (fun|(mD,ig,gD),i1=>[ah (aa 164 dV) i1 aA.v mD]) [1,5] [aA.v]) [0]<;>rw[PL]at hF<;>refine' go
 replace hF:=bind_some hF
 obtain⟨Ba,xI,hF⟩:=hF
 have U2:=lX xI
 obtain⟨aqm,JV⟩:=kU xI
 refine iJ lC.h jY.h.sz aU aU bQ U2 (fun k45 U3=>?_)
 refine' go
 replace hF:=bind_some hF
 obtain⟨z52,yV,hF⟩:=hF
 replace yV:=aQ0 yV
 rename_i ig gD _ _ _
 refine' Cy (wZ (Ro:=dV) (i:=gD) gP.h.sz rfl aU aU U3 JV rfl rfl axo (ayp (d:=ig))) (fun _=>?_)
 rw[yV]
 refine' go
 replace hF:=bind_some hF
 obtain⟨pG,yU,hF⟩:=hF
 have JS:=lX yU
 obtain⟨ag',xJ⟩:=kU yU
 refine iJ lC.h jY.h.sz aU aU bQ JS (fun k54 JU=>?_)
 refine' go
 refine CB ry.h aU l6 JU xJ am1 (fun Wp=>?_)
 refine' go
 replace hF:=bind_some hF
 obtain⟨wP,JW,hF⟩:=hF
 replace hF:=bind_some hF
 obtain⟨z65,yX,hF⟩:=hF
 replace yX:=aQ0 yX
 refine' Cy (CE xJ am1 (fun Fw=>cK uN (.cons aU (.cons aU .nil)) (@Bj pG.Values Wp Fw (IntKind.i64.wrap (ig+1)) _ JW)) rfl) (fun p64=>?_)
 rw[yX]
 refine' go
instance:dz Tryz.prog 144 (type_of% @acS):=⟨@acS⟩
def Qo(ae:Source)(dL:Int):Option (Int×Source):=
 (QN ae.Facts dL).bind fun r2=>
 some (r2.1,({Facts:=r2.2,Version:=ae.Version}:Source))
theorem ajo{ae:Source}{aA:Sv}{jb:List Nat}{dL:Int}{R:Int×Source}(hF:Qo ae dL=some R):
   Fw.Spec Tryz.prog 53 [(.agg [aA.v,(.int .i64 ae.Version)].toArray),(.int .i64 dL)] [ah (aa 164 dV) jb aA.v ae.Facts] (fun _:List Nat=>(.int .i64 R.1)) (fun p=>[ah (aa 164 dV) p aA.v R.2.Facts]):=by
 refine' en Tryz.func53 (Qo.eq_1 ..)
instance:dz Tryz.prog 53 (type_of% @ajo):=⟨@ajo⟩
def Pj:Nat->(List aS)->Int->Int->Option (Int×(List aS))
 |0,_,_,_=>none
 |m59+1,Kr,zF,uh=>if (decide ((uh:Int)<(Kr.length:Int)))then (
     (ix Kr uh).bind fun x70=>
     (some (Kr.set (uh).toNat {x70 with ag:={x70.ag with Method:=zF}})).bind fun z74=>
     (ix z74 uh).bind fun Kt=>
     (vT Kt.ag.Values (IntKind.i64.wrap (zF+1))).bind fun r84=>
     (some (z74.set (uh).toNat {Kt with ag:={Kt.ag with Values:=r84.2}})).bind fun z87=>
     (ix z87 uh).bind fun x92=>
     (QN x92.Facts r84.1).bind fun Wq=>
     (some (z87.set (uh).toNat {x92 with Facts:=Wq.2})).bind fun U4=>
     (ix U4 uh).bind fun x105=>
     (some (U4.set (uh).toNat {x105 with At:=Wq.1})).bind fun z109=>
     Pj m59 z109 (IntKind.i64.wrap (Wq.1+1)) (IntKind.i64.wrap (uh+1)))
   else (
     some (zF,Kr))
def Yr(ae:List aS)(dL:Int):Option (Int×(List aS)):=
 Pj (((ae.length:Int)-0).toNat+2) ae dL 0
theorem aja{ae:List aS}{aA:Sv}{jb:List Nat}{dL:Int}{R:Int×(List aS)}(hF:Yr ae dL=some R):
   Fw.Spec Tryz.prog 145 [aA.v,(.int .i64 dL)] [ah (aa 201 g_) jb aA.v ae] (fun _:List Nat=>(.int .i64 R.1)) (fun p=>[ah (aa 201 g_) p aA.v R.2]):=by
 refine' en Tryz.func145 (Yr.eq_1 ..)
 refine' AZ (.mk (β:=(List aS)×Int×Int) (ι:=List Nat) (fun|(Kr,zF,uh),i1=>[(1,(.int .i64 zF)),(5,(.int .i64 uh))]) (fun|(Kr,zF,uh),i1=>[ah (aa 201 g_) i1 aA.v Kr]) [1,5] [aA.v]) [0]<;>rw[Pj]at hF<;>refine' go
 replace hF:=bind_some hF
 obtain⟨x70,Ob,hF⟩:=hF
 have aGw:=lX Ob
 obtain⟨aPg,ahc⟩:=kU Ob
 refine iJ jE.h jl.h.sz aU aU bQ aGw (fun k67 aGx=>?_)
 refine' go
 replace hF:=bind_some hF
 obtain⟨z74,U5,hF⟩:=hF
 replace U5:=aQ0 U5
 rename_i zF uh _ _ _
 refine' Cy (wZ (Ro:=g_) (i:=uh) gP.h.sz rfl aU aU aGx ahc rfl rfl axp (ayq (d:=zF))) (fun _=>?_)
 rw[U5]
 refine' go
 replace hF:=bind_some hF
 obtain⟨Kt,Oa,hF⟩:=hF
 have aGy:=lX Oa
 obtain⟨aPh,aqn⟩:=kU Oa
 refine iJ jE.h jl.h.sz aU aU bQ aGy (fun k76 aGz=>?_)
 refine' go
 refine CB ry.h aU l6 aGz aqn am2 (fun w83=>?_)
 refine' go
 replace hF:=bind_some hF
 obtain⟨r84,abz,hF⟩:=hF
 replace hF:=bind_some hF
 obtain⟨z87,JX,hF⟩:=hF
 replace JX:=aQ0 JX
 refine' Cy (CE aqn am2 (fun Fw=>cK uN (.cons aU (.cons aU .nil)) (@Bj Kt.ag.Values w83 Fw (IntKind.i64.wrap (zF+1)) _ abz)) rfl) (fun p86=>?_)
 rw[JX]
 refine' go
 replace hF:=bind_some hF
 obtain⟨x92,hx93,hF⟩:=hF
 have aGA:=lX hx93
 obtain⟨aPi,hx95⟩:=kU hx93
 refine iJ jE.h jl.h.sz aU aU bQ aGA (fun rR aGB=>?_)
 refine' go
 refine CB abt.h aU l6 aGB hx95 am3 (fun w96=>?_)
 refine' go
 replace hF:=bind_some hF
 obtain⟨Wq,hx98,hF⟩:=hF
 replace hF:=bind_some hF
 obtain⟨U4,hx101,hF⟩:=hF
 replace hx101:=aQ0 hx101
 refine' Cy (CE hx95 am3 (fun Fw=>cK uN (.cons aU (.cons aU .nil)) (@acS x92.Facts w96 Fw r84.1 _ hx98)) rfl) (fun p99=>?_)
 rw[hx101]
 refine' go
 replace hF:=bind_some hF
 obtain⟨x105,aoK,hF⟩:=hF
 have aDb:=lX aoK
 obtain⟨aNl,aDc⟩:=kU aoK
 refine iJ jE.h jl.h.sz aU aU bQ aDb (fun aGC afU=>?_)
 refine' go
 replace hF:=bind_some hF
 obtain⟨z109,afV,hF⟩:=hF
 replace afV:=aQ0 afV
 refine' Cy (wZ (Ro:=g_) (i:=uh) gP.h.sz rfl aU aU afU aDc rfl rfl axq (ayr (d:=Wq.1))) (fun _=>?_)
 rw[afV]
 refine' go
instance:dz Tryz.prog 145 (type_of% @aja):=⟨@aja⟩
def QO(ae:Cache)(dL:Int):Option (Int×Cache):=
 (Yr ae.Entries dL).bind fun r2=>
 some (r2.1,({Entries:=r2.2,Age:=ae.Age}:Cache))
theorem ajF{ae:Cache}{aA:Sv}{jb:List Nat}{dL:Int}{R:Int×Cache}(hF:QO ae dL=some R):
   Fw.Spec Tryz.prog 54 [(.agg [aA.v,(.int .i64 ae.Age)].toArray),(.int .i64 dL)] [ah (aa 201 g_) jb aA.v ae.Entries] (fun _:List Nat=>(.int .i64 R.1)) (fun p=>[ah (aa 201 g_) p aA.v R.2.Entries]):=by
 refine' en Tryz.func54 (QO.eq_1 ..)
instance:dz Tryz.prog 54 (type_of% @ajF):=⟨@ajF⟩
def Pk:Nat->(List ag)->Int->Int->Option (Int×(List ag))
 |0,_,_,_=>none
 |Wo+1,mD,ig,gD=>if (decide ((gD:Int)<(mD.length:Int)))then (
     (ix mD gD).bind fun Ba=>
     (some (mD.set (gD).toNat {Ba with Method:=ig})).bind fun z52=>
     (ix z52 gD).bind fun pG=>
     (vT pG.Values (IntKind.i64.wrap (ig+1))).bind fun wP=>
     (some (z52.set (gD).toNat {pG with Values:=wP.2})).bind fun z65=>
     Pk Wo z65 wP.1 (IntKind.i64.wrap (gD+1)))
   else (
     some (ig,mD))
def Yt(ae:List ag)(dL:Int):Option (Int×(List ag)):=
 Pk (((ae.length:Int)-0).toNat+2) ae dL 0
theorem ajb{ae:List ag}{aA:Sv}{jb:List Nat}{dL:Int}{R:Int×(List ag)}(hF:Yt ae dL=some R):
   Fw.Spec Tryz.prog 55 [aA.v,(.int .i64 dL)] [ah (aa 85 ji) jb aA.v ae] (fun _:List Nat=>(.int .i64 R.1)) (fun p=>[ah (aa 85 ji) p aA.v R.2]):=by
 refine' en Tryz.func55 (Yt.eq_1 ..)
 refine' AZ (.mk (β:=(List ag)×Int×Int) (ι:=List Nat) (fun|(mD,ig,gD),i1=>[(1,(.int .i64 ig)),(5,(.int .i64 gD))]) (fun|(mD,ig,gD),i1=>[ah (aa 85 ji) i1 aA.v mD]) [1,5] [aA.v]) [0]<;>rw[Pk]at hF<;>refine' go
 replace hF:=bind_some hF
 obtain⟨Ba,xI,hF⟩:=hF
 have U2:=lX xI
 obtain⟨aqm,JV⟩:=kU xI
 refine iJ uD.h nD.h.sz aU aU bQ U2 (fun k45 U3=>?_)
 refine' go
 replace hF:=bind_some hF
 obtain⟨z52,yV,hF⟩:=hF
 replace yV:=aQ0 yV
 rename_i ig gD _ _ _
 refine' Cy (wZ (Ro:=ji) (i:=gD) gP.h.sz rfl aU aU U3 JV rfl rfl ays (azJ (d:=ig))) (fun _=>?_)
 rw[yV]
 refine' go
 replace hF:=bind_some hF
 obtain⟨pG,yU,hF⟩:=hF
 have JS:=lX yU
 obtain⟨ag',xJ⟩:=kU yU
 refine iJ uD.h nD.h.sz aU aU bQ JS (fun k54 JU=>?_)
 refine' go
 refine CB ry.h aU l6 JU xJ anA (fun Wp=>?_)
 refine' go
 replace hF:=bind_some hF
 obtain⟨wP,JW,hF⟩:=hF
 replace hF:=bind_some hF
 obtain⟨z65,yX,hF⟩:=hF
 replace yX:=aQ0 yX
 refine' Cy (CE xJ anA (fun Fw=>cK uN (.cons aU (.cons aU .nil)) (@Bj pG.Values Wp Fw (IntKind.i64.wrap (ig+1)) _ JW)) rfl) (fun p64=>?_)
 rw[yX]
 refine' go
instance:dz Tryz.prog 55 (type_of% @ajb):=⟨@ajb⟩
def PM:Nat->(List (List Int))->Int->Int->Option (Int×(List (List Int)))
 |0,_,_,_=>none
 |m28+1,c24,sQ,jA=>if (decide ((jA:Int)<(c24.length:Int)))then (
     (ix c24 jA).bind fun x39=>
     (vT x39 sQ).bind fun pI=>
     (some (c24.set (jA).toNat pI.2)).bind fun z47=>
     PM m28 z47 pI.1 (IntKind.i64.wrap (jA+1)))
   else (
     some (sQ,c24))
def Ze(ae:List (List Int))(dL:Int):Option (Int×(List (List Int))):=
 PM (((ae.length:Int)-0).toNat+2) ae dL 0
theorem acT{ae:List (List Int)}{aA:Sv}{jb:List Nat}{dL:Int}{R:Int×(List (List Int))}(hF:Ze ae dL=some R):
   Fw.Spec Tryz.prog 146 [aA.v,(.int .i64 dL)] [ah (aa 22 (aa 3 (az ax))) jb aA.v ae] (fun _:List Nat=>(.int .i64 R.1)) (fun p=>[ah (aa 22 (aa 3 (az ax))) p aA.v R.2]):=by
 refine' en Tryz.func146 (Ze.eq_1 ..)
 refine' AZ (.mk (β:=(List (List Int))×Int×Int) (ι:=List Nat) (fun|(c24,sQ,jA),i1=>[(1,(.int .i64 sQ)),(5,(.int .i64 jA))]) (fun|(c24,sQ,jA),i1=>[ah (aa 22 (aa 3 (az ax))) i1 aA.v c24]) [1,5] [aA.v]) [0]<;>rw[PM]at hF<;>refine' go
 replace hF:=bind_some hF
 obtain⟨x39,U6,hF⟩:=hF
 have ahd:=lX U6
 obtain⟨aGD,JY⟩:=kU U6
 refine iJ mM.h lw.h.sz aU aU bQ ahd (fun ek ahe=>?_)
 refine' go
 refine CB ry.h aU l6 ahe JY anC (fun w43=>?_)
 refine' go
 replace hF:=bind_some hF
 obtain⟨pI,U7,hF⟩:=hF
 replace hF:=bind_some hF
 obtain⟨z47,DD,hF⟩:=hF
 replace DD:=aQ0 DD
 rename_i sQ _ _ _ _
 refine' Cy (CE JY anC (fun Fw=>cK uN (.cons aU (.cons aU .nil)) (@Bj x39 w43 Fw sQ _ U7)) rfl) (fun p46=>?_)
 rw[DD]
 refine' go
instance:dz Tryz.prog 146 (type_of% @acT):=⟨@acT⟩
def Pw:Nat->(List (List (List Int)))->Int->Int->Option (Int×(List (List (List Int))))
 |0,_,_,_=>none
 |m28+1,c24,sQ,jA=>if (decide ((jA:Int)<(c24.length:Int)))then (
     (ix c24 jA).bind fun x39=>
     (Ze x39 sQ).bind fun pI=>
     (some (c24.set (jA).toNat pI.2)).bind fun z47=>
     Pw m28 z47 pI.1 (IntKind.i64.wrap (jA+1)))
   else (
     some (sQ,c24))
def YR(ae:List (List (List Int)))(dL:Int):Option (Int×(List (List (List Int)))):=
 Pw (((ae.length:Int)-0).toNat+2) ae dL 0
theorem ajp{ae:List (List (List Int))}{aA:Sv}{jb:List Nat}{dL:Int}{R:Int×(List (List (List Int)))}(hF:YR ae dL=some R):
   Fw.Spec Tryz.prog 56 [aA.v,(.int .i64 dL)] [ah (aa 79 (aa 22 (aa 3 (az ax)))) jb aA.v ae] (fun _:List Nat=>(.int .i64 R.1)) (fun p=>[ah (aa 79 (aa 22 (aa 3 (az ax)))) p aA.v R.2]):=by
 refine' en Tryz.func56 (YR.eq_1 ..)
 refine' AZ (.mk (β:=(List (List (List Int)))×Int×Int) (ι:=List Nat) (fun|(c24,sQ,jA),i1=>[(1,(.int .i64 sQ)),(5,(.int .i64 jA))]) (fun|(c24,sQ,jA),i1=>[ah (aa 79 (aa 22 (aa 3 (az ax)))) i1 aA.v c24]) [1,5] [aA.v]) [0]<;>rw[Pw]at hF<;>refine' go
 replace hF:=bind_some hF
 obtain⟨x39,U6,hF⟩:=hF
 have ahd:=lX U6
 obtain⟨aGD,JY⟩:=kU U6
 refine iJ Aw.h xG.h.sz aU aU bQ ahd (fun ek ahe=>?_)
 refine' go
 refine CB abp.h aU l6 ahe JY anB (fun w43=>?_)
 refine' go
 replace hF:=bind_some hF
 obtain⟨pI,U7,hF⟩:=hF
 replace hF:=bind_some hF
 obtain⟨z47,DD,hF⟩:=hF
 replace DD:=aQ0 DD
 rename_i sQ _ _ _ _
 refine' Cy (CE JY anB (fun Fw=>cK uN (.cons aU (.cons aU .nil)) (@acT x39 w43 Fw sQ _ U7)) rfl) (fun p46=>?_)
 rw[DD]
 refine' go
instance:dz Tryz.prog 56 (type_of% @ajp):=⟨@ajp⟩
def Lj(ae:bU)(dL:Int):Option (Int×bU):=
 (vT ae.bA dL).bind fun r2=>
 (Yq ae.Methods r2.1).bind fun r5=>
 (Zd ae.bV r5.1).bind fun r8=>
 (Qo ae.Source r8.1).bind fun nT=>
 (QO ae.Cache nT.1).bind fun iG=>
 (Yt ae.bD iG.1).bind fun fC=>
 (vT ae.dh fC.1).bind fun kR=>
 (YR ae.bX kR.1).bind fun jy=>
 some (jy.1,({bA:=r2.2,Methods:=r5.2,bV:=r8.2,Source:=({Facts:=nT.2.Facts,Version:=ae.Source.Version}:Source),Cache:=({Entries:=iG.2.Entries,Age:=ae.Cache.Age}:Cache),Now:=ae.Now,bD:=fC.2,dh:=kR.2,bI:=ae.bI,bX:=jy.2}:bU))
theorem XW{ae:bU}{aA:Sv}{jb:List Nat}{bB:Sv}{Oc:List Nat}{eG:Sv}{yY:List Nat}{f_:Sv}{AA:List Nat}{iL:Sv}{aGE:List Nat}{jq:Sv}{aGF:List Nat}{jr:Sv}{aGG:List Nat}{iX:Sv}{aDd:List Nat}{dL:Int}{R:Int×bU}(hF:Lj ae dL=some R):
   Fw.Spec Tryz.prog 12 [(.agg [aA.v,bB.v,eG.v,f_.v,(.int .i64 ae.Source.Version),iL.v,(.int .i64 ae.Cache.Age),(.int .i64 ae.Now),jq.v,jr.v,(.int .i64 ae.bI),iX.v].toArray),(.int .i64 dL)] [ah (aa 3 (az ax)) jb aA.v ae.bA,ah (aa 127 iT) Oc bB.v ae.Methods,ah (aa 129 jX) yY eG.v ae.bV,ah (aa 164 dV) AA f_.v ae.Source.Facts,ah (aa 201 g_) aGE iL.v ae.Cache.Entries,ah (aa 85 ji) aGF jq.v ae.bD,ah (aa 3 (az ax)) aGG jr.v ae.dh,ah (aa 79 (aa 22 (aa 3 (az ax)))) aDd iX.v ae.bX] (fun _:List Nat×List Nat×List Nat×List Nat×List Nat×List Nat×List Nat×List Nat=>(.int .i64 R.1)) (fun p=>[ah (aa 3 (az ax)) p.1 aA.v R.2.bA,ah (aa 127 iT) p.2.1 bB.v R.2.Methods,ah (aa 129 jX) p.2.2.1 eG.v R.2.bV,ah (aa 164 dV) p.2.2.2.1 f_.v R.2.Source.Facts,ah (aa 201 g_) p.2.2.2.2.1 iL.v R.2.Cache.Entries,ah (aa 85 ji) p.2.2.2.2.2.1 jq.v R.2.bD,ah (aa 3 (az ax)) p.2.2.2.2.2.2.1 jr.v R.2.dh,ah (aa 79 (aa 22 (aa 3 (az ax)))) p.2.2.2.2.2.2.2 iX.v R.2.bX]):=by
 refine' en Tryz.func12 (Lj.eq_1 ..)
instance:dz Tryz.prog 12 (type_of% @XW):=⟨@XW⟩
def PN:Nat->(List aJ)->Int->Int->Option (Int×(List aJ))
 |0,_,_,_=>none
 |Wo+1,mD,ig,gD=>if (decide ((gD:Int)<(mD.length:Int)))then (
     (ix mD gD).bind fun Ba=>
     (some (mD.set (gD).toNat {Ba with aD:=ig})).bind fun z52=>
     (ix z52 gD).bind fun pG=>
     (vT pG.Terms (IntKind.i64.wrap (ig+1))).bind fun wP=>
     (some (z52.set (gD).toNat {pG with Terms:=wP.2})).bind fun z65=>
     PN Wo z65 wP.1 (IntKind.i64.wrap (gD+1)))
   else (
     some (ig,mD))
def Zf(ae:List aJ)(dL:Int):Option (Int×(List aJ)):=
 PN (((ae.length:Int)-0).toNat+2) ae dL 0
theorem ajG{ae:List aJ}{aA:Sv}{jb:List Nat}{dL:Int}{R:Int×(List aJ)}(hF:Zf ae dL=some R):
   Fw.Spec Tryz.prog 57 [aA.v,(.int .i64 dL)] [ah (aa 138 jZ) jb aA.v ae] (fun _:List Nat=>(.int .i64 R.1)) (fun p=>[ah (aa 138 jZ) p aA.v R.2]):=by
 refine' en Tryz.func57 (Zf.eq_1 ..)
 refine' AZ (.mk (β:=(List aJ)×Int×Int) (ι:=List Nat) (fun|(mD,ig,gD),i1=>[(1,(.int .i64 ig)),(5,(.int .i64 gD))]) (fun|(mD,ig,gD),i1=>[ah (aa 138 jZ) i1 aA.v mD]) [1,5] [aA.v]) [0]<;>rw[PN]at hF<;>refine' go
 replace hF:=bind_some hF
 obtain⟨Ba,xI,hF⟩:=hF
 have U2:=lX xI
 obtain⟨aqm,JV⟩:=kU xI
 refine iJ agV.h zZ.h.sz aU aU bQ U2 (fun k45 U3=>?_)
 refine' go
 replace hF:=bind_some hF
 obtain⟨z52,yV,hF⟩:=hF
 replace yV:=aQ0 yV
 rename_i ig gD _ _ _
 refine' Cy (wZ (Ro:=jZ) (i:=gD) gP.h.sz rfl aU aU U3 JV rfl rfl axr (ayt (d:=ig))) (fun _=>?_)
 rw[yV]
 refine' go
 replace hF:=bind_some hF
 obtain⟨pG,yU,hF⟩:=hF
 have JS:=lX yU
 obtain⟨ag',xJ⟩:=kU yU
 refine iJ agV.h zZ.h.sz aU aU bQ JS (fun k54 JU=>?_)
 refine' go
 refine CB ry.h aU l6 JU xJ am4 (fun Wp=>?_)
 refine' go
 replace hF:=bind_some hF
 obtain⟨wP,JW,hF⟩:=hF
 replace hF:=bind_some hF
 obtain⟨z65,yX,hF⟩:=hF
 replace yX:=aQ0 yX
 refine' Cy (CE xJ am4 (fun Fw=>cK uN (.cons aU (.cons aU .nil)) (@Bj pG.Terms Wp Fw (IntKind.i64.wrap (ig+1)) _ JW)) rfl) (fun p64=>?_)
 rw[yX]
 refine' go
instance:dz Tryz.prog 57 (type_of% @ajG):=⟨@ajG⟩
def QP(ae:Query)(dL:Int):Option (Int×Query):=
 (vT ae.a_ dL).bind fun r2=>
 (Zf ae.aL r2.1).bind fun r5=>
 some (r5.1,({a_:=r2.2,aL:=r5.2}:Query))
theorem acU{ae:Query}{aA:Sv}{jb:List Nat}{bB:Sv}{Oc:List Nat}{dL:Int}{R:Int×Query}(hF:QP ae dL=some R):
   Fw.Spec Tryz.prog 13 [(.agg [aA.v,bB.v].toArray),(.int .i64 dL)] [ah (aa 3 (az ax)) jb aA.v ae.a_,ah (aa 138 jZ) Oc bB.v ae.aL] (fun _:List Nat×List Nat=>(.int .i64 R.1)) (fun p=>[ah (aa 3 (az ax)) p.1 aA.v R.2.a_,ah (aa 138 jZ) p.2 bB.v R.2.aL]):=by
 refine' en Tryz.func13 (QP.eq_1 ..)
instance:dz Tryz.prog 13 (type_of% @acU):=⟨@acU⟩
def Yu:List Int->Nat->Int->Option (Int)
 |[],k5,c1=>some c1
 |x7::fM,k5,c1=>if ((x7:Int)!=c1)then (
     some (-1))
   else (
     Yu fM (k5+1) (IntKind.i64.wrap (c1+1)))
def yj(ae:List Int)(dL:Int):Option (Int):=
 Yu ae 0 dL
instance aJw:I2 58 t0 t1 u0 yj:=⟨by
 intro _ _ _ _ hF
 refine' en Tryz.func58 (yj.eq_1 ..)
 refine' ed (q1 1 tI) 5 [0]<;>rw[Yu]at hF<;>refine' go⟩
def XX:List Method->Nat->Int->Option (Int)
 |[],k5,c1=>some c1
 |x7::fM,k5,c1=>if ((x7.aD:Int)!=c1)then (
     some (-1))
   else (
     (yj x7.bg (IntKind.i64.wrap (c1+1))).bind fun eU=>
     if (decide ((eU:Int)<0))then (
       some (-1))
     else (
       if ((x7.Limit:Int)!=eU)then (
         some (-1))
       else (
         if ((x7.bK:Int)!=(IntKind.i64.wrap (eU+1)))then (
           some (-1))
         else (
           if ((x7.gW:Int)!=(IntKind.i64.wrap ((IntKind.i64.wrap (eU+1))+1)))then (
             some (-1))
           else (
             XX fM (k5+1) (IntKind.i64.wrap ((IntKind.i64.wrap ((IntKind.i64.wrap (eU+1))+1))+1)))))))
def Yv(ae:List Method)(dL:Int):Option (Int):=
 XX ae 0 dL
instance aIC:I2 59 t26 t1 u0 Yv:=⟨by
 intro _ _ _ _ hF
 refine' en Tryz.func59 (Yv.eq_1 ..)
 refine' ed (q1 1 tI) 5 [0]<;>rw[XX]at hF<;>refine' go⟩
def Yh:List bO->Nat->Int->Option (Int)
 |[],k5,c1=>some c1
 |x7::fM,k5,c1=>if ((x7.From:Int)!=c1)then (
     some (-1))
   else (
     if ((x7.To:Int)!=(IntKind.i64.wrap (c1+1)))then (
       some (-1))
     else (
       (yj x7.Map (IntKind.i64.wrap ((IntKind.i64.wrap (c1+1))+1))).bind fun eX=>
       if (decide ((eX:Int)<0))then (
         some (-1))
       else (
         Yh fM (k5+1) eX)))
def Zg(ae:List bO)(dL:Int):Option (Int):=
 Yh ae 0 dL
instance aI_:I2 60 t27 t1 u0 Zg:=⟨by
 intro _ _ _ _ hF
 refine' en Tryz.func60 (Zg.eq_1 ..)
 refine' ed (q1 1 tI) 5 [0]<;>rw[Yh]at hF<;>refine' go⟩
def Yi:List aj->Nat->Int->Option (Int)
 |[],k5,c1=>some c1
 |x7::fM,k5,c1=>if ((x7.aD:Int)!=c1)then (
     some (-1))
   else (
     (yj x7.Values (IntKind.i64.wrap (c1+1))).bind fun eU=>
     if (decide ((eU:Int)<0))then (
       some (-1))
     else (
       Yi fM (k5+1) eU))
def QQ(ae:List aj)(dL:Int):Option (Int):=
 Yi ae 0 dL
instance aI':I2 147 t20 t1 u0 QQ:=⟨by
 intro _ _ _ _ hF
 refine' en Tryz.func147 (QQ.eq_1 ..)
 refine' ed (q1 1 tI) 5 [0]<;>rw[Yi]at hF<;>refine' go⟩
def Qp(ae:Source)(dL:Int):Option (Int):=
 (QQ ae.Facts dL).bind fun r2=>
 if (decide ((r2:Int)<0))then (
   some (-1))
 else (
   some r2)
instance aIO:I2 61 t21 t1 u0 Qp:=⟨by
 intro _ _ _ _ hF
 refine' en Tryz.func61 (Qp.eq_1 ..)⟩
def XY:List aS->Nat->Int->Option (Int)
 |[],k5,c1=>some c1
 |x7::fM,k5,c1=>if ((x7.ag.Method:Int)!=c1)then (
     some (-1))
   else (
     (yj x7.ag.Values (IntKind.i64.wrap (c1+1))).bind fun eU=>
     if (decide ((eU:Int)<0))then (
       some (-1))
     else (
       (QQ x7.Facts eU).bind fun iA=>
       if (decide ((iA:Int)<0))then (
         some (-1))
       else (
         if ((x7.At:Int)!=iA)then (
           some (-1))
         else (
           XY fM (k5+1) (IntKind.i64.wrap (iA+1))))))
def Yw(ae:List aS)(dL:Int):Option (Int):=
 XY ae 0 dL
instance aID:I2 148 t48 t1 u0 Yw:=⟨by
 intro _ _ _ _ hF
 refine' en Tryz.func148 (Yw.eq_1 ..)
 refine' ed (q1 1 tI) 5 [0]<;>rw[XY]at hF<;>refine' go⟩
def QR(ae:Cache)(dL:Int):Option (Int):=
 (Yw ae.Entries dL).bind fun r2=>
 if (decide ((r2:Int)<0))then (
   some (-1))
 else (
   some r2)
instance aJa:I2 62 t23 t1 u0 QR:=⟨by
 intro _ _ _ _ hF
 refine' en Tryz.func62 (QR.eq_1 ..)⟩
def XZ:List ag->Nat->Int->Option (Int)
 |[],k5,c1=>some c1
 |x7::fM,k5,c1=>if ((x7.Method:Int)!=c1)then (
     some (-1))
   else (
     (yj x7.Values (IntKind.i64.wrap (c1+1))).bind fun eU=>
     if (decide ((eU:Int)<0))then (
       some (-1))
     else (
       XZ fM (k5+1) eU))
def Yx(ae:List ag)(dL:Int):Option (Int):=
 XZ ae 0 dL
instance aIE:I2 63 t24 t1 u0 Yx:=⟨by
 intro _ _ _ _ hF
 refine' en Tryz.func63 (Yx.eq_1 ..)
 refine' ed (q1 1 tI) 5 [0]<;>rw[XZ]at hF<;>refine' go⟩
def Yj:List (List Int)->Nat->Int->Option (Int)
 |[],k5,c1=>some c1
 |x7::fM,k5,c1=>(yj x7 c1).bind fun fC=>
   if (decide ((fC:Int)<0))then (
     some (-1))
   else (
     Yj fM (k5+1) fC)
def Zh(ae:List (List Int))(dL:Int):Option (Int):=
 Yj ae 0 dL
instance aJb:I2 149 A8 t1 u0 Zh:=⟨by
 intro _ _ _ _ hF
 refine' en Tryz.func149 (Zh.eq_1 ..)
 refine' ed (q1 1 tI) 5 [0]<;>rw[Yj]at hF<;>refine' go⟩
def X6:List (List (List Int))->Nat->Int->Option (Int)
 |[],k5,c1=>some c1
 |x7::fM,k5,c1=>(Zh x7 c1).bind fun fC=>
   if (decide ((fC:Int)<0))then (
     some (-1))
   else (
     X6 fM (k5+1) fC)
def YS(ae:List (List (List Int)))(dL:Int):Option (Int):=
 X6 ae 0 dL
instance aIP:I2 64 Wl t1 u0 YS:=⟨by
 intro _ _ _ _ hF
 refine' en Tryz.func64 (YS.eq_1 ..)
 refine' ed (q1 1 tI) 5 [0]<;>rw[X6]at hF<;>refine' go⟩
def Hf(ae:bU)(dL:Int):Option (Int):=
 (yj ae.bA dL).bind fun r2=>
 if (decide ((r2:Int)<0))then (
   some (-1))
 else (
   (Yv ae.Methods r2).bind fun r5=>
   if (decide ((r5:Int)<0))then (
     some (-1))
   else (
     (Zg ae.bV r5).bind fun r8=>
     if (decide ((r8:Int)<0))then (
       some (-1))
     else (
       (Qp ae.Source r8).bind fun nT=>
       if (decide ((nT:Int)<0))then (
         some (-1))
       else (
         (QR ae.Cache nT).bind fun iG=>
         if (decide ((iG:Int)<0))then (
           some (-1))
         else (
           (Yx ae.bD iG).bind fun fC=>
           if (decide ((fC:Int)<0))then (
             some (-1))
           else (
             (yj ae.dh fC).bind fun kR=>
             if (decide ((kR:Int)<0))then (
               some (-1))
             else (
               (YS ae.bX kR).bind fun jy=>
               if (decide ((jy:Int)<0))then (
                 some (-1))
               else (
                 some jy))))))))
instance ai3:I2 14 t25 t1 u0 Hf:=⟨by
 intro _ _ _ _ _ _ _ _ _ _ _ hF
 refine' en Tryz.func14 (Hf.eq_1 ..)⟩
end Go.Proofs.YtlnefhbbbikmgabGreat
