/-
  Functions of the program as Lean functions, and that the calls return what these say: part 2. No conditions.
-/
import Derived.Shelf.Sort.Plain
import Derived.Shelf.Slices.In.SortNone
import Derived.Shelf.Slices.CompactI
import Derived.Shelf.Strings.OnBuilder
import Derived.Shelf.Strconv.Itoa3
import Derived.Test.YtdmapdjncfkhhaaGreatDoorWhyLineG0
import Derived.KernelRfl
set_option maxRecDepth 100000
set_option maxHeartbeats 1000000
set_option linter.unusedVariables false
namespace Go.Proofs.YtdmapdjncfkhhaaGreatDoor
open Go Go.Fw

def Eh(o_:(List Fact)×aS×Bool):List Fact->Nat->(List Fact)->Option ((List Fact)×aS×Bool)
 |[],Aa,Gu=>some (Gu,o_.2.1,o_.2.2)
 |Oi::Bq,Aa,Gu=>(if (decide ((Oi.Rel:Int)<3))then (
       (app Gu ([Oi]:List Fact)).bind fun alV=>
       some alV)
     else (
       some Gu)).bind fun ad1=>
   match ad1 with
   |Um=>Eh o_ Bq (Aa+1) Um
def AO(r4:aV)(fuel:Nat):List Int->Nat->(List Atom)->Option ((List Fact)×aS×Bool)
 |[],CU,vW=>(IB fuel (⟨r4.Head,vW⟩:aV)).bind fun o_=>
   Eh o_ o_.1 0 ([]:List Fact)
 |Oj::Br,CU,vW=>(app vW ([(⟨3,([Oj]:List Int)⟩:Atom)]:List Atom)).bind fun z213=>
   AO r4 fuel Br (CU+1) z213
def Qg(fuel:Nat)(kK:aV)(ak:aV):Option ((List Fact)×aS×Bool):=
 (QR kK).bind fun r4=>
 (Eg ak).bind fun r8=>
 AO r4 fuel r8 0 r4.Atoms
theorem ao_{fuel:Nat}{kK:aV}{aa aM:Sv}{ak:aV}{aA aW:Sv}{R:(List Fact)×aS×Bool}(hF:Qg fuel kK ak=some R):
   Fw.Spec Tryz.prog 155 [(zg [aa.v,aM.v]),(zg [aA.v,aW.v])] [ag aa kK.Head,bZ aM kK.Atoms,ag aA ak.Head,bZ aW ak.Atoms] (fun p:Sv×List Nat×Sv×List Nat×Sv×List Nat=>(.tuple [p.1.v,(zg [p.2.2.1.v,p.2.2.2.2.1.v]),(.bool R.2.2)].toArray)) (fun p=>[acD p.2.1 p.1 R.1,a_ p.2.2.2.1 p.2.2.1 R.2.1.Vars,a_ p.2.2.2.2.2 p.2.2.2.2.1 R.2.1.Values]):=by
 refine Se 65 Tryz.func155 [.tmp 4,.cell 5 136,.tmp 6] ?_
 intro H0 F0
 unfold Qg at hF
 refine au ?_
 refine bM (fun k1=>?_)
 refine bM (fun k2=>?_)
 refine au ?_
 refine dJ (fun k3=>?_)
 refine aP ?_
 refine bnd hF fun r4 hx5 hF=>Af (aqn hx5) (fun p6=>?_)
 refine dJ (fun k7=>?_)
 refine As (zg [p6.1.v,p6.2.2.1.v]) ?_
 refine bC ?_
 refine bnd hF fun r8 dF hF=>fq (V3 dF) (fun ny=>?_)
 refine bu ?_
 refine aY (jM .h bq ?_)
 refine bK (m:=r8.length) (fun alW f' cs'=>∃(g:Fr)(CU:Nat)(Br:List Int)(vW:List Atom)(Zn:Sv)(alX:List Nat),alW=Br.length/\f'=aN g [(5,(pz k3)),(7,(pz k7)),(8,ny.1.v),(9,(zi (CU:Int)))]/\List.drop CU r8=Br/\aK cs' [bS k3 136 (.agg ([(.slice none 0 0),(.slice none 0 0)]:List Value).toArray),bS k7 39 (zg [p6.1.v,Zn.v]),a_ p6.2.1 p6.1 r4.Head,uB alX Zn vW,ag ny.1 r8]/\AO r4 fuel Br CU vW=some R) ⟨_,0,_,_,p6.2.2.1,p6.2.2.2,rfl,ay,rfl,ax,hF⟩ ?_
 rintro alW _ _ ⟨aHl,CU,Br,vW,Zn,alX,rfl,rfl,akB,hE,hF⟩
 refine Kb hE r8 (fun aCS=>?_)
 rcases Br with _|⟨Oj,Br⟩
 · have ax8:=dn akB
   rw[AO]at hF
   refine bF ?_
   refine cO ?_
   refine bu ?_
   refine bnd hF fun o_ ax9 hF=>adt (.cons .q3 (.cons .q2 .nil)) (jy (pre:=[]) (.cons bq (.cons bq .nil)) (fun _=>(.cons (.cons (.cons .nil)))) (bU azX.h bN (aas ax9))) (fun kW=>?_)
   refine au ?_
   refine zx ?_
   refine zx ?_
   refine zx ?_
   refine dJ (fun Ol=>?_)
   refine au ?_
   refine As (zg [kW.2.2.1.v,kW.2.2.2.2.1.v]) ?_
   refine bC ?_
   refine dx rfl (bV (g:=true) dX.h dA.h .nil (vs:=[]) rfl rfl rfl (by simp)) (fun alY=>?_)
   refine dH (.cons .h .nil) (bY (Ro:=(aj dW)) (E:=147) (F:=[]) (xs:=([]:List Fact)) bX rfl rfl) ?_
   refine bu ?_
   refine aY (jM .q4 bq ?_)
   refine bK (m:=o_.1.length) (fun alZ f' cs'=>∃(g:Fr)(Aa:Nat)(Bq Gu:List Fact)(Uo:Sv)(Zo:List Nat),alZ=Bq.length/\f'=aN g [(5,(pz k3)),(10,kW.1.v),(11,(pz Ol)),(12,(.bool o_.2.2)),(13,Uo.v),(14,(zi (Aa:Int)))]/\List.drop Aa o_.1=Bq/\aK cs' [bS k3 136 (.agg ([(.slice none 0 0),(.slice none 0 0)]:List Value).toArray),dD kW.1 o_.1,bS Ol 136 (zg [kW.2.2.1.v,kW.2.2.2.2.1.v]),a_ kW.2.2.2.1 kW.2.2.1 o_.2.1.Vars,a_ kW.2.2.2.2.2 kW.2.2.2.2.1 o_.2.1.Values,acD Zo Uo Gu]/\Eh o_ Bq Aa Gu=some R) ⟨_,0,_,_,⟨(some ⟨alY,0,none⟩),0,1⟩,(alY::[]),rfl,ay,rfl,ax,hF⟩ ?_
   rintro alZ _ _ ⟨aHm,Aa,Bq,Gu,Uo,Zo,rfl,rfl,akC,hE,hF⟩
   refine Kb hE o_.1 (fun aCT=>?_)
   rcases Bq with _|⟨Oi,Bq⟩
   · have ax_:=dn akC
     rw[Eh]at hF
     refine bF ?_
     refine cO ?_
     refine aP ?_
     refine dS [0,1,2,3,4,5] [0,0,0,1,11,31] [4] mixed (by decide+kernel) ?_
     refine du ?_
     refine ed rfl .no .q2 (fun ha hp=>jw jC.h dY.h.sz rfl (EN ha (.tmp rfl rfl) rfl) hp.2 rfl) ?_
     refine cB ?_
     refine df rfl rfl .no (.cons .h .nil) (.dep rfl .nil) (fun ha=>gF (e':=(zg [kW.2.2.1.v,kW.2.2.2.2.1.v])) (v:=(zg [kW.2.2.1.v,kW.2.2.2.2.1.v])) dY.h.sz (EN ha (.tmp rfl rfl) rfl) (EN ha (.tmp rfl rfl) rfl) rfl rfl rfl rfl rfl) (fun _=>?_)
     refine cB ?_
     refine au ?_
     cases hF
     exact gL (Uo,Zo,kW.2.2.1,kW.2.2.2.1,kW.2.2.2.2.1,kW.2.2.2.2.2) (.tmp rfl rfl (.cellA rfl rfl .h rfl jC.h dY.h.sz rfl rfl (.tmp rfl rfl .nil))) rfl (.sel (.cons .q5 (.cons .q3 (.cons .q3 .nil))))
   obtain⟨ax_,akD,ax'⟩:=bW akC
   rw[Eh]at hF
   refine bF ?_
   refine cK ?_
   refine au ?_
   obtain⟨ad1,aun,aya⟩:=bind_some hF
   refine fD (fun f' cs'=>∃(Um:List Fact)(Zp:Sv)(ad2:List Nat)(g:Fr),Um=ad1/\f'=aN g [(5,(pz k3)),(10,kW.1.v),(11,(pz Ol)),(12,(.bool o_.2.2)),(13,Zp.v),(14,(zi (Aa:Int)))]/\aK cs' [bS k3 136 (.agg ([(.slice none 0 0),(.slice none 0 0)]:List Value).toArray),dD kW.1 o_.1,bS Ol 136 (zg [kW.2.2.1.v,kW.2.2.2.2.1.v]),a_ kW.2.2.2.1 kW.2.2.1 o_.2.1.Vars,a_ kW.2.2.2.2.2 kW.2.2.2.2.1 o_.2.1.Values,acD ad2 Zp Um]) ?_ ?_
   · replace hF:=aun
     refine aY (cu (Cm kW.1.v rfl rfl ?_))
     refine au ?_
     refine Ai akD (fun aHn aHo=>?_)
     refine au ?_
     refine Al Jt ?_
     refine bg ?_
     refine Ci hF (fun ayb hF=>?_) (fun ayb hF=>?_)
     · refine aP ?_
       refine Ai akD (fun aHp aHq=>?_)
       refine iw (ky Oi) kL (fun Ue=>?_)
       refine dx rfl (bV (g:=true) dX.h dA.h bN (vs:=[(zg [(zi Oi.Rel),Ue.v])]) rfl rfl rfl (by intro v hv; simp at hv; rcases hv with rfl<;>rfl)) (fun aHr=>?_)
       refine dH (.cons .h (.rd .h rfl .nil)) (bY (Ro:=(aj dW)) (E:=147) (F:=([]++[])) (xs:=([Oi]:List Fact)) (eF awF bX dm) rfl rfl) ?_
       refine bnd hF fun alV ayc hF=>dU (.cons .q9 (.cons .h .nil)) (ek (Ro:=(aj dW)) dX.h CK dA.h rfl rfl rfl (.tmp rfl rfl) (.tmp rfl rfl) ayc fM) (fun al0=>?_)
       refine bg ?_
       cases hF
       exact⟨_,al0.1,al0.2,_,rfl,ay,ax⟩
     refine au ?_
     cases hF
     exact⟨_,Uo,Zo,_,rfl,ay,ax⟩
   rintro _ _ ⟨Um,Zp,ad2,aHs,rfl,rfl,hE⟩
   replace hF:=aya
   try dsimp only at hF
   refine bH hE ?_
   refine aX ?_
   rw[wk Aa]
   exact⟨_,bO _,_,Aa+1,Bq,_,Zp,ad2,rfl,ay,ax',ax,hF⟩
 obtain⟨ax8,acJ,X7⟩:=bW akB
 rw[AO]at hF
 refine bF ?_
 refine cK ?_
 refine bg ?_
 refine kM [0,1,2,3,4,5,6,7,8,9,10,11] [0,1,0,0,12,28,60,124,252,511,1023,2047] [9,11] mixed (by decide+kernel) ?_
 refine du ?_
 refine ed rfl .no (.t .h) (fun ha hp=>fI (v:=Zn.v) YY.h (EN ha (.tmp rfl rfl) rfl) hp.2 rfl rfl) ?_
 refine cB ?_
 refine Di acJ (fun aHt aHu=>?_)
 refine Dl dG ?_
 refine iq rfl .no rfl (fun ha=>bV (g:=true) (len:=1) (parts:=[(0,.tmp 30)]) cz.h cZ.h (.cons (EN ha (.tmp rfl rfl) rfl) .nil) (vs:=[(zi Oj)]) rfl rfl rfl (by intro v hv; simp at hv; rcases hv with rfl<;>rfl)) (fun Gs=>?_)
 refine jF (.cons .h .nil) (bY (Ro:=(aj aH)) (E:=3) (F:=([]++[])) (xs:=([Oj]:List Int)) (eF (jd (fun _=>rfl)) bX dm) rfl rfl) ?_
 refine bQ rfl .no (fun ha=>gy qa.h rfl (vs:=[(zi 3),(.slice (some ⟨Gs,0,none⟩) 1 1)]) (.cons (EN ha (.int _ _) rfl) (.cons (EN ha (.tmp rfl rfl) rfl) .nil)) (cells:=[(zi 3),(.slice (some ⟨Gs,0,none⟩) 1 1)]) rfl) ?_
 refine iq rfl .no rfl (fun ha=>bV (g:=true) (len:=1) (parts:=[(0,.tmp 32)]) xe.h qa.h (.cons (EN ha (.tmp rfl rfl) rfl) .nil) (vs:=[(zg [(zi 3),(.slice (some ⟨Gs,0,none⟩) 1 1)])]) rfl rfl rfl (by intro v hv; simp at hv; rcases hv with rfl<;>rfl)) (fun aHv=>?_)
 refine jF (.cons .h (.cons .h .nil)) (bY (Ro:=lK) (E:=123) (F:=((Gs::([]++[]))++[])) (xs:=([(⟨3,([Oj]:List Int)⟩:Atom)]:List Atom)) (eF (RL (v0:=⟨(some ⟨Gs,0,none⟩),1,1⟩) (a:=(⟨3,([Oj]:List Int)⟩:Atom))) bX dm) rfl rfl) ?_
 refine bnd hF fun z213 ayd hF=>df rfl rfl .no (.cons .q5 (.cons .h .nil)) (.dep rfl (.dep rfl (.dep rfl .nil))) (fun ha=>ek (Ro:=lK) xe.h Y0 qa.h rfl rfl rfl (EN ha (.tmp rfl rfl) rfl) (EN ha (.tmp rfl rfl) rfl) ayd fM) (fun ad3=>?_)
 refine du ?_
 refine df rfl rfl .no (.cons .q3 .nil) (.dep rfl (.dep rfl (.dep rfl .nil))) (fun ha=>gF (e':=(zg [p6.1.v,ad3.1.v])) YX.h.sz (EN ha (.tmp rfl rfl) rfl) (EN ha (.tmp rfl rfl) rfl) rfl rfl rfl rfl rfl) (fun _=>?_)
 refine du ?_
 refine aX ?_
 rw[wk CU]
 exact⟨_,bO _,_,CU+1,Br,_,ad3.1,ad3.2,rfl,ay,X7,ax,hF⟩
def Eu(aL:aS):List Int->Nat->(List Int)->Option ((List Int))
 |[],k10,c4=>some c4
 |tT::oC,k10,c4=>(AX aL tT).bind fun jr=>
   (app c4 ([jr]:List Int)).bind fun z25=>
   Eu aL oC (k10+1) z25
def ET(ak:aV)(aL:aS):Option ((List Int)):=
 Eu aL ak.Head 0 ([]:List Int)
theorem Wu{ak:aV}{aa aM:Sv}{aL:aS}{aA aW:Sv}{R:(List Int)}(hF:ET ak aL=some R):
   Fw.Spec Tryz.prog 84 [(zg [aa.v,aM.v]),(zg [aA.v,aW.v])] [ag aa ak.Head,bZ aM ak.Atoms,ag aA aL.Vars,ag aW aL.Values] (fun p:Sv×List Nat=>p.1.v) (fun p=>[a_ p.2 p.1 R]):=by
 refine Se 26 Tryz.func84 [.tmp 4] ?_
 intro H0 F0
 unfold ET at hF
 refine au ?_
 refine bM (fun k1=>?_)
 refine bM (fun k2=>?_)
 refine bC ?_
 refine dx rfl (bV (g:=true) cz.h cZ.h .nil (vs:=[]) rfl rfl rfl (by simp)) (fun k3=>?_)
 refine dH (.cons .h .nil) (bY (Ro:=(aj aH)) (E:=3) (F:=[]) (xs:=([]:List Int)) bX rfl rfl) ?_
 refine bu ?_
 refine aY (bK (m:=ak.Head.length) (fun m8 f' cs'=>∃(g:Fr)(k10:Nat)(oC c4:List Int)(v5:Sv)(F6:List Nat),m8=oC.length/\f'=aN g [(2,(pz k1)),(3,(pz k2)),(5,v5.v),(6,(zi (k10:Int)))]/\List.drop k10 ak.Head=oC/\aK cs' [aQ k1 39 (zg [aa.v,aM.v]),ag aa ak.Head,bZ aM ak.Atoms,aQ k2 136 (zg [aA.v,aW.v]),ag aA aL.Vars,ag aW aL.Values,a_ F6 v5 c4]/\Eu aL oC k10 c4=some R) ⟨_,0,_,_,⟨(some ⟨k3,0,none⟩),0,1⟩,(k3::[]),rfl,ay,rfl,ax,hF⟩ ?_)
 rintro m8 _ _ ⟨g9,k10,oC,c4,v5,F6,rfl,rfl,Uq,hE,hF⟩
 refine Kb hE ak.Head (fun aye=>?_)
 rcases oC with _|⟨tT,oC⟩
 · have ad4:=dn Uq
   rw[Eu]at hF
   refine eD ?_
   refine cO ?_
   refine eG ?_
   cases hF
   exact Er (v5,F6)
 obtain⟨ad4,mf,Oe⟩:=bW Uq
 rw[Eu]at hF
 refine eD ?_
 refine cK ?_
 refine bg ?_
 refine kM [0,1,2,3,4,5,6,7,8,9,10] [0,0,0,4,0,28,60,126,254,511,1023] [7,9] mixed (by decide+kernel) ?_
 refine yx ?_
 refine Di mf (fun k19 GV=>?_)
 refine Dl dG ?_
 refine bnd hF fun jr mY hF=>jk (aaG mY) (fun _=>?_)
 refine iq rfl .no rfl (fun ha=>bV (g:=true) (len:=1) (parts:=[(0,.tmp 22)]) cz.h cZ.h (.cons (EN ha (.tmp rfl rfl) rfl) .nil) (vs:=[(zi jr)]) rfl rfl rfl (by intro v hv; simp at hv; rcases hv with rfl<;>rfl)) (fun k24=>?_)
 refine jF (.cons .h .nil) (bY (Ro:=(aj aH)) (E:=3) (F:=([]++[])) (xs:=([jr]:List Int)) (eF (jd (fun _=>rfl)) bX dm) rfl rfl) ?_
 refine bnd hF fun z25 ll hF=>df rfl rfl .no (.cons .q8 (.cons .h .nil)) (.dep rfl .nil) (fun ha=>ek (Ro:=(aj aH)) cz.h iL cZ.h rfl rfl rfl (EN ha (.tmp rfl rfl) rfl) (EN ha (.tmp rfl rfl) rfl) ll fM) (fun p27=>?_)
 refine cB ?_
 refine aX ?_
 rw[wk k10]
 exact⟨_,bO _,_,k10+1,oC,_,p27.1,p27.2,rfl,ay,Oe,ax,hF⟩
def Jo(aL:aS):Option (aS):=
 (app ([]:List Int) aL.Vars).bind fun z5=>
 (app ([]:List Int) aL.Values).bind fun z8=>
 some (⟨z5,z8⟩:aS)
theorem agF{aL:aS}{aa aM:Sv}{R:aS}(hF:Jo aL=some R):
   Fw.Spec Tryz.prog 234 [(zg [aa.v,aM.v])] [ag aa aL.Vars,ag aM aL.Values] (fun p:Sv×List Nat×Sv×List Nat=>(zg [p.1.v,p.2.2.1.v])) (fun p=>[a_ p.2.1 p.1 R.Vars,a_ p.2.2.2 p.2.2.1 R.Values]):=by
 refine Se 12 Tryz.func234 [.cell 2 136] ?_
 intro H0 F0
 unfold Jo at hF
 refine au ?_
 refine bM (fun k1=>?_)
 refine dJ (fun k2=>?_)
 refine au ?_
 refine dS [0,1,2,4,5,6,3,7,8,9] [0,0,2,7,0,0,32,127,255,511] [3,7,9] mixed (by decide+kernel) ?_
 refine iq rfl .no rfl (fun ha=>bV (g:=true) (len:=0) (parts:=[]) cz.h cZ.h .nil (vs:=[]) rfl rfl rfl (by simp)) (fun k3=>?_)
 refine jF (.cons .h .nil) (bY (Ro:=(aj aH)) (E:=3) (F:=[]) (xs:=([]:List Int)) bX rfl rfl) ?_
 refine cB ?_
 refine iq rfl .no rfl (fun ha=>bV (g:=true) (len:=0) (parts:=[]) cz.h cZ.h .nil (vs:=[]) rfl rfl rfl (by simp)) (fun k4=>?_)
 refine jF (.cons .h .nil) (bY (Ro:=(aj aH)) (E:=3) (F:=[]) (xs:=([]:List Int)) bX rfl rfl) ?_
 refine cB ?_
 refine bnd hF fun z5 hx6 hF=>df rfl rfl .no (.cons (.t .h) (.rd .q3 rfl .nil)) (.own .h (by simp[aD]) (.dep rfl .nil)) (fun ha=>ek (Ro:=(aj aH)) cz.h iL cZ.h rfl rfl rfl (EN ha (.tmp rfl rfl) rfl) (EN ha (.tmp rfl rfl) rfl) hx6 rE) (fun p7=>?_)
 refine bnd hF fun z8 dF hF=>df rfl rfl .no (.cons (.t .h) (.rd .q4 rfl .nil)) (.dep rfl (.dep rfl .nil)) (fun ha=>ek (Ro:=(aj aH)) cz.h iL cZ.h rfl rfl rfl (EN ha (.tmp rfl rfl) rfl) (EN ha (.tmp rfl rfl) rfl) dF rE) (fun ny=>?_)
 refine bQ rfl .no (fun ha=>gy dY.h rfl (vs:=[p7.1.v,ny.1.v]) (.cons (EN ha (.tmp rfl rfl) rfl) (.cons (EN ha (.tmp rfl rfl) rfl) .nil)) (cells:=[p7.1.v,ny.1.v]) rfl) ?_
 refine df rfl rfl .no (.cons .q2 .nil) (.dep rfl (.dep rfl .nil)) (fun ha=>gF (e':=(zg [p7.1.v,ny.1.v])) (v:=(zg [p7.1.v,ny.1.v])) dY.h.sz (EN ha (.tmp rfl rfl) rfl) (EN ha (.tmp rfl rfl) rfl) rfl rfl rfl rfl rfl) (fun _=>?_)
 refine du ?_
 refine au ?_
 cases hF
 exact Er (p7.1,p7.2,ny.1,ny.2)
def IJ(aL:aS)(iU:Int):Nat->Int->Option (Bool)
 |0,_=>none
 |m3+1,c2=>if ((decide ((c2:Int)<(aL.Vars.length:Int)))&&(decide ((c2:Int)<(aL.Values.length:Int))))then (
     (ix aL.Vars c2).bind fun x13=>
     if ((x13:Int)==iU)then (
       some true)
     else (
       IJ aL iU m3 (IntKind.i64.wrap (c2+1))))
   else (
     some false)
def M9(aL:aS)(iU:Int):Option (Bool):=
 IJ aL iU (((aL.Vars.length:Int)-0).toNat+2) 0
theorem apL{aL:aS}{aa aM:Sv}{iU:Int}{R:Bool}(hF:M9 aL iU=some R):
   Fw.Spec Tryz.prog 326 [(zg [aa.v,aM.v]),(zi iU)] [ag aa aL.Vars,ag aM aL.Values] (fun _:Unit=>(.bool R)) (fun _=>[]):=by
 refine Se 27 Tryz.func326 [.tmp 4] ?_
 intro H0 F0
 unfold M9 at hF
 refine au ?_
 refine bM (fun k1=>?_)
 refine bu ?_
 refine aY (bK (m:=(((aL.Vars.length:Int)-0).toNat+2)) (fun m3 f' cs'=>∃(g:Fr)(c2:Int),f'=aN g [(1,(zi iU)),(2,(pz k1)),(5,(zi c2))]/\aK cs' [aQ k1 136 (zg [aa.v,aM.v]),ag aa aL.Vars,ag aM aL.Values]/\IJ aL iU m3 c2=some R) ⟨_,_,ay,ax,hF⟩ ?_)
 rintro m3 _ _ ⟨g4,c2,rfl,hE,hF⟩
 refine bH hE ?_
 rcases m3 with _|m3
 · rw[IJ]at hF
   exact absurd hF (by simp)
 rw[IJ]at hF
 refine bg ?_
 refine gG (fun f' cs'=>∃(g:Fr),f'=aN g [(1,(zi iU)),(2,(pz k1)),(5,(zi c2)),(17,(.bool ((decide ((c2:Int)<(aL.Vars.length:Int)))&&(decide ((c2:Int)<(aL.Values.length:Int))))))]/\aK cs' [aQ k1 136 (zg [aa.v,aM.v]),ag aa aL.Vars,ag aM aL.Values]) ?_ ?_
 · refine bu ?_
   rcases dK (decide ((c2:Int)<(aL.Vars.length:Int)))with jf|jf
   · rw[jf]
     try rw[jf]at hF; dsimp only[bB,bA]at hF
     refine Cr ?_
     exact⟨_,ay,ax⟩
   rw[jf]
   try rw[jf]at hF; dsimp only[bB,bA]at hF
   refine bF ?_
   exact⟨_,ay,ax⟩
 rintro _ _ ⟨g12,rfl,hE⟩
 refine bH hE ?_
 refine Ci hF (fun mI hF=>?_) (fun mI hF=>?_)
 · refine bu ?_
   refine zI hF fun x13 aHw hx16 hF=>?_
   refine Ai hx16 (fun k17 j18=>?_)
   refine Al dG ?_
   refine bC ?_
   refine Ci hF (fun tC hF=>?_) (fun tC hF=>?_)
   · exact ze hF
   refine bu ?_
   exact⟨m3,bO _,_,_,ay,ax,hF⟩
 exact ze hF
def Ia(aU:Fact):List Int->Nat->(List Int)->(List Int)->Option (aS×Bool)
 |[],mh,jP,pO=>some ((⟨jP,pO⟩:aS),true)
 |x82::oD,mh,jP,pO=>(((AX (⟨jP,pO⟩:aS) x82).bind fun r93=>
     ((Bi x82).bind fun Ab=>
       bif Ab then ((M9 (⟨jP,pO⟩:aS) x82).bind fun al1=>
         some (!al1))
       else (some false)).bind fun o96=>
     match o96 with
     |c109=>if c109 then (
         (ix aU.Values (mh:Int)).bind fun x112=>
         (E5 (⟨jP,pO⟩:aS) x82 x112).bind fun ad5=>
         some (.inr (ad5.Vars,ad5.Values)))
       else (
         (ix aU.Values (mh:Int)).bind fun al2=>
         if ((r93:Int)!=al2)then (
           some (.inl ((⟨[],[]⟩:aS),false)))
         else (
           some (.inr (jP,pO))))):Option (Sum (aS×Bool) ((List Int)×(List Int)))).bind fun o89=>
   match o89 with
   | .inl r=>some r
   | .inr (c130,Ur)=>Ia aU oD (mh+1) c130 Ur
def PT(aL:aS)(ae:Atom)(aU:Fact):Option (aS×Bool):=
 (Jo aL).bind fun r5=>
 if (((ae.Rel:Int)!=aU.Rel)||((((ae.Terms.length:Int):Int)!=(aU.Values.length:Int))||(((aL.Vars.length:Int):Int)!=(aL.Values.length:Int))))then (
   some ((⟨[],[]⟩:aS),false))
 else (
   Ia aU ae.Terms 0 r5.Vars r5.Values)
theorem aoB{aL:aS}{aa aM:Sv}{ae:Atom}{aW:Sv}{aU:Fact}{dZ:Sv}{R:aS×Bool}(hF:PT aL ae aU=some R):
   Fw.Spec Tryz.prog 305 [(zg [aa.v,aM.v]),(zg [(zi ae.Rel),aW.v]),(zg [(zi aU.Rel),dZ.v])] [ag aa aL.Vars,ag aM aL.Values,ag aW ae.Terms,ag dZ aU.Values] (fun p:Sv×List Nat×Sv×List Nat=>(.tuple [(zg [p.1.v,p.2.2.1.v]),(.bool R.2)].toArray)) (fun p=>[a_ p.2.1 p.1 R.1.Vars,a_ p.2.2.2 p.2.2.1 R.1.Values]):=by
 refine Se 88 Tryz.func305 [.cell 6 136,.tmp 7] ?_
 intro H0 F0
 unfold PT at hF
 refine au ?_
 refine bM (fun k1=>?_)
 refine bM (fun k2=>?_)
 refine bM (fun k3=>?_)
 refine dJ (fun k4=>?_)
 refine aP ?_
 refine bnd hF fun r5 hx6 hF=>Af (agF hx6) (fun p7=>?_)
 refine dJ (fun k8=>?_)
 refine As (zg [p7.1.v,p7.2.2.1.v]) ?_
 refine bC ?_
 refine gG (fun f' cs'=>∃(g:Fr),f'=aN g [(4,(pz k2)),(5,(pz k3)),(6,(pz k4)),(8,(pz k8)),(35,(.bool (((ae.Rel:Int)!=aU.Rel)||((((ae.Terms.length:Int):Int)!=(aU.Values.length:Int))||(((aL.Vars.length:Int):Int)!=(aL.Values.length:Int))))))]/\aK cs' [aQ k2 123 (zg [(zi ae.Rel),aW.v]),ag aW ae.Terms,aQ k3 147 (zg [(zi aU.Rel),dZ.v]),ag dZ aU.Values,bS k4 136 (.agg ([(.slice none 0 0),(.slice none 0 0)]:List Value).toArray),bS k8 136 (zg [p7.1.v,p7.2.2.1.v]),a_ p7.2.1 p7.1 r5.Vars,a_ p7.2.2.2 p7.2.2.1 r5.Values]) ?_ ?_
 · refine bu ?_
   rcases dK ((ae.Rel:Int)!=aU.Rel)with Ve|Ve
   · rw[Ve]
     try rw[Ve]at hF; dsimp only[bB,bA]at hF
     refine acC ?_
     exact⟨_,ay,ax⟩
   rw[Ve]
   try rw[Ve]at hF; dsimp only[bB,bA]at hF
   refine X6 ?_
   rcases dK (((ae.Terms.length:Int):Int)!=(aU.Values.length:Int))with qW|qW
   · rw[qW]
     try rw[qW]at hF; dsimp only[bB,bA]at hF
     refine eG ?_
     exact⟨_,ay,ax⟩
   rw[qW]
   try rw[qW]at hF; dsimp only[bB,bA]at hF
   refine X6 ?_
   exact⟨_,ay,ax⟩
 rintro _ _ ⟨g11,rfl,hE⟩
 refine bH hE ?_
 refine Ci hF (fun ayf hF=>?_) (fun ayf hF=>?_)
 · refine au ?_
   refine aO (gy dY.h rfl (vs:=[]) .nil (cells:=[(.slice none 0 0),(.slice none 0 0)]) rfl) ?_
   refine As (.agg ([(.slice none 0 0),(.slice none 0 0)]:List Value).toArray) ?_
   refine bC ?_
   cases hF
   exact gL (⟨none,0,0⟩,[],⟨none,0,0⟩,[]) (.cellA rfl rfl .h rfl jC.h dY.h.sz rfl rfl (.tmp rfl rfl .nil)) rfl (.conv .nil (fH (Ro:=(aj aH)) (E:=3)) (.cons .nil) (.conv .nil (fH (Ro:=(aj aH)) (E:=3)) (.cons .nil) (.sel (.cons (.t .h) (.cons .h .nil)))))
 refine aX ?_
 refine aY (bK (m:=ae.Terms.length) (fun Vf f' cs'=>∃(g:Fr)(mh:Nat)(oD jP pO:List Int)(v72:Sv)(u_:List Nat)(v75:Sv)(Du:List Nat),Vf=oD.length/\f'=aN g [(4,(pz k2)),(5,(pz k3)),(6,(pz k4)),(8,(pz k8)),(9,(zi (mh:Int)))]/\List.drop mh ae.Terms=oD/\aK cs' [aQ k2 123 (zg [(zi ae.Rel),aW.v]),ag aW ae.Terms,aQ k3 147 (zg [(zi aU.Rel),dZ.v]),ag dZ aU.Values,bS k4 136 (.agg ([(.slice none 0 0),(.slice none 0 0)]:List Value).toArray),bS k8 136 (zg [v72.v,v75.v]),a_ u_ v72 jP,a_ Du v75 pO]/\Ia aU oD mh jP pO=some R) ⟨_,0,_,_,_,p7.1,p7.2.1,p7.2.2.1,p7.2.2.2,rfl,ay,rfl,ax,hF⟩ ?_)
 rintro Vf _ _ ⟨g79,mh,oD,jP,pO,v72,u_,v75,Du,rfl,rfl,KA,hE,hF⟩
 refine Kb hE ae.Terms (fun ayg=>?_)
 rcases oD with _|⟨x82,oD⟩
 · have ad6:=dn KA
   rw[Ia]at hF
   refine eD ?_
   refine cO ?_
   refine bu ?_
   refine As (zg [v72.v,v75.v]) ?_
   refine bC ?_
   cases hF
   exact gL (v72,u_,v75,Du) (.cellA rfl rfl .h rfl jC.h dY.h.sz rfl rfl (.tmp rfl rfl .nil)) rfl (.sel (.cons .q6 (.cons .q6 .nil)))
 obtain⟨ad6,Gv,ad7⟩:=bW KA
 rw[Ia]at hF
 refine eD ?_
 refine cK ?_
 refine au ?_
 obtain⟨o89,ayh,al3⟩:=bind_some hF
 refine fD (fun f' cs'=>∃(c130 Ur:List Int)(v131:Sv)(ad8:List Nat)(Zq:Sv)(ad9:List Nat)(g:Fr),o89= .inr (c130,Ur)/\f'=aN g [(4,(pz k2)),(5,(pz k3)),(6,(pz k4)),(8,(pz k8)),(9,(zi (mh:Int)))]/\aK cs' [aQ k2 123 (zg [(zi ae.Rel),aW.v]),ag aW ae.Terms,aQ k3 147 (zg [(zi aU.Rel),dZ.v]),ag dZ aU.Values,bS k4 136 (.agg ([(.slice none 0 0),(.slice none 0 0)]:List Value).toArray),bS k8 136 (zg [v131.v,Zq.v]),a_ ad8 v131 c130,a_ ad9 Zq Ur]) ?_ ?_
 · replace hF:=ayh
   refine aY (dS [0,1,2,3,4,5,6,7] [0,0,2,0,14,30,63,127] [6] mixed (by decide+kernel) ?_)
   refine ed rfl .no .q5 (fun ha hp=>jw jC.h dY.h.sz rfl (EN ha (.tmp rfl rfl) rfl) hp.2 rfl) ?_
   refine fT ?_
   refine Di Gv (fun k91 j92=>?_)
   refine Dl dG ?_
   refine bnd hF fun r93 ad_ hF=>qB rfl rfl .no (.cons .q8 (.cons .q7 .nil)) (.dep rfl .nil) (fun ha=>jy (pre:=[]) (.cons bq (.cons bq .nil)) (fun _=>.nil) (bU aj9.h (.cons (EN ha (.tmp rfl rfl) rfl) (.cons (EN ha (.tmp rfl rfl) rfl) .nil)) (aaG ad_))) (fun _=>?_)
   refine cB ?_
   obtain⟨o96,ayi,aAD⟩:=bind_some hF
   refine dS [0,1,2,3,4,5,6,7,8,9,10,11,12,13,14,15] [0,1,0,7,15,31,63,127,127,383,127,1919,3967,8191,16383,32767] [5,13] mixed (by decide+kernel) ?_
   refine yc (fun f' cs'=>∃(c109:Bool)(g:Fr),c109=o96/\f'=aN g [(4,(pz k2)),(5,(pz k3)),(6,(pz k4)),(8,(pz k8)),(9,(zi (mh:Int))),(10,(zi r93)),(66,(.bool c109))]/\aK cs' [aQ k2 123 (zg [(zi ae.Rel),aW.v]),ag aW ae.Terms,aQ k3 147 (zg [(zi aU.Rel),dZ.v]),ag dZ aU.Values,bS k4 136 (.agg ([(.slice none 0 0),(.slice none 0 0)]:List Value).toArray),bS k8 136 (zg [v72.v,v75.v]),a_ u_ v72 jP,a_ Du v75 pO]) ?_ ?_
   · replace hF:=ayi
     refine fT ?_
     refine Di Gv (fun k98 j99=>?_)
     refine Dl dG ?_
     refine bnd hF fun Ab hx101 hF=>jk (MX hx101) (fun _=>?_)
     refine du ?_
     rcases dK Ab with R3|R3
     · rw[R3]
       try rw[R3]at hF; dsimp only[bB,bA]at hF
       refine ed rfl (.on 57 rfl rfl rfl) .q9 (fun ha hp=>jw jC.h dY.h.sz rfl (EN ha (.tmp rfl rfl) rfl) hp.2 rfl) ?_
       refine fT ?_
       refine Di Gv (fun aHx aHy=>?_)
       refine Dl dG ?_
       refine bnd hF fun al1 ayj hF=>qB rfl rfl (.on 57 rfl rfl rfl) (.cons .q2 (.cons .q2 .nil)) (.dep rfl .nil) (fun ha=>jy (pre:=[]) (.cons bq (.cons bq .nil)) (fun _=>.nil) (bU awI.h (.cons (EN ha (.tmp rfl rfl) rfl) (.cons (EN ha (.tmp rfl rfl) rfl) .nil)) (apL ayj))) (fun _=>?_)
       exact j3 hF
     rw[R3]
     try rw[R3]at hF; dsimp only[bB,bA]at hF
     exact j3 hF
   rintro _ _ ⟨c109,aHz,rfl,rfl,hE⟩
   replace hF:=aAD
   try dsimp only at hF
   refine bH hE ?_
   refine Ci hF (fun ayk hF=>?_) (fun ayk hF=>?_)
   · refine kM [0,1,2,3,4,5,6,7,8,9,10,11,12] [0,0,2,0,14,30,0,64,0,448,960,2047,4095] [11,12] mixed (by decide+kernel) ?_
     refine ed rfl .no .q5 (fun ha hp=>jw jC.h dY.h.sz rfl (EN ha (.tmp rfl rfl) rfl) hp.2 rfl) ?_
     refine fT ?_
     refine Di Gv (fun aHA aHB=>?_)
     refine Dl dG ?_
     refine fT ?_
     refine zI hF fun x112 aEp hx115 hF=>?_
     refine Di hx115 (fun aHC aHD=>?_)
     refine Dl dG ?_
     refine bnd hF fun ad5 ayl hF=>Fx rfl rfl .no (.cons .q9 (.cons .q8 .nil)) (.dep rfl .nil) (fun ha=>jy (pre:=[]) (.cons bq (.cons bq .nil)) (fun _=>(.cons (.cons .nil))) (bU aj8.h (.cons (EN ha (.tmp rfl rfl) rfl) (.cons (EN ha (.tmp rfl rfl) rfl) (.cons (EN ha (.tmp rfl rfl) rfl) .nil))) (agE ayl))) (fun Gw=>?_)
     refine df rfl rfl .no (.cons .q11 .nil) (.dep rfl .nil) (fun ha=>gF (e':=(zg [Gw.1.v,Gw.2.2.1.v])) (v:=(zg [Gw.1.v,Gw.2.2.1.v])) dY.h.sz (EN ha (.tmp rfl rfl) rfl) (EN ha (.tmp rfl rfl) rfl) rfl rfl rfl rfl rfl) (fun _=>?_)
     refine du ?_
     cases hF
     exact⟨_,_,Gw.1,Gw.2.1,Gw.2.2.1,Gw.2.2.2,_,rfl,ay,ax⟩
   refine aX ?_
   refine zI hF fun al2 aEq acK hF=>?_
   refine Ai acK (fun aHE aHF=>?_)
   refine Al dG ?_
   refine bg ?_
   refine Ci hF (fun aym hF=>?_) (fun aym hF=>?_)
   · refine au ?_
     refine aO (gy dY.h rfl (vs:=[]) .nil (cells:=[(.slice none 0 0),(.slice none 0 0)]) rfl) ?_
     refine As (.agg ([(.slice none 0 0),(.slice none 0 0)]:List Value).toArray) ?_
     refine bC ?_
     cases hF
     replace hF:=al3
     try dsimp only at hF
     cases hF
     exact gL (⟨none,0,0⟩,[],⟨none,0,0⟩,[]) (.cellA rfl rfl .h rfl jC.h dY.h.sz rfl rfl (.tmp rfl rfl .nil)) rfl (.conv .nil (fH (Ro:=(aj aH)) (E:=3)) (.cons .nil) (.conv .nil (fH (Ro:=(aj aH)) (E:=3)) (.cons .nil) (.sel (.cons (.t .h) (.cons .h .nil)))))
   refine au ?_
   cases hF
   exact⟨_,_,v72,u_,v75,Du,_,rfl,ay,ax⟩
 rintro _ _ ⟨c130,Ur,v131,ad8,Zq,ad9,aHG,rfl,rfl,hE⟩
 replace hF:=al3
 try dsimp only at hF
 refine bH hE ?_
 refine aX ?_
 rw[wk mh]
 exact⟨_,bO _,_,mh+1,oD,_,_,v131,ad8,Zq,ad9,rfl,ay,ad7,ax,hF⟩
def Ei(ae:Atom)(eP:aS):List Fact->Nat->(List aS)->Option ((List aS))
 |[],k26,c20=>some c20
 |x28::ou,k26,c20=>((PT eP ae x28).bind fun iN=>
     if iN.2 then (
       (app c20 ([iN.1]:List aS)).bind fun z48=>
       some z48)
     else (
       some c20)).bind fun yU=>
   match yU with
   |tX=>Ei ae eP ou (k26+1) tX
def xL(ae:Atom)(bn:List Fact):List aS->Nat->(List aS)->Option ((List aS))
 |[],k9,c3=>some c3
 |eP::dM,k9,c3=>(Ei ae eP bn 0 c3).bind fun iH=>
   match iH with
   |xB=>xL ae bn dM (k9+1) xB
def Qh(ai:List aS)(ae:Atom)(bn:List Fact):Option ((List aS)):=
 xL ae bn ai 0 ([]:List aS)
theorem ao'{ai:List aS}{aa:Sv}{ae:Atom}{aW:Sv}{bn:List Fact}{bi:Sv}{R:(List aS)}(hF:Qh ai ae bn=some R):
   Fw.Spec Tryz.prog 280 [aa.v,(zg [(zi ae.Rel),aW.v]),bi.v] [wT aa ai,ag aW ae.Terms,dD bi bn] (fun p:Sv×List Nat=>p.1.v) (fun p=>[uC p.2 p.1 R]):=by
 refine Se 44 Tryz.func280 [.tmp 6] ?_
 intro H0 F0
 unfold Qh at hF
 refine au ?_
 refine bM (fun k1=>?_)
 refine bC ?_
 refine dx rfl (bV (g:=true) Co.h dY.h .nil (vs:=[]) rfl rfl rfl (by simp)) (fun k2=>?_)
 refine dH (.cons .h .nil) (bY (Ro:=sI) (E:=136) (F:=[]) (xs:=([]:List aS)) bX rfl rfl) ?_
 refine bu ?_
 refine aY (bK (m:=ai.length) (fun m7 f' cs'=>∃(g:Fr)(k9:Nat)(dM c3:List aS)(v4:Sv)(F5:List Nat),m7=dM.length/\f'=aN g [(0,aa.v),(2,bi.v),(4,(pz k1)),(7,v4.v),(8,(zi (k9:Int)))]/\List.drop k9 ai=dM/\aK cs' [wT aa ai,dD bi bn,aQ k1 123 (zg [(zi ae.Rel),aW.v]),ag aW ae.Terms,uC F5 v4 c3]/\xL ae bn dM k9 c3=some R) ⟨_,0,_,_,⟨(some ⟨k2,0,none⟩),0,1⟩,(k2::[]),rfl,ay,rfl,ax,hF⟩ ?_)
 rintro m7 _ _ ⟨g8,k9,dM,c3,v4,F5,rfl,rfl,j4,hE,hF⟩
 refine Kb hE ai (fun FE=>?_)
 rcases dM with _|⟨eP,dM⟩
 · have qR:=dn j4
   rw[xL]at hF
   refine bF ?_
   refine cO ?_
   refine eG ?_
   cases hF
   exact Er (v4,F5)
 obtain⟨qR,iA,nX⟩:=bW j4
 rw[xL]at hF
 refine bF ?_
 refine cK ?_
 refine au ?_
 obtain⟨iH,qD,qQ⟩:=bind_some hF
 refine fD (fun f' cs'=>∃(xB:List aS)(v58:Sv)(Lc:List Nat)(g:Fr),xB=iH/\f'=aN g [(0,aa.v),(2,bi.v),(4,(pz k1)),(7,v58.v),(8,(zi (k9:Int)))]/\aK cs' [wT aa ai,dD bi bn,aQ k1 123 (zg [(zi ae.Rel),aW.v]),ag aW ae.Terms,uC Lc v58 xB]) ?_ ?_
 · replace hF:=qD
   refine aY (cu (aO (iZ (v:=(zi 0)) (.int _ _)) ?_))
   refine au ?_
   refine aY (bK (m:=bn.length) (fun m24 f' cs'=>∃(g:Fr)(k26:Nat)(ou:List Fact)(c20:List aS)(v21:Sv)(uZ:List Nat),m24=ou.length/\f'=aN g [(0,aa.v),(2,bi.v),(4,(pz k1)),(7,v21.v),(8,(zi (k9:Int))),(9,(zi (k26:Int)))]/\List.drop k26 bn=ou/\aK cs' [wT aa ai,dD bi bn,aQ k1 123 (zg [(zi ae.Rel),aW.v]),ag aW ae.Terms,uC uZ v21 c20]/\Ei ae eP ou k26 c20=some iH) ⟨_,0,_,_,v4,F5,rfl,ay,rfl,ax,hF⟩ ?_)
   rintro m24 _ _ ⟨U6,k26,ou,c20,v21,uZ,rfl,rfl,hd29,hE,hF⟩
   refine Kb hE bn (fun axA=>?_)
   rcases ou with _|⟨x28,ou⟩
   · have adA:=dn hd29
     rw[Ei]at hF
     refine bF ?_
     refine cO ?_
     refine aP ?_
     cases hF
     exact⟨_,v21,uZ,_,rfl,ay,ax⟩
   obtain⟨adA,hx31,hd32⟩:=bW hd29
   rw[Ei]at hF
   refine bF ?_
   refine cK ?_
   refine au ?_
   obtain⟨yU,RY,TU⟩:=bind_some hF
   refine fD (fun f' cs'=>∃(tX:List aS)(v53:Sv)(GY:List Nat)(g:Fr),tX=yU/\f'=aN g [(0,aa.v),(2,bi.v),(4,(pz k1)),(7,v53.v),(8,(zi (k9:Int))),(9,(zi (k26:Int)))]/\aK cs' [wT aa ai,dD bi bn,aQ k1 123 (zg [(zi ae.Rel),aW.v]),ag aW ae.Terms,uC GY v53 tX]) ?_ ?_
   · replace hF:=RY
     refine aY (dS [0,1,2,3,4,5,6,7,8,13,9,10,11,12,14,15] [0,0,3,7,0,0,0,96,224,511,1023,2047,2047,0,12287,32767] [9,14] mixed (by decide+kernel) ?_)
     refine cB ?_
     refine Di iA (fun tQ j38=>?_)
     refine alm (MJ eP) PR (fun p39=>?_)
     refine fT ?_
     refine Di hx31 (fun nk j41=>?_)
     refine qM (ky x28) kL (fun p42=>?_)
     refine iq rfl .no rfl (fun ha=>sD (g:=true) dY.h rfl rfl) (fun k43=>?_)
     refine bnd hF fun iN xg hF=>qB rfl rfl .no (.rd .q3 rfl (.rd .q4 rfl (.rd .q9 rfl (.rd (.t .h) rfl .nil)))) (.own .h (fun _ h=>h) .nil) (fun ha=>bU awH.h (.cons (EN ha (.tmp rfl rfl) rfl) (.cons (EN ha (.tmp rfl rfl) rfl) (.cons (EN ha (.tmp rfl rfl) rfl) .nil))) (aoB xg)) (fun p46=>?_)
     refine du ?_
     refine bQ rfl .no (fun ha=>oo (l:=[(zg [p46.1.v,p46.2.2.1.v]),(.bool iN.2)]) (v:=(zg [p46.1.v,p46.2.2.1.v])) (EN ha (.tmp rfl rfl) rfl) rfl) ?_
     refine bQ rfl .no (fun ha=>oo (l:=[(zg [p46.1.v,p46.2.2.1.v]),(.bool iN.2)]) (v:=(.bool iN.2)) (EN ha (.tmp rfl rfl) rfl) rfl) ?_
     refine df rfl rfl .no (.cons .q2 .nil) (.dep rfl .nil) (fun ha=>gF (e':=(zg [p46.1.v,p46.2.2.1.v])) (v:=(zg [p46.1.v,p46.2.2.1.v])) dY.h.sz (EN ha (.tmp rfl rfl) rfl) (EN ha (.tmp rfl rfl) rfl) rfl rfl rfl rfl rfl) (fun _=>?_)
     refine cB ?_
     refine bC ?_
     refine Ci hF (fun aAE hF=>?_) (fun aAE hF=>?_)
     · refine bC ?_
       refine dx rfl (bV (g:=true) Co.h dY.h bN (vs:=[(zg [p46.1.v,p46.2.2.1.v])]) rfl rfl rfl (by intro v hv; simp at hv; rcases hv with rfl<;>rfl)) (fun Vd=>?_)
       refine dH (.cons .h (.cons (.t .h) (.cons (.t .h) .nil))) (bY (Ro:=sI) (E:=136) (F:=((p46.2.1++p46.2.2.2)++[])) (xs:=([iN.1]:List aS)) (eF XX bX dm) rfl rfl) ?_
       refine bnd hF fun z48 kU hF=>dU (.cons .q11 (.cons .h .nil)) (ek (Ro:=sI) Co.h aka dY.h rfl rfl rfl (.tmp rfl rfl) (.tmp rfl rfl) kU fM) (fun p50=>?_)
       refine bg ?_
       cases hF
       exact⟨_,p50.1,p50.2,_,rfl,ay,ax⟩
     refine au ?_
     cases hF
     exact⟨_,v21,uZ,_,rfl,ay,ax⟩
   rintro _ _ ⟨tX,v53,GY,g56,rfl,rfl,hE⟩
   replace hF:=TU
   try dsimp only at hF
   refine bH hE ?_
   refine aX ?_
   rw[wk k26]
   exact⟨_,bO _,_,k26+1,ou,_,v53,GY,rfl,ay,hd32,ax,hF⟩
 rintro _ _ ⟨xB,v58,Lc,g61,rfl,rfl,hE⟩
 replace hF:=qQ
 try dsimp only at hF
 refine bH hE ?_
 refine aX ?_
 rw[wk k9]
 exact⟨_,bO _,_,k9+1,dM,_,v58,Lc,rfl,ay,nX,ax,hF⟩
def AA(bn:List Fact):List Atom->Nat->(List aS)->Option ((List aS))
 |[],k9,c3=>some c3
 |eP::dM,k9,c3=>(Qh c3 eP bn).bind fun jr=>
   AA bn dM (k9+1) jr
def IL(ak:aV)(bn:List Fact):Option ((List aS)):=
 AA bn ak.Atoms 0 ([(⟨[],[]⟩:aS)]:List aS)
theorem an9{ak:aV}{aa aM:Sv}{bn:List Fact}{aA:Sv}{R:(List aS)}(hF:IL ak bn=some R):
   Fw.Spec Tryz.prog 232 [(zg [aa.v,aM.v]),aA.v] [ag aa ak.Head,bZ aM ak.Atoms,dD aA bn] (fun p:Sv×List Nat=>p.1.v) (fun p=>[uC p.2 p.1 R]):=by
 refine Se 25 Tryz.func232 [.tmp 4] ?_
 intro H0 F0
 unfold IL at hF
 refine au ?_
 refine bM (fun k1=>?_)
 refine bC ?_
 refine aO (gy dY.h rfl (vs:=[]) .nil (cells:=[(.slice none 0 0),(.slice none 0 0)]) rfl) ?_
 refine dx rfl (bV (g:=true) Co.h dY.h bN (vs:=[(.agg ([(.slice none 0 0),(.slice none 0 0)]:List Value).toArray)]) rfl rfl rfl (by intro v hv; simp at hv; rcases hv with rfl<;>rfl)) (fun k2=>?_)
 iterate 2 refine BB .nil (fH (Ro:=(aj aH)) (E:=3)) dm ?_
 refine dH (.cons .q2 (.cons (.t .h) (.cons .h .nil))) (bY (Ro:=sI) (E:=136) (F:=(([]++[])++[])) (xs:=([(⟨[],[]⟩:aS)]:List aS)) (eF (XX (v0:=⟨none,0,0⟩) (v1:=⟨none,0,0⟩) (a:=(⟨[],[]⟩:aS))) bX dm) rfl rfl) ?_
 refine bu ?_
 refine aY (bK (m:=ak.Atoms.length) (fun m7 f' cs'=>∃(g:Fr)(k9:Nat)(dM:List Atom)(c3:List aS)(v4:Sv)(F5:List Nat),m7=dM.length/\f'=aN g [(1,aA.v),(2,(pz k1)),(5,v4.v),(6,(zi (k9:Int)))]/\List.drop k9 ak.Atoms=dM/\aK cs' [dD aA bn,aQ k1 39 (zg [aa.v,aM.v]),ag aa ak.Head,bZ aM ak.Atoms,uC F5 v4 c3]/\AA bn dM k9 c3=some R) ⟨_,0,_,_,⟨(some ⟨k2,0,none⟩),1,1⟩,(k2::(([]++[])++[])),rfl,ay,rfl,ax,hF⟩ ?_)
 rintro m7 _ _ ⟨g8,k9,dM,c3,v4,F5,rfl,rfl,j4,hE,hF⟩
 refine Kb hE ak.Atoms (fun FE=>?_)
 rcases dM with _|⟨eP,dM⟩
 · have qR:=dn j4
   rw[AA]at hF
   refine eD ?_
   refine cO ?_
   refine eG ?_
   cases hF
   exact Er (v4,F5)
 obtain⟨qR,iA,nX⟩:=bW j4
 rw[AA]at hF
 refine eD ?_
 refine cK ?_
 refine bF ?_
 refine Ai iA (fun k18 j19=>?_)
 refine iw (tZ eP) vw (fun p20=>?_)
 refine au ?_
 refine bnd hF fun jr mY hF=>l9 (.cons .q6 (.rd .h rfl (.rd .q2 rfl .nil))) (gH bq (fun _=>(.cons .nil)) (bU awG.h bN (ao' mY))) (fun lX=>?_)
 refine bF ?_
 rw[wk k9]
 exact⟨_,bO _,_,k9+1,dM,_,lX.1,lX.2,rfl,ay,nX,ax,hF⟩
def I6(aL:List Int):List Int->Nat->Option (Bool)
 |[],k4=>some true
 |x6::aJ,k4=>(ix aL (k4:Int)).bind fun pM=>
   if ((x6:Int)!=pM)then (
     some false)
   else (
     I6 aL aJ (k4+1))
def QS(ae:List Int)(aL:List Int):Option (Bool):=
 if (((ae.length:Int):Int)!=(aL.length:Int))then (
   some false)
 else (
   I6 aL ae 0)
theorem agG{ae:List Int}{aa:Sv}{aL:List Int}{aA:Sv}{R:Bool}(hF:QS ae aL=some R):
   Fw.Spec Tryz.prog 233 [aa.v,aA.v] [ag aa ae,ag aA aL] (fun _:Unit=>(.bool R)) (fun _=>[]):=by
 refine Se 26 Tryz.func233 [.tmp 4] ?_
 intro H0 F0
 unfold QS at hF
 refine yg ?_
 refine Ci hF (fun CV hF=>?_) (fun CV hF=>?_)
 · exact ze hF
 refine aX ?_
 refine aY (bK (m:=ae.length) (fun m2 f' cs'=>∃(g:Fr)(k4:Nat)(aJ:List Int),m2=aJ.length/\f'=aN g [(0,aa.v),(1,aA.v),(5,(zi (k4:Int)))]/\List.drop k4 ae=aJ/\aK cs' [ag aa ae,ag aA aL]/\I6 aL aJ k4=some R) ⟨_,0,_,rfl,ay,rfl,ax,hF⟩ ?_)
 rintro m2 _ _ ⟨g3,k4,aJ,rfl,rfl,hd7,hE,hF⟩
 refine Kb hE ae (fun jV=>?_)
 rcases aJ with _|⟨x6,aJ⟩
 · have fB:=dn hd7
   rw[I6]at hF
   refine bF ?_
   refine cO ?_
   exact ze hF
 obtain⟨fB,dF,fw⟩:=bW hd7
 rw[I6]at hF
 refine bF ?_
 refine cK ?_
 refine bg ?_
 refine dS [0,1,2,3,4,5,6,7,8] [0,0,3,7,0,0,48,112,255] [] mixed (by decide+kernel) ?_
 refine cB ?_
 refine Di dF (fun k13 lY=>?_)
 refine Dl dG ?_
 refine cB ?_
 refine zI hF fun pM adS gq hF=>?_
 refine Di gq (fun k19 GV=>?_)
 refine Dl dG ?_
 refine cB ?_
 refine Ci hF (fun qN hF=>?_) (fun qN hF=>?_)
 · exact ze hF
 refine bu ?_
 rw[wk k4]
 exact⟨_,bO _,_,k4+1,aJ,rfl,ay,fw,ax,hF⟩
def Ay(ak:aV)(oF:List Int):List aS->Nat->Option (aS×Bool)
 |[],tL=>some ((⟨[],[]⟩:aS),false)
 |x43::BN,tL=>(ET ak x43).bind fun Am=>
   (QS Am oF).bind fun r56=>
   if r56 then (
     (Jo x43).bind fun Vg=>
     some (Vg,true))
   else (
     Ay ak oF BN (tL+1))
def Ej(ak:aV)(bn:List Fact)(oF:List Int):Option (aS×Bool):=
 (IL ak bn).bind fun r3=>
 Ay ak oF r3 0
theorem afs{ak:aV}{aa aM:Sv}{bn:List Fact}{aA:Sv}{oF:List Int}{bi:Sv}{R:aS×Bool}(hF:Ej ak bn oF=some R):
   Fw.Spec Tryz.prog 156 [(zg [aa.v,aM.v]),aA.v,bi.v] [ag aa ak.Head,bZ aM ak.Atoms,dD aA bn,ag bi oF] (fun p:Sv×List Nat×Sv×List Nat=>(.tuple [(zg [p.1.v,p.2.2.1.v]),(.bool R.2)].toArray)) (fun p=>[a_ p.2.1 p.1 R.1.Vars,a_ p.2.2.2 p.2.2.1 R.1.Values]):=by
 refine Se 33 Tryz.func156 [.cell 6 136,.tmp 7] ?_
 intro H0 F0
 unfold Ej at hF
 refine au ?_
 refine bM (fun k1=>?_)
 refine dJ (fun k2=>?_)
 refine aX ?_
 refine bnd hF fun r3 hx4 hF=>fq (an9 hx4) (fun p5=>?_)
 refine bu ?_
 refine aY (jM .h bq ?_)
 refine bK (m:=r3.length) (fun m39 f' cs'=>∃(g:Fr)(tL:Nat)(BN:List aS),m39=BN.length/\f'=aN g [(2,bi.v),(3,(pz k1)),(6,(pz k2)),(8,p5.1.v),(9,(zi (tL:Int)))]/\List.drop tL r3=BN/\aK cs' [ag bi oF,aQ k1 39 (zg [aa.v,aM.v]),ag aa ak.Head,bZ aM ak.Atoms,bS k2 136 (.agg ([(.slice none 0 0),(.slice none 0 0)]:List Value).toArray),wT p5.1 r3]/\Ay ak oF BN tL=some R) ⟨_,0,_,rfl,ay,rfl,ax,hF⟩ ?_
 rintro m39 _ _ ⟨g40,tL,BN,rfl,rfl,Zf,hE,hF⟩
 refine Kb hE r3 (fun aEr=>?_)
 rcases BN with _|⟨x43,BN⟩
 · have aAF:=dn Zf
   rw[Ay]at hF
   refine bF ?_
   refine cO ?_
   refine aX ?_
   refine aO (gy dY.h rfl (vs:=[]) .nil (cells:=[(.slice none 0 0),(.slice none 0 0)]) rfl) ?_
   refine As (.agg ([(.slice none 0 0),(.slice none 0 0)]:List Value).toArray) ?_
   refine bC ?_
   cases hF
   exact gL (⟨none,0,0⟩,[],⟨none,0,0⟩,[]) (.cellA rfl rfl .h rfl jC.h dY.h.sz rfl rfl (.tmp rfl rfl .nil)) rfl (.conv .nil (fH (Ro:=(aj aH)) (E:=3)) (.cons .nil) (.conv .nil (fH (Ro:=(aj aH)) (E:=3)) (.cons .nil) (.sel (.cons (.t .h) (.cons .h .nil)))))
 obtain⟨aAF,Ac,aAG⟩:=bW Zf
 rw[Ay]at hF
 refine bF ?_
 refine cK ?_
 refine bg ?_
 refine dS [0,1,2,3,4,6,5,7] [0,0,0,6,14,31,0,127] [5,7] mixed (by decide+kernel) ?_
 refine fT ?_
 refine Di Ac (fun kY j51=>?_)
 refine alm (MJ x43) PR (fun p52=>?_)
 refine du ?_
 refine bnd hF fun Am yJ hF=>ni (Wu yJ) (fun p55=>?_)
 refine bnd hF fun r56 sV hF=>df rfl rfl .no (.cons .h (.rd .q3 rfl .nil)) .nil (fun ha=>gH bq (fun _=>.nil) (bU awJ.h (.cons (EN ha (.tmp rfl rfl) rfl) (.cons (EN ha (.tmp rfl rfl) rfl) .nil)) (agG sV))) (fun _=>?_)
 refine du ?_
 refine Ci hF (fun CP hF=>?_) (fun CP hF=>?_)
 · refine bC ?_
   refine Ai Ac (fun k59 j60=>?_)
   refine adu (MJ x43) PR (fun p61=>?_)
   refine bnd hF fun Vg KC hF=>Af (agF KC) (fun p64=>?_)
   refine As (zg [p64.1.v,p64.2.2.1.v]) ?_
   refine bC ?_
   cases hF
   exact gL (p64.1,p64.2.1,p64.2.2.1,p64.2.2.2) (.cellA rfl rfl .h rfl jC.h dY.h.sz rfl rfl (.tmp rfl rfl .nil)) rfl (.sel (.cons (.t .h) (.cons (.t .h) .nil)))
 refine bu ?_
 rw[wk tL]
 exact⟨_,bO _,_,tL+1,BN,rfl,ay,aAG,ax,hF⟩
def Pn(fuel:Nat)(ah:List Int)(kK:aV)(ak:aV):Option (Bool):=
 ((xS ah kK).bind fun r5=>
   bif (!r5)then (some true)
   else ((xS ah ak).bind fun r9=>
     bif (!r9)then (some true)
     else (some (((kK.Head.length:Int):Int)!=(ak.Head.length:Int))))).bind fun o3=>
 match o3 with
 |c13=>if c13 then (
     some false)
   else (
     (Qg fuel kK ak).bind fun jH=>
     if (!jH.2.2)then (
       some false)
     else (
       (ET kK jH.2.1).bind fun Dv=>
       (Ej ak jH.1 Dv).bind fun iV=>
       some iV.2))
theorem anY{fuel:Nat}{ah:List Int}{aa:Sv}{kK:aV}{aA aW:Sv}{ak:aV}{bi dZ:Sv}{R:Bool}(hF:Pn fuel ah kK ak=some R):
   Fw.Spec Tryz.prog 74 [aa.v,(zg [aA.v,aW.v]),(zg [bi.v,dZ.v])] [ag aa ah,ag aA kK.Head,bZ aW kK.Atoms,ag bi ak.Head,bZ dZ ak.Atoms] (fun _:Unit=>(.bool R)) (fun _=>[]):=by
 refine Se 50 Tryz.func74 [.tmp 6] ?_
 intro H0 F0
 unfold Pn at hF
 refine au ?_
 refine bM (fun k1=>?_)
 refine bM (fun k2=>?_)
 refine bC ?_
 obtain⟨o3,vX,hO4⟩:=bind_some hF
 refine au ?_
 refine gG (fun f' cs'=>∃(c13:Bool)(g:Fr),c13=o3/\f'=aN g [(4,(pz k1)),(5,(pz k2)),(30,(.bool c13))]/\aK cs' [aQ k1 39 (zg [aA.v,aW.v]),ag aA kK.Head,bZ aW kK.Atoms,aQ k2 39 (zg [bi.v,dZ.v]),ag bi ak.Head,bZ dZ ak.Atoms]) ?_ ?_
 · replace hF:=vX
   refine bg ?_
   refine bnd hF fun r5 hx6 hF=>bJ (IC hx6) (fun _=>?_)
   refine bg ?_
   rcases dK (!r5)with fG|fG
   · rw[fG]
     try rw[fG]at hF; dsimp only[bB,bA]at hF
     exact dw hF
   rw[fG]
   try rw[fG]at hF; dsimp only[bB,bA]at hF
   refine aX ?_
   refine bnd hF fun r9 fU hF=>bJ (IC fU) (fun _=>?_)
   refine aP ?_
   rcases dK (!r9)with kv|kv
   · rw[kv]
     try rw[kv]at hF; dsimp only[bB,bA]at hF
     exact dw hF
   rw[kv]
   try rw[kv]at hF; dsimp only[bB,bA]at hF
   exact dw hF
 rintro _ _ ⟨c13,g27,rfl,rfl,hE⟩
 replace hF:=hO4
 try dsimp only at hF
 refine bH hE ?_
 refine Ci hF (fun Us hF=>?_) (fun Us hF=>?_)
 · exact ze hF
 refine aP ?_
 refine bnd hF fun jH mf hF=>GN (ao_ mf) (fun p16=>?_)
 refine au ?_
 refine zx ?_
 refine zx ?_
 refine zx ?_
 refine dJ (fun k17=>?_)
 refine au ?_
 refine As (zg [p16.2.2.1.v,p16.2.2.2.2.1.v]) ?_
 refine bF ?_
 refine Ci hF (fun aAH hF=>?_) (fun aAH hF=>?_)
 · exact ze hF
 refine au ?_
 refine dS [0,1,2,3,9,4,5,6,7,8,10,11] [0,0,0,0,12,31,63,127,127,0,767,2047] [4,5,10] mixed (by decide+kernel) ?_
 refine fT ?_
 refine ed rfl .no .h (fun ha hp=>jw jC.h dY.h.sz rfl (EN ha (.tmp rfl rfl) rfl) hp.2 rfl) ?_
 refine iq rfl .no rfl (fun ha=>sD (g:=true) dY.h rfl rfl) (fun k18=>?_)
 refine bnd hF fun Dv mJ hF=>Rm rfl rfl .no (.cons .q4 (.cons .q3 (.rd .q4 rfl (.rd .q5 rfl .nil)))) (.own .h (fun _ h=>h) (.dep rfl .nil)) (fun ha=>jy (pre:=_) (.cons bq (.cons bq .nil)) (fun _=>(.cons .nil)) (jA (.rd .q2 rfl (.rd .q3 rfl (.rd .h rfl (.rd (.t .h) rfl .nil)))) (bU adw.h (.cons (EN ha (.tmp rfl rfl) rfl) (.cons (EN ha (.tmp rfl rfl) rfl) .nil)) (Wu mJ)))) (fun mM=>?_)
 refine bnd hF fun iV tq hF=>Fx rfl rfl .no (.cons .q2 (.cons .q4 (.rd .q8 rfl (.rd .q9 rfl .nil)))) (.own .q2 (fun _ h=>h) (.dep rfl .nil)) (fun ha=>Q_ (pre:=_) (.cons bq (.cons bq .nil)) (fun _=>(.cons (.cons .nil))) (jA (.rd .q2 rfl (.rd .q3 rfl (.rd (.t .h) rfl (.rd .h rfl .nil)))) (bU aj'.h (.cons (EN ha (.tmp rfl rfl) rfl) (.cons (EN ha (.tmp rfl rfl) rfl) (.cons (EN ha (.tmp rfl rfl) rfl) .nil))) (afs tq)))) (fun nu=>?_)
 refine du ?_
 refine bQ rfl .no (fun ha=>oo (l:=[(zg [nu.1.v,nu.2.2.1.v]),(.bool iV.2)]) (v:=(zg [nu.1.v,nu.2.2.1.v])) (EN ha (.tmp rfl rfl) rfl) rfl) ?_
 refine bQ rfl .no (fun ha=>oo (l:=[(zg [nu.1.v,nu.2.2.1.v]),(.bool iV.2)]) (v:=(.bool iV.2)) (EN ha (.tmp rfl rfl) rfl) rfl) ?_
 refine df rfl rfl .no (.cons .q6 .nil) (.dep rfl (.dep rfl .nil)) (fun ha=>gF (e':=(zg [nu.1.v,nu.2.2.1.v])) (v:=(zg [nu.1.v,nu.2.2.1.v])) dY.h.sz (EN ha (.tmp rfl rfl) rfl) (EN ha (.tmp rfl rfl) rfl) rfl rfl rfl rfl rfl) (fun _=>?_)
 refine cB ?_
 exact ze hF
def Pw(fuel:Nat)(ah:List Int)(ai:List Method)(ak:aV):Option (Bool):=
 (O4 ah ai ak).bind fun r2=>
 (bif r2.2 then ((Pn fuel ah r2.1 ak).bind fun r9=>
     some r9)
   else (some false)).bind fun o6=>
 match o6 with
 |c12=>some c12
theorem an_{fuel:Nat}{ah:List Int}{aa:Sv}{ai:List Method}{aA:Sv}{ak:aV}{bi dZ:Sv}{R:Bool}(hF:Pw fuel ah ai ak=some R):
   Fw.Spec Tryz.prog 29 [aa.v,aA.v,(zg [bi.v,dZ.v])] [ag aa ah,dO aA ai,ag bi ak.Head,bZ dZ ak.Atoms] (fun _:Unit=>(.bool R)) (fun _=>[]):=by
 refine Se 23 Tryz.func29 [.tmp 6] ?_
 intro H0 F0
 unfold Pw at hF
 refine au ?_
 refine bM (fun k1=>?_)
 refine bu ?_
 refine bnd hF fun r2 hx3 hF=>Af (anz hx3) (fun p4=>?_)
 refine au ?_
 refine zx ?_
 refine zx ?_
 refine dJ (fun k5=>?_)
 refine As (zg [p4.1.v,p4.2.2.1.v]) ?_
 refine bg ?_
 obtain⟨o6,Ut,Vh⟩:=bind_some hF
 refine au ?_
 refine gG (fun f' cs'=>∃(c12:Bool)(g:Fr),c12=o6/\f'=aN g [(6,(.bool c12))]/\aK cs' []) ?_ ?_
 · replace hF:=Ut
   refine bg ?_
   rcases dK r2.2 with fG|fG
   · rw[fG]
     try rw[fG]at hF; dsimp only[bB,bA]at hF
     refine bF ?_
     refine bnd hF fun r9 fU hF=>l9 (.cons .q2 (.cons (.t .h) (.rd .q2 rfl (.rd .q4 rfl (.rd .q5 rfl .nil))))) (jy (pre:=_) (.cons bq (.cons bq .nil)) (fun _=>.nil) (jA (.rd .q2 rfl (.rd .h rfl (.rd (.t .h) rfl (.rd .q3 rfl (.rd .q4 rfl .nil))))) (bU azV.h bN (anY fU)))) (fun _=>?_)
     exact dw hF
   rw[fG]
   try rw[fG]at hF; dsimp only[bB,bA]at hF
   exact dw hF
 rintro _ _ ⟨c12,g13,rfl,rfl,hE⟩
 replace hF:=Vh
 try dsimp only at hF
 refine bH hE ?_
 exact ze hF
def I7(kC:Int)(bT:Int):Nat->(List Int)->Int->Option ((List Int))
 |0,_,_=>none
 |m6+1,c2,c5=>if (decide ((c5:Int)<bT))then (
     ((Kc .i64 kC c5).bind fun jG=>
       if (((CG .i64 jG 1):Int)==1)then (
         (app c2 ([c5]:List Int)).bind fun z19=>
         some z19)
       else (
         some c2)).bind fun xC=>
     match xC with
     |c23=>I7 kC bT m6 c23 (IntKind.i64.wrap (c5+1)))
   else (
     some c2)
def QT(kC:Int)(bT:Int):Option ((List Int)):=
 I7 kC bT ((bT-0).toNat+2) ([]:List Int) 0
theorem aqo{kC bT:Int}{R:(List Int)}(hF:QT kC bT=some R):
   Fw.Spec Tryz.prog 75 [(zi kC),(zi bT)] [] (fun p:Sv×List Nat=>p.1.v) (fun p=>[a_ p.2 p.1 R]):=by
 refine Se 23 Tryz.func75 [.tmp 4] ?_
 intro H0 F0
 unfold QT at hF
 refine aP ?_
 refine dx rfl (bV (g:=true) cz.h cZ.h .nil (vs:=[]) rfl rfl rfl (by simp)) (fun k1=>?_)
 refine dH (.cons .h .nil) (bY (Ro:=(aj aH)) (E:=3) (F:=[]) (xs:=([]:List Int)) bX rfl rfl) ?_
 refine bu ?_
 refine aY (bK (m:=((bT-0).toNat+2)) (fun m6 f' cs'=>∃(g:Fr)(c2:List Int)(c5:Int)(v3:Sv)(F4:List Nat),f'=aN g [(0,(zi kC)),(1,(zi bT)),(5,v3.v),(6,(zi c5))]/\aK cs' [a_ F4 v3 c2]/\I7 kC bT m6 c2 c5=some R) ⟨_,_,_,⟨(some ⟨k1,0,none⟩),0,1⟩,(k1::[]),ay,ax,hF⟩ ?_)
 rintro m6 _ _ ⟨g7,c2,c5,v3,F4,rfl,hE,hF⟩
 refine bH hE ?_
 rcases m6 with _|m6
 · rw[I7]at hF
   exact absurd hF (by simp)
 rw[I7]at hF
 refine bu ?_
 refine Ci hF (fun CX hF=>?_) (fun CX hF=>?_)
 · refine au ?_
   obtain⟨xC,R4,Om⟩:=bind_some hF
   refine fD (fun f' cs'=>∃(c23:List Int)(v24:Sv)(Dw:List Nat)(g:Fr),c23=xC/\f'=aN g [(0,(zi kC)),(1,(zi bT)),(5,v24.v),(6,(zi c5))]/\aK cs' [a_ Dw v24 c23]) ?_ ?_
   · replace hF:=R4
     refine aY (cu (Cm (zi kC) rfl rfl ?_))
     refine au ?_
     refine bnd hF fun jG iX hF=>aO (acv (i:=kC) (j:=c5) (.tmp rfl rfl) (.tmp rfl rfl) iX) ?_
     refine aO (acw (i:=jG) (j:=1) (.tmp rfl rfl) (.int _ _)) ?_
     refine bg ?_
     refine Ci hF (fun qN hF=>?_) (fun qN hF=>?_)
     · refine bC ?_
       refine dx rfl (bV (g:=true) cz.h cZ.h bN (vs:=[(zi c5)]) rfl rfl rfl (by intro v hv; simp at hv; rcases hv with rfl<;>rfl)) (fun k18=>?_)
       refine dH (.cons .h .nil) (bY (Ro:=(aj aH)) (E:=3) (F:=([]++[])) (xs:=([c5]:List Int)) (eF (jd (fun _=>rfl)) bX dm) rfl rfl) ?_
       refine bnd hF fun z19 mJ hF=>dU (.cons (.t .h) (.cons .h .nil)) (ek (Ro:=(aj aH)) cz.h iL cZ.h rfl rfl rfl (.tmp rfl rfl) (.tmp rfl rfl) mJ fM) (fun mM=>?_)
       refine bg ?_
       cases hF
       exact⟨_,mM.1,mM.2,_,rfl,ay,ax⟩
     refine au ?_
     cases hF
     exact⟨_,v3,F4,_,rfl,ay,ax⟩
   rintro _ _ ⟨c23,v24,Dw,g26,rfl,rfl,hE⟩
   replace hF:=Om
   try dsimp only at hF
   refine bH hE ?_
   refine aX ?_
   exact⟨m6,bO _,_,_,_,v24,Dw,ay,ax,hF⟩
 refine eG ?_
 cases hF
 exact Er (v3,F4)
def I8(ae:List Int)(aL:List Int):Nat->Int->Option (Bool)
 |0,_=>none
 |m2+1,c1=>if ((decide ((c1:Int)<(ae.length:Int)))&&(decide ((c1:Int)<(aL.length:Int))))then (
     (ix ae c1).bind fun tT=>
     (ix aL c1).bind fun Vi=>
     if ((tT:Int)!=Vi)then (
       (ix ae c1).bind fun x24=>
       (ix aL c1).bind fun x30=>
       some (decide ((x24:Int)<x30)))
     else (
       I8 ae aL m2 (IntKind.i64.wrap (c1+1))))
   else (
     some (decide (((ae.length:Int):Int)<(aL.length:Int))))
def QU(ae:List Int)(aL:List Int):Option (Bool):=
 I8 ae aL (((ae.length:Int)-0).toNat+2) 0
theorem aqp{ae:List Int}{aa:Sv}{aL:List Int}{aA:Sv}{R:Bool}(hF:QU ae aL=some R):
   Fw.Spec Tryz.prog 157 [aa.v,aA.v] [ag aa ae,ag aA aL] (fun _:Unit=>(.bool R)) (fun _=>[]):=by
 refine Se 41 Tryz.func157 [.tmp 4] ?_
 intro H0 F0
 unfold QU at hF
 refine bF ?_
 refine aY (bK (m:=(((ae.length:Int)-0).toNat+2)) (fun m2 f' cs'=>∃(g:Fr)(c1:Int),f'=aN g [(0,aa.v),(1,aA.v),(5,(zi c1))]/\aK cs' [ag aa ae,ag aA aL]/\I8 ae aL m2 c1=some R) ⟨_,_,ay,ax,hF⟩ ?_)
 rintro m2 _ _ ⟨g3,c1,rfl,hE,hF⟩
 refine bH hE ?_
 rcases m2 with _|m2
 · rw[I8]at hF
   exact absurd hF (by simp)
 rw[I8]at hF
 refine bg ?_
 refine gG (fun f' cs'=>∃(g:Fr),f'=aN g [(0,aa.v),(1,aA.v),(5,(zi c1)),(15,(.bool ((decide ((c1:Int)<(ae.length:Int)))&&(decide ((c1:Int)<(aL.length:Int))))))]/\aK cs' [ag aa ae,ag aA aL]) ?_ ?_
 · refine aX ?_
   rcases dK (decide ((c1:Int)<(ae.length:Int)))with qW|qW
   · rw[qW]
     try rw[qW]at hF; dsimp only[bB,bA]at hF
     refine jD ?_
     exact⟨_,ay,ax⟩
   rw[qW]
   try rw[qW]at hF; dsimp only[bB,bA]at hF
   refine bu ?_
   exact⟨_,ay,ax⟩
 rintro _ _ ⟨g11,rfl,hE⟩
 refine bH hE ?_
 refine Ci hF (fun adE hF=>?_) (fun adE hF=>?_)
 · refine bg ?_
   refine dS [0,1,2,3,4,5,6,7,8] [0,0,3,7,0,0,48,112,255] [] mixed (by decide+kernel) ?_
   refine cB ?_
   refine zI hF fun tT alG mf hF=>?_
   refine Di mf (fun k16 Z6=>?_)
   refine Dl dG ?_
   refine cB ?_
   refine zI hF fun Vi aAI yB hF=>?_
   refine Di yB (fun k22 j23=>?_)
   refine Dl dG ?_
   refine cB ?_
   refine Ci hF (fun aAJ hF=>?_) (fun aAJ hF=>?_)
   · refine dS [0,1,2,3,4,5,6,7,8,9] [0,0,3,7,0,0,48,112,255,511] [] mixed (by decide+kernel) ?_
     refine cB ?_
     refine zI hF fun x24 aHH hx27 hF=>?_
     refine Di hx27 (fun k28 j29=>?_)
     refine Dl dG ?_
     refine cB ?_
     refine zI hF fun x30 aHI yF hF=>?_
     refine Di yF (fun k34 j35=>?_)
     refine Dl dG ?_
     refine fT ?_
     exact ze hF
   refine bu ?_
   exact⟨m2,bO _,_,_,ay,ax,hF⟩
 exact ze hF
def Qy(ae:List Int)(aL:List Int):Option (Bool):=
 if (((ae.length:Int):Int)!=(aL.length:Int))then (
   some (decide (((ae.length:Int):Int)<(aL.length:Int))))
 else (
   (QU ae aL).bind fun r1=>
   some r1)
theorem apM{ae:List Int}{aa:Sv}{aL:List Int}{aA:Sv}{R:Bool}(hF:Qy ae aL=some R):
   Fw.Spec Tryz.prog 76 [aa.v,aA.v] [ag aa ae,ag aA aL] (fun _:Unit=>(.bool R)) (fun _=>[]):=by
 refine Se 18 Tryz.func76 [.tmp 4] ?_
 intro H0 F0
 unfold Qy at hF
 refine yg ?_
 refine Ci hF (fun hb4 hF=>?_) (fun hb4 hF=>?_)
 · exact ze hF
 refine aP ?_
 refine bnd hF fun r1 hx2 hF=>bJ (aqp hx2) (fun _=>?_)
 exact ze hF
def Eb(bL:List Rule)(kC:Int):Nat->(List Rule)->Int->Option ((List Rule))
 |0,_,_=>none
 |m6+1,c2,c5=>if ((decide ((c5:Int)<(bL.length:Int)))&&((decide ((c5:Int)<20))&&(decide ((0:Int)<kC))))then (
     ((Kc .i64 kC c5).bind fun n_=>
       if (((CG .i64 n_ 1):Int)==1)then (
         (ix bL c5).bind fun mg=>
         (ix bL c5).bind fun x27=>
         (ix bL c5).bind fun x34=>
         (app ([]:List Int) x34.Map).bind fun z41=>
         (app c2 ([(⟨mg.From,x27.To,z41⟩:Rule)]:List Rule)).bind fun z45=>
         some z45)
       else (
         some c2)).bind fun ru=>
     match ru with
     |c49=>Eb bL kC m6 c49 (IntKind.i64.wrap (c5+1)))
   else (
     some c2)
def Po(bL:List Rule)(kC:Int):Option ((List Rule)):=
 Eb bL kC (((bL.length:Int)-0).toNat+2) ([]:List Rule) 0
theorem anZ{bL:List Rule}{aa:Sv}{kC:Int}{R:(List Rule)}(hF:Po bL kC=some R):
   Fw.Spec Tryz.prog 78 [aa.v,(zi kC)] [dV aa bL] (fun p:Sv×List Nat=>p.1.v) (fun p=>[TD p.2 p.1 R]):=by
 refine Se 49 Tryz.func78 [.tmp 4] ?_
 intro H0 F0
 unfold Po at hF
 refine aP ?_
 refine dx rfl (bV (g:=true) CJ.h yw.h .nil (vs:=[]) rfl rfl rfl (by simp)) (fun k1=>?_)
 refine dH (.cons .h .nil) (bY (Ro:=vS) (E:=91) (F:=[]) (xs:=([]:List Rule)) bX rfl rfl) ?_
 refine bu ?_
 refine aY (bK (m:=(((bL.length:Int)-0).toNat+2)) (fun m6 f' cs'=>∃(g:Fr)(c2:List Rule)(c5:Int)(v3:Sv)(F4:List Nat),f'=aN g [(0,aa.v),(1,(zi kC)),(5,v3.v),(6,(zi c5))]/\aK cs' [dV aa bL,TD F4 v3 c2]/\Eb bL kC m6 c2 c5=some R) ⟨_,_,_,⟨(some ⟨k1,0,none⟩),0,1⟩,(k1::[]),ay,ax,hF⟩ ?_)
 rintro m6 _ _ ⟨g7,c2,c5,v3,F4,rfl,hE,hF⟩
 refine bH hE ?_
 rcases m6 with _|m6
 · rw[Eb]at hF
   exact absurd hF (by simp)
 rw[Eb]at hF
 refine bg ?_
 refine gG (fun f' cs'=>∃(g:Fr),f'=aN g [(0,aa.v),(1,(zi kC)),(5,v3.v),(6,(zi c5)),(19,(.bool ((decide ((c5:Int)<(bL.length:Int)))&&((decide ((c5:Int)<20))&&(decide ((0:Int)<kC))))))]/\aK cs' [dV aa bL,TD F4 v3 c2]) ?_ ?_
 · refine aX ?_
   rcases dK (decide ((c5:Int)<(bL.length:Int)))with qV|qV
   · rw[qV]
     try rw[qV]at hF; dsimp only[bB,bA]at hF
     refine bu ?_
     rcases dK (decide ((c5:Int)<20))with mH|mH
     · rw[mH]
       try rw[mH]at hF; dsimp only[bB,bA]at hF
       refine bu ?_
       exact⟨_,ay,ax⟩
     rw[mH]
     try rw[mH]at hF; dsimp only[bB,bA]at hF
     refine aP ?_
     exact⟨_,ay,ax⟩
   rw[qV]
   try rw[qV]at hF; dsimp only[bB,bA]at hF
   refine eD ?_
   exact⟨_,ay,ax⟩
 rintro _ _ ⟨g16,rfl,hE⟩
 refine bH hE ?_
 refine Ci hF (fun KD hF=>?_) (fun KD hF=>?_)
 · refine au ?_
   obtain⟨ru,JF,Kl⟩:=bind_some hF
   refine fD (fun f' cs'=>∃(c49:List Rule)(v50:Sv)(F51:List Nat)(g:Fr),c49=ru/\f'=aN g [(0,aa.v),(1,(zi kC)),(5,v50.v),(6,(zi c5))]/\aK cs' [dV aa bL,TD F51 v50 c49]) ?_ ?_
   · replace hF:=JF
     refine aY (cu (Cm (zi kC) rfl rfl ?_))
     refine au ?_
     refine bnd hF fun n_ mJ hF=>aO (acv (i:=kC) (j:=c5) (.tmp rfl rfl) (.tmp rfl rfl) mJ) ?_
     refine aO (acw (i:=n_) (j:=1) (.tmp rfl rfl) (.int _ _)) ?_
     refine bg ?_
     refine Ci hF (fun hb48 hF=>?_) (fun hb48 hF=>?_)
     · refine kM [0,1,2,3,4,5,6,7,8,9,10,11,12,13,14,15,16,17,18,19,20,21] [0,0,0,6,14,30,0,0,192,448,960,0,0,0,12288,28672,61440,129024,262142,524286,1048575,2097151] [17,20] mixed (by decide+kernel) ?_
       refine fT ?_
       refine zI hF fun mg aAw hx24 hF=>?_
       refine Di hx24 (fun k25 j26=>?_)
       refine du ?_
       refine Dl aca ?_
       refine cB ?_
       refine zI hF fun x27 aAx rR hF=>?_
       refine Di rR (fun Z8 j32=>?_)
       refine du ?_
       refine Dl at1 ?_
       refine iq rfl .no rfl (fun ha=>bV (g:=true) (len:=0) (parts:=[]) cz.h cZ.h .nil (vs:=[]) rfl rfl rfl (by simp)) (fun Ao=>?_)
       refine jF (.cons .h .nil) (bY (Ro:=(aj aH)) (E:=3) (F:=[]) (xs:=([]:List Int)) bX rfl rfl) ?_
       refine cB ?_
       refine zI hF fun x34 aHJ vU hF=>?_
       refine Di vU (fun uX j39=>?_)
       refine du ?_
       refine uA (R':=(aI 3 aH)) iF.h rfl .no (.tmp rfl rfl) rfl .h at5 (fun w40=>?_)
       refine bnd hF fun z41 Gx hF=>df rfl rfl .no (.cons .q2 (.rd .h rfl .nil)) (.dep rfl .nil) (fun ha=>ek (Ro:=(aj aH)) cz.h iL cZ.h rfl rfl rfl (EN ha (.tmp rfl rfl) rfl) (EN ha (.tmp rfl rfl) rfl) Gx rE) (fun p43=>?_)
       refine bQ rfl .no (fun ha=>gy yw.h rfl (vs:=[(zi mg.From),(zi x27.To),p43.1.v]) (.cons (EN ha (.tmp rfl rfl) rfl) (.cons (EN ha (.tmp rfl rfl) rfl) (.cons (EN ha (.tmp rfl rfl) rfl) .nil))) (cells:=[(zi mg.From),(zi x27.To),p43.1.v]) rfl) ?_
       refine iq rfl .no rfl (fun ha=>bV (g:=true) (len:=1) (parts:=[(0,.tmp 45)]) CJ.h yw.h (.cons (EN ha (.tmp rfl rfl) rfl) .nil) (vs:=[(zg [(zi mg.From),(zi x27.To),p43.1.v])]) rfl rfl rfl (by intro v hv; simp at hv; rcases hv with rfl<;>rfl)) (fun K3=>?_)
       refine jF (.cons .h (.cons .h .nil)) (bY (Ro:=vS) (E:=91) (F:=(p43.2++[])) (xs:=([(⟨mg.From,x27.To,z41⟩:Rule)]:List Rule)) (eF (alo (a:=(⟨mg.From,x27.To,z41⟩:Rule))) bX dm) rfl rfl) ?_
       refine bnd hF fun z45 Ac hF=>df rfl rfl .no (.cons .q6 (.cons .h .nil)) (.dep rfl (.dep rfl .nil)) (fun ha=>ek (Ro:=vS) CJ.h alq yw.h rfl rfl rfl (EN ha (.tmp rfl rfl) rfl) (EN ha (.tmp rfl rfl) rfl) Ac fM) (fun p47=>?_)
       refine cB ?_
       cases hF
       exact⟨_,p47.1,p47.2,_,rfl,ay,ax⟩
     refine au ?_
     cases hF
     exact⟨_,v3,F4,_,rfl,ay,ax⟩
   rintro _ _ ⟨c49,v50,F51,g52,rfl,rfl,hE⟩
   replace hF:=Kl
   try dsimp only at hF
   refine bH hE ?_
   refine aX ?_
   exact⟨m6,bO _,_,_,_,v50,F51,ay,ax,hF⟩
 refine eG ?_
 cases hF
 exact Er (v3,F4)
def I9:List Fact->Nat->(List Fact)->Option ((List Fact))
 |[],k8,c2=>some c2
 |dz::dE,k8,c2=>(zA dz.Rel dz.Values).bind fun iV=>
   (app c2 ([iV]:List Fact)).bind fun z26=>
   I9 dE (k8+1) z26
def Xn(ai:List Fact):Option ((List Fact)):=
 I9 ai 0 ([]:List Fact)
theorem aqr{ai:List Fact}{aa:Sv}{R:(List Fact)}(hF:Xn ai=some R):
   Fw.Spec Tryz.prog 160 [aa.v] [dD aa ai] (fun p:Sv×List Nat=>p.1.v) (fun p=>[fV p.2 p.1 R]):=by
 refine Se 27 Tryz.func160 [.tmp 2] ?_
 intro H0 F0
 unfold Xn at hF
 refine aP ?_
 refine dx rfl (bV (g:=true) dX.h dA.h .nil (vs:=[]) rfl rfl rfl (by simp)) (fun k1=>?_)
 refine dH (.cons .h .nil) (bY (Ro:=fP) (E:=147) (F:=[]) (xs:=([]:List Fact)) bX rfl rfl) ?_
 refine bu ?_
 refine aY (bK (m:=ai.length) (fun m6 f' cs'=>∃(g:Fr)(k8:Nat)(dE c2:List Fact)(v3:Sv)(F4:List Nat),m6=dE.length/\f'=aN g [(0,aa.v),(3,v3.v),(4,(zi (k8:Int)))]/\List.drop k8 ai=dE/\aK cs' [dD aa ai,fV F4 v3 c2]/\I9 dE k8 c2=some R) ⟨_,0,_,_,⟨(some ⟨k1,0,none⟩),0,1⟩,(k1::[]),rfl,ay,rfl,ax,hF⟩ ?_)
 rintro m6 _ _ ⟨g7,k8,dE,c2,v3,F4,rfl,rfl,fZ,hE,hF⟩
 refine Kb hE ai (fun Cs=>?_)
 rcases dE with _|⟨dz,dE⟩
 · have o7:=dn fZ
   rw[I9]at hF
   refine bF ?_
   refine cO ?_
   refine eG ?_
   cases hF
   exact Er (v3,F4)
 obtain⟨o7,iM,o9⟩:=bW fZ
 rw[I9]at hF
 refine bF ?_
 refine cK ?_
 refine bg ?_
 refine kM [0,1,2,3,4,5,6,7,8,9,10,11,12,13,14] [0,0,0,6,14,30,0,0,192,448,960,2046,4094,8191,16383] [11,13] mixed (by decide+kernel) ?_
 refine fT ?_
 refine Di iM (fun k17 j18=>?_)
 refine du ?_
 refine Dl Jt ?_
 refine cB ?_
 refine Di iM (fun k19 GV=>?_)
 refine du ?_
 refine uA (R':=(aI 3 aH)) iF.h rfl .no (.tmp rfl rfl) rfl .h Nw (fun w21=>?_)
 refine bnd hF fun iV tq hF=>ni (M0 tq) (fun nu=>?_)
 refine iq rfl .no rfl (fun ha=>bV (g:=true) (len:=1) (parts:=[(0,.tmp 23)]) dX.h dA.h (.cons (EN ha (.tmp rfl rfl) rfl) .nil) (vs:=[(zg [(zi iV.Rel),nu.1.v])]) rfl rfl rfl (by intro v hv; simp at hv; rcases hv with rfl<;>rfl)) (fun k25=>?_)
 refine jF (.cons .h (.cons .h .nil)) (bY (Ro:=fP) (E:=147) (F:=(nu.2++[])) (xs:=([iV]:List Fact)) (eF zK bX dm) rfl rfl) ?_
 refine bnd hF fun z26 hx27 hF=>df rfl rfl .no (.cons .q5 (.cons .h .nil)) (.dep rfl .nil) (fun ha=>ek (Ro:=fP) dX.h CK dA.h rfl rfl rfl (EN ha (.tmp rfl rfl) rfl) (EN ha (.tmp rfl rfl) rfl) hx27 fM) (fun p28=>?_)
 refine cB ?_
 refine aX ?_
 rw[wk k8]
 exact⟨_,bO _,_,k8+1,dE,_,p28.1,p28.2,rfl,ay,o9,ax,hF⟩
def El(bG:Rule)(aU:Fact):List Int->Nat->(List Int)->Option (Fact)
 |[],gW,jv=>some (⟨bG.To,jv⟩:Fact)
 |lw::iJ,gW,jv=>(ix aU.Values lw).bind fun Dx=>
   (app jv ([Dx]:List Int)).bind fun z53=>
   El bG aU iJ (gW+1) z53
def EJ(bG:Rule)(aU:Fact):Option (Fact):=
 El bG aU bG.Map 0 ([]:List Int)
theorem af8{bG:Rule}{gK:Sv}{aU:Fact}{aW:Sv}{R:Fact}(hF:EJ bG aU=some R):
   Fw.Spec Tryz.prog 235 [(zg [(zi bG.From),(zi bG.To),gK.v]),(zg [(zi aU.Rel),aW.v])] [ag gK bG.Map,ag aW aU.Values] (fun p:Sv×List Nat=>(zg [(zi R.Rel),p.1.v])) (fun p=>[a_ p.2 p.1 R.Values]):=by
 refine Se 32 Tryz.func235 [.cell 4 147] ?_
 intro H0 F0
 unfold EJ at hF
 refine au ?_
 refine bM (fun k1=>?_)
 refine bM (fun k2=>?_)
 refine dJ (fun k3=>?_)
 refine aP ?_
 refine aO (gy dA.h rfl (vs:=[(zi bG.To)]) bN (cells:=[(zi bG.To),(.slice none 0 0)]) rfl) ?_
 refine dJ (fun k4=>?_)
 refine As (zg [(zi bG.To),(.slice none 0 0)]) ?_
 refine aX ?_
 refine aY (bK (m:=bG.Map.length) (fun y5 f' cs'=>∃(g:Fr)(gW:Nat)(iJ jv:List Int)(v30:Sv)(rA:List Nat),y5=iJ.length/\f'=aN g [(2,(pz k1)),(3,(pz k2)),(4,(pz k3)),(5,(pz k4)),(6,(zi (gW:Int)))]/\List.drop gW bG.Map=iJ/\aK cs' [aQ k1 91 (zg [(zi bG.From),(zi bG.To),gK.v]),ag gK bG.Map,aQ k2 147 (zg [(zi aU.Rel),aW.v]),ag aW aU.Values,bS k3 147 (.agg ([(zi 0),(.slice none 0 0)]:List Value).toArray),bS k4 147 (zg [(zi bG.To),v30.v]),a_ rA v30 jv]/\El bG aU iJ gW jv=some R) ⟨_,0,_,_,⟨none,0,0⟩,[],rfl,ay,rfl,(.conv .nil (fH (Ro:=(aj aH)) (E:=3)) (.cons .nil) ax),hF⟩ ?_)
 rintro y5 _ _ ⟨g34,gW,iJ,jv,v30,rA,rfl,rfl,hd38,hE,hF⟩
 refine Kb hE bG.Map (fun acL=>?_)
 rcases iJ with _|⟨lw,iJ⟩
 · have KE:=dn hd38
   rw[El]at hF
   refine eD ?_
   refine cO ?_
   refine bu ?_
   refine As (zg [(zi bG.To),v30.v]) ?_
   refine bg ?_
   cases hF
   exact Er (v30,rA)
 obtain⟨KE,vV,zZ⟩:=bW hd38
 rw[El]at hF
 refine eD ?_
 refine cK ?_
 refine bg ?_
 refine kM [0,1,2,3,4,5,6,7,8,9,10,11,12,13,14] [0,1,0,4,0,16,0,112,240,508,1020,2044,4095,8191,16383] [12,14] mixed (by decide+kernel) ?_
 refine du ?_
 refine ed rfl .no .q5 (fun ha hp=>fI (v:=v30.v) iF.h (EN ha (.tmp rfl rfl) rfl) hp.2 rfl rfl) ?_
 refine yx ?_
 refine Di vV (fun K3 Z7=>?_)
 refine Dl dG ?_
 refine zI hF fun Dx aAK kU hF=>?_
 refine Di kU (fun kY j51=>?_)
 refine Dl dG ?_
 refine iq rfl .no rfl (fun ha=>bV (g:=true) (len:=1) (parts:=[(0,.tmp 27)]) cz.h cZ.h (.cons (EN ha (.tmp rfl rfl) rfl) .nil) (vs:=[(zi Dx)]) rfl rfl rfl (by intro v hv; simp at hv; rcases hv with rfl<;>rfl)) (fun k52=>?_)
 refine jF (.cons .h .nil) (bY (Ro:=(aj aH)) (E:=3) (F:=([]++[])) (xs:=([Dx]:List Int)) (eF (jd (fun _=>rfl)) bX dm) rfl rfl) ?_
 refine bnd hF fun z53 yJ hF=>df rfl rfl .no (.cons .q9 (.cons .h .nil)) (.dep rfl (.dep rfl .nil)) (fun ha=>ek (Ro:=(aj aH)) cz.h iL cZ.h rfl rfl rfl (EN ha (.tmp rfl rfl) rfl) (EN ha (.tmp rfl rfl) rfl) yJ fM) (fun p55=>?_)
 refine du ?_
 refine df rfl rfl .no (.cons .q8 .nil) (.dep rfl (.dep rfl .nil)) (fun ha=>gF (e':=(zg [(zi bG.To),p55.1.v])) lQ.h.sz (EN ha (.tmp rfl rfl) rfl) (EN ha (.tmp rfl rfl) rfl) rfl rfl rfl rfl rfl) (fun _=>?_)
 refine du ?_
 refine aX ?_
 rw[wk gW]
 exact⟨_,bO _,_,gW+1,iJ,_,p55.1,p55.2,rfl,ay,zZ,ax,hF⟩
def H5(bn:List Fact)(dz:Fact):List Rule->Nat->(List Fact)->Option ((List Fact))
 |[],k25,c19=>some c19
 |x27::BO,k25,c19=>(if ((x27.From:Int)!=dz.Rel)then (
       some c19)
     else (
       (EJ x27 dz).bind fun xD=>
       (ES bn xD).bind fun wz=>
       if (!wz)then (
         (vB c19 xD).bind fun Am=>
         some Am)
       else (
         some c19))).bind fun o34=>
   match o34 with
   |Vj=>H5 bn dz BO (k25+1) Vj
def H6(ai:List Rule)(bn:List Fact):List Fact->Nat->(List Fact)->Option ((List Fact))
 |[],k8,c2=>some c2
 |dz::dE,k8,c2=>(H5 bn dz ai 0 c2).bind fun ru=>
   match ru with
   |Vk=>H6 ai bn dE (k8+1) Vk
def Mw(ai:List Rule)(bn:List Fact):Option ((List Fact)):=
 H6 ai bn bn 0 ([]:List Fact)
theorem afB{ai:List Rule}{aa:Sv}{bn:List Fact}{aA:Sv}{R:(List Fact)}(hF:Mw ai bn=some R):
   Fw.Spec Tryz.prog 161 [aa.v,aA.v] [dV aa ai,dD aA bn] (fun p:Sv×List Nat=>p.1.v) (fun p=>[fV p.2 p.1 R]):=by
 refine Se 50 Tryz.func161 [.tmp 4] ?_
 intro H0 F0
 unfold Mw at hF
 refine aP ?_
 refine dx rfl (bV (g:=true) dX.h dA.h .nil (vs:=[]) rfl rfl rfl (by simp)) (fun k1=>?_)
 refine dH (.cons .h .nil) (bY (Ro:=fP) (E:=147) (F:=[]) (xs:=([]:List Fact)) bX rfl rfl) ?_
 refine bu ?_
 refine aY (bK (m:=bn.length) (fun m6 f' cs'=>∃(g:Fr)(k8:Nat)(dE c2:List Fact)(v3:Sv)(F4:List Nat),m6=dE.length/\f'=aN g [(0,aa.v),(1,aA.v),(5,v3.v),(6,(zi (k8:Int)))]/\List.drop k8 bn=dE/\aK cs' [dV aa ai,dD aA bn,fV F4 v3 c2]/\H6 ai bn dE k8 c2=some R) ⟨_,0,_,_,⟨(some ⟨k1,0,none⟩),0,1⟩,(k1::[]),rfl,ay,rfl,ax,hF⟩ ?_)
 rintro m6 _ _ ⟨g7,k8,dE,c2,v3,F4,rfl,rfl,fZ,hE,hF⟩
 refine Kb hE bn (fun Cs=>?_)
 rcases dE with _|⟨dz,dE⟩
 · have o7:=dn fZ
   rw[H6]at hF
   refine bF ?_
   refine cO ?_
   refine eG ?_
   cases hF
   exact Er (v3,F4)
 obtain⟨o7,iM,o9⟩:=bW fZ
 rw[H6]at hF
 refine bF ?_
 refine cK ?_
 refine au ?_
 obtain⟨ru,JF,Kl⟩:=bind_some hF
 refine fD (fun f' cs'=>∃(Vk:List Fact)(v64:Sv)(F65:List Nat)(g:Fr),Vk=ru/\f'=aN g [(0,aa.v),(1,aA.v),(5,v64.v),(6,(zi (k8:Int)))]/\aK cs' [dV aa ai,dD aA bn,fV F65 v64 Vk]) ?_ ?_
 · replace hF:=JF
   refine aY (cu (aO (iZ (v:=(zi 0)) (.int _ _)) ?_))
   refine au ?_
   refine aY (bK (m:=ai.length) (fun m23 f' cs'=>∃(g:Fr)(k25:Nat)(BO:List Rule)(c19:List Fact)(v20:Sv)(y7:List Nat),m23=BO.length/\f'=aN g [(0,aa.v),(1,aA.v),(5,v20.v),(6,(zi (k8:Int))),(7,(zi (k25:Int)))]/\List.drop k25 ai=BO/\aK cs' [dV aa ai,dD aA bn,fV y7 v20 c19]/\H5 bn dz BO k25 c19=some ru) ⟨_,0,_,_,v3,F4,rfl,ay,rfl,ax,hF⟩ ?_)
   rintro m23 _ _ ⟨g24,k25,BO,c19,v20,y7,rfl,rfl,hd28,hE,hF⟩
   refine Kb hE ai (fun aEs=>?_)
   rcases BO with _|⟨x27,BO⟩
   · have aAL:=dn hd28
     rw[H5]at hF
     refine bF ?_
     refine cO ?_
     refine aP ?_
     cases hF
     exact⟨_,v20,y7,_,rfl,ay,ax⟩
   obtain⟨aAL,rR,hd31⟩:=bW hd28
   rw[H5]at hF
   refine bF ?_
   refine cK ?_
   refine au ?_
   obtain⟨o34,ayn,aAM⟩:=bind_some hF
   refine fD (fun f' cs'=>∃(Vj:List Fact)(v59:Sv)(F60:List Nat)(g:Fr),Vj=o34/\f'=aN g [(0,aa.v),(1,aA.v),(5,v59.v),(6,(zi (k8:Int))),(7,(zi (k25:Int)))]/\aK cs' [dV aa ai,dD aA bn,fV F60 v59 Vj]) ?_ ?_
   · replace hF:=ayn
     refine aY (h_ (dS [0,1,2,3,4,5,6,7,8,9,10] [0,0,3,7,15,0,0,96,224,480,1023] [] mixed (by decide+kernel) ?_))
     refine cB ?_
     refine Di rR (fun gZ j37=>?_)
     refine du ?_
     refine Dl aca ?_
     refine cB ?_
     refine Di iM (fun uX j39=>?_)
     refine du ?_
     refine Dl Jt ?_
     refine cB ?_
     refine Ci hF (fun TT hF=>?_) (fun TT hF=>?_)
     · refine bC ?_
       cases hF
       exact⟨_,v20,y7,_,rfl,ay,ax⟩
     refine au ?_
     refine dS [0,1,2,3,4,5,6,7,9,8,10] [0,0,3,7,0,0,48,112,255,0,1023] [8,10] mixed (by decide+kernel) ?_
     refine cB ?_
     refine Di rR (fun nk j41=>?_)
     refine qM (zo x27) AV (fun p42=>?_)
     refine cB ?_
     refine Di iM (fun k43 j44=>?_)
     refine qM (ky dz) kL (fun p45=>?_)
     refine iq rfl .no rfl (fun ha=>sD (g:=true) dA.h rfl rfl) (fun Z9=>?_)
     refine bnd hF fun xD CY hF=>df rfl rfl .no (.rd .q3 rfl (.rd (.t .h) rfl .nil)) (.own .h (fun _ h=>h) .nil) (fun ha=>bU awK.h (.cons (EN ha (.tmp rfl rfl) rfl) (.cons (EN ha (.tmp rfl rfl) rfl) .nil)) (af8 CY)) (fun p49=>?_)
     refine df rfl rfl .no (.cons (.t .h) .nil) (.dep rfl .nil) (fun ha=>gF (e':=(zg [(zi xD.Rel),p49.1.v])) (v:=(zg [(zi xD.Rel),p49.1.v])) dA.h.sz (EN ha (.tmp rfl rfl) rfl) (EN ha (.tmp rfl rfl) rfl) rfl rfl rfl rfl rfl) (fun _=>?_)
     refine du ?_
     refine bC ?_
     refine bnd hF fun wz KF hF=>dU (.cons (.t .h) (.rd .q8 rfl .nil)) (gH bq (fun _=>.nil) (jA (.rd (.t .h) rfl (.rd .h rfl .nil)) (bU aj_.h bN (aaH KF)))) (fun _=>?_)
     refine bg ?_
     refine Ci hF (fun aAN hF=>?_) (fun aAN hF=>?_)
     · refine bC ?_
       refine bnd hF fun Am yJ hF=>Gl (.cons .h (.cons .q9 .nil)) (jy (pre:=[]) (.cons bq (.cons bq .nil)) (fun _=>(.cons .nil)) (bU Ke.h bN (II yJ))) (fun p55=>?_)
       refine bg ?_
       cases hF
       exact⟨_,p55.1,p55.2,_,rfl,ay,ax⟩
     refine au ?_
     cases hF
     exact⟨_,v20,y7,_,rfl,ay,ax⟩
   rintro _ _ ⟨Vj,v59,F60,g62,rfl,rfl,hE⟩
   replace hF:=aAM
   try dsimp only at hF
   refine bH hE ?_
   refine aX ?_
   rw[wk k25]
   exact⟨_,bO _,_,k25+1,BO,_,v59,F60,rfl,ay,hd31,ax,hF⟩
 rintro _ _ ⟨Vk,v64,F65,g67,rfl,rfl,hE⟩
 replace hF:=Kl
 try dsimp only at hF
 refine bH hE ?_
 refine aX ?_
 rw[wk k8]
 exact⟨_,bO _,_,k8+1,dE,_,v64,F65,rfl,ay,o9,ax,hF⟩
def Em:List Fact->Nat->(List Fact)->Option ((List Fact))
 |[],kY,wB=>some wB
 |tO::mV,kY,wB=>(vB wB tO).bind fun Vg=>
   Em mV (kY+1) Vg
def En(ai:List Rule):Nat->(List Fact)->Option ((List Fact))
 |0,_=>none
 |m7+1,c4=>(((Mw ai c4).bind fun d_=>
     if (((d_.length:Int):Int)==0)then (
       some (.inl c4))
     else (
       (Em d_ 0 c4).bind fun wo=>
       match wo with
       |og=>some (.inr og))):Option (Sum ((List Fact)) ((List Fact)))).bind fun nP=>
   match nP with
   | .inl r=>some r
   | .inr jP=>En ai m7 jP
def EK(ai:List Rule)(bn:List Fact):Option ((List Fact)):=
 (Xn bn).bind fun r1=>
 En ai 4096 r1
theorem af9{ai:List Rule}{aa:Sv}{bn:List Fact}{aA:Sv}{R:(List Fact)}(hF:EK ai bn=some R):
   Fw.Spec Tryz.prog 81 [aa.v,aA.v] [dV aa ai,dD aA bn] (fun p:Sv×List Nat=>p.1.v) (fun p=>[fV p.2 p.1 R]):=by
 refine Se 29 Tryz.func81 [.tmp 4] ?_
 intro H0 F0
 unfold EK at hF
 refine aX ?_
 refine bnd hF fun r1 hx2 hF=>fq (aqr hx2) (fun p3=>?_)
 refine bg ?_
 refine aY (bK (m:=4096) (fun m7 f' cs'=>∃(g:Fr)(c4:List Fact)(v5:Sv)(F6:List Nat),f'=aN g [(0,aa.v),(5,v5.v)]/\aK cs' [dV aa ai,fV F6 v5 c4]/\En ai m7 c4=some R) ⟨_,_,p3.1,p3.2,ay,ax,hF⟩ ?_)
 rintro m7 _ _ ⟨g8,c4,v5,F6,rfl,hE,hF⟩
 refine bH hE ?_
 rcases m7 with _|m7
 · rw[En]at hF
   exact absurd hF (by simp)
 rw[En]at hF
 obtain⟨nP,Ct,yK⟩:=bind_some hF
 refine xV (fun f' cs'=>∃(jP:List Fact)(v72:Sv)(u_:List Nat)(g:Fr),nP= .inr jP/\f'=aN g [(0,aa.v),(5,v72.v)]/\aK cs' [dV aa ai,fV u_ v72 jP]) ?_ ?_
 · replace hF:=Ct
   refine aY (cu (Cm aa.v rfl rfl ?_))
   refine au ?_
   refine bnd hF fun d_ gq hF=>l9 (.cons (.t .h) (.rd .h rfl .nil)) (gH bq (fun _=>(.cons .nil)) (jA (.rd (.t .h) rfl (.rd .h rfl .nil)) (bU akb.h bN (afB gq)))) (fun r_=>?_)
   refine eD ?_
   refine Ci hF (fun TP hF=>?_) (fun TP hF=>?_)
   · refine aX ?_
     cases hF
     replace hF:=yK
     try dsimp only at hF
     cases hF
     exact Er (v5,F6)
   refine aP ?_
   obtain⟨wo,RX,TR⟩:=bind_some hF
   refine xV (fun f' cs'=>∃(og:List Fact)(v67:Sv)(F68:List Nat)(g:Fr),og=wo/\f'=aN g [(0,aa.v),(5,v67.v)]/\aK cs' [dV aa ai,fV F68 v67 og]) ?_ ?_
   · replace hF:=RX
     refine aY (jM (.t .h) bq ?_)
     refine bK (m:=d_.length) (fun Vl f' cs'=>∃(g:Fr)(kY:Nat)(mV wB:List Fact)(v45:Sv)(F46:List Nat),Vl=mV.length/\f'=aN g [(0,aa.v),(5,v45.v),(6,r_.1.v),(7,(zi (kY:Int)))]/\List.drop kY d_=mV/\aK cs' [dV aa ai,fV F46 v45 wB,dD r_.1 d_]/\Em mV kY wB=some wo) ⟨_,0,_,_,v5,F6,rfl,ay,rfl,ax,hF⟩ ?_
     rintro Vl _ _ ⟨g49,kY,mV,wB,v45,F46,rfl,rfl,Uu,hE,hF⟩
     refine Kb hE d_ (fun ayo=>?_)
     rcases mV with _|⟨tO,mV⟩
     · have ad':=dn Uu
       rw[Em]at hF
       refine bF ?_
       refine cO ?_
       refine aP ?_
       cases hF
       exact⟨_,v45,F46,_,rfl,ay,ax⟩
     obtain⟨ad',ma,aea⟩:=bW Uu
     rw[Em]at hF
     refine bF ?_
     refine cK ?_
     refine bu ?_
     refine Ai ma (fun k59 j60=>?_)
     refine iw (ky tO) kL (fun p61=>?_)
     refine bnd hF fun Vg KC hF=>l9 (.cons .q3 (.rd .h rfl .nil)) (gH bq (fun _=>(.cons .nil)) (bU Ke.h bN (II KC))) (fun p64=>?_)
     refine bF ?_
     rw[wk kY]
     exact⟨_,bO _,_,kY+1,mV,_,p64.1,p64.2,rfl,ay,aea,ax,hF⟩
   rintro _ _ ⟨og,v67,F68,g69,rfl,rfl,hE⟩
   replace hF:=TR
   try dsimp only at hF
   refine yf hE ?_
   cases hF
   exact⟨_,v67,F68,_,rfl,ay,ax⟩
 rintro _ _ ⟨jP,v72,u_,g74,rfl,rfl,hE⟩
 replace hF:=yK
 try dsimp only at hF
 refine yf hE ?_
 exact⟨m7,bO _,_,_,v72,u_,ay,ax,hF⟩
def H7:List Int->Nat->(List Int)->Option (Reached)
 |[],tQ,c31=>some (⟨[],c31,[],0⟩:Reached)
 |x39::BP,tQ,c31=>((lI x39 0 9).bind fun wz=>
     if wz then (
       (Bl c31 x39).bind fun Ld=>
       some Ld)
     else (
       some c31)).bind fun y8=>
   match y8 with
   |c59=>H7 BP (tQ+1) c59
def Px(lH:List Int):Option (Reached):=
 H7 lH 0 ([]:List Int)
theorem an'{lH:List Int}{aa:Sv}{R:Reached}(hF:Px lH=some R):
   Fw.Spec Tryz.prog 162 [aa.v] [ag aa lH] (fun p:Sv×List Nat×Sv×List Nat×Sv×List Nat=>(zg [p.1.v,p.2.2.1.v,p.2.2.2.2.1.v,(zi R.Rounds)])) (fun p=>[fV p.2.1 p.1 R.Facts,a_ p.2.2.2.1 p.2.2.1 R.Values,wR p.2.2.2.2.2 p.2.2.2.2.1 R.Log]):=by
 refine Se 26 Tryz.func162 [.cell 2 160] ?_
 intro H0 F0
 unfold Px at hF
 refine au ?_
 refine dJ (fun k1=>?_)
 refine bg ?_
 refine aO (gy Cq.h rfl (vs:=[]) .nil (cells:=[(.slice none 0 0),(.slice none 0 0),(.slice none 0 0),(zi 0)]) rfl) ?_
 refine dJ (fun k2=>?_)
 refine As (.agg ([(.slice none 0 0),(.slice none 0 0),(.slice none 0 0),(zi 0)]:List Value).toArray) ?_
 refine aX ?_
 refine aY (bK (m:=lH.length) (fun m35 f' cs'=>∃(g:Fr)(tQ:Nat)(BP c31:List Int)(v32:Sv)(Aj:List Nat),m35=BP.length/\f'=aN g [(0,aa.v),(2,(pz k1)),(3,(pz k2)),(4,(zi (tQ:Int)))]/\List.drop tQ lH=BP/\aK cs' [ag aa lH,bS k1 160 (.agg ([(.slice none 0 0),(.slice none 0 0),(.slice none 0 0),(zi 0)]:List Value).toArray),bS k2 160 (zg [(.slice none 0 0),v32.v,(.slice none 0 0),(zi 0)]),a_ Aj v32 c31]/\H7 BP tQ c31=some R) ⟨_,0,_,_,⟨none,0,0⟩,[],rfl,ay,rfl,(.conv .nil (fH (Ro:=(aj aH)) (E:=3)) (.cons .nil) ax),hF⟩ ?_)
 rintro m35 _ _ ⟨g36,tQ,BP,c31,v32,Aj,rfl,rfl,al4,hE,hF⟩
 refine Kb hE lH (fun aEt=>?_)
 rcases BP with _|⟨x39,BP⟩
 · have aAO:=dn al4
   rw[H7]at hF
   refine bF ?_
   refine cO ?_
   refine bu ?_
   refine As (zg [(.slice none 0 0),v32.v,(.slice none 0 0),(zi 0)]) ?_
   refine bg ?_
   cases hF
   exact gL (⟨none,0,0⟩,[],v32,Aj,⟨none,0,0⟩,[]) (.cellA rfl rfl .h rfl RQ.h Cq.h.sz rfl rfl .nil) rfl (.conv .nil (fH (Ro:=fP) (E:=147)) (.cons .nil) (.conv .nil (fH (Ro:=sJ) (E:=145)) (.cons .nil) (.sel (.cons (.t .h) (.cons .q4 (.cons .h .nil))))))
 obtain⟨aAO,Gx,Za⟩:=bW al4
 rw[H7]at hF
 refine bF ?_
 refine cK ?_
 refine au ?_
 obtain⟨y8,R5,Uv⟩:=bind_some hF
 refine fD (fun f' cs'=>∃(c59:List Int)(v60:Sv)(tN:List Nat)(g:Fr),c59=y8/\f'=aN g [(0,aa.v),(2,(pz k1)),(3,(pz k2)),(4,(zi (tQ:Int)))]/\aK cs' [ag aa lH,bS k1 160 (.agg ([(.slice none 0 0),(.slice none 0 0),(.slice none 0 0),(zi 0)]:List Value).toArray),bS k2 160 (zg [(.slice none 0 0),v60.v,(.slice none 0 0),(zi 0)]),a_ tN v60 c59]) ?_ ?_
 · replace hF:=R5
   refine aY (cu (Cm aa.v rfl rfl ?_))
   refine au ?_
   refine Ai Gx (fun k48 j49=>?_)
   refine Al dG ?_
   refine bnd hF fun wz KF hF=>bJ (nR KF) (fun _=>?_)
   refine au ?_
   refine Ci hF (fun KG hF=>?_) (fun KG hF=>?_)
   · refine kM [0,1,2,3,4,5,6,7,8] [0,1,0,0,12,28,63,127,255] [6,8] mixed (by decide+kernel) ?_
     refine du ?_
     refine ed rfl .no .q3 (fun ha hp=>fI (v:=v32.v) iF.h (EN ha (.tmp rfl rfl) rfl) hp.2 rfl rfl) ?_
     refine cB ?_
     refine Di Gx (fun k53 j54=>?_)
     refine Dl dG ?_
     refine bnd hF fun Ld Ki hF=>ni (Qd Ki) (fun p57=>?_)
     refine du ?_
     refine df rfl rfl .no (.cons .q5 .nil) (.dep rfl .nil) (fun ha=>gF (e':=(zg [(.slice none 0 0),p57.1.v,(.slice none 0 0),(zi 0)])) lQ.h.sz (EN ha (.tmp rfl rfl) rfl) (EN ha (.tmp rfl rfl) rfl) rfl rfl rfl rfl rfl) (fun _=>?_)
     refine du ?_
     cases hF
     exact⟨_,p57.1,p57.2,_,rfl,ay,ax⟩
   refine au ?_
   cases hF
   exact⟨_,v32,Aj,_,rfl,ay,ax⟩
 rintro _ _ ⟨c59,v60,tN,g63,rfl,rfl,hE⟩
 replace hF:=Uv
 try dsimp only at hF
 refine bH hE ?_
 refine aX ?_
 rw[wk tQ]
 exact⟨_,bO _,_,tQ+1,BP,_,v60,tN,rfl,ay,Za,ax,hF⟩
def Ev(vY:List (List Int))(c212:Int):List Int->Nat->(List (List Int))->Option ((List (List Int)))
 |[],z_,KH=>some KH
 |Zr::Bt,z_,KH=>(ix vY c212).bind fun al5=>
   (app ([]:List Int) al5).bind fun al6=>
   (app al6 ([Zr]:List Int)).bind fun aeb=>
   (app KH ([aeb]:List (List Int))).bind fun al7=>
   Ev vY c212 Bt (z_+1) al7
def IM(eu:List Int):Nat->(List (List Int))->(List (List Int))->Int->Option ((List (List Int)))
 |0,_,_,_=>none
 |KI+1,vY,Oo,c212=>if (decide ((c212:Int)<(vY.length:Int)))then (
     (Ev vY c212 eu 0 Oo).bind fun Zt=>
     match Zt with
     |xh=>IM eu KI vY xh (IntKind.i64.wrap (c212+1)))
   else (
     some Oo)
def IP(eu:List Int)(bT:Int):Nat->(List (List Int))->Int->Option ((List (List Int)))
 |0,_,_=>none
 |m7+1,c3,c6=>if (decide ((c6:Int)<bT))then (
     (IM eu (((c3.length:Int)-0).toNat+2) c3 ([]:List (List Int)) 0).bind fun nP=>
     match nP with
     |Uw=>IP eu bT m7 Uw (IntKind.i64.wrap (c6+1)))
   else (
     some c3)
def Qz(eu:List Int)(bT:Int):Option ((List (List Int))):=
 IP eu bT ((bT-0).toNat+2) ([([]:List Int)]:List (List Int)) 0
theorem apN{eu:List Int}{aa:Sv}{bT:Int}{R:(List (List Int))}(hF:Qz eu bT=some R):
   Fw.Spec Tryz.prog 236 [aa.v,(zi bT)] [ag aa eu] (fun p:Sv×List Nat=>p.1.v) (fun p=>[aD (az 22 (az 3 (aj aH))) p.2 p.1.v R]):=by
 refine Se 47 Tryz.func236 [.tmp 4] ?_
 intro H0 F0
 unfold Qz at hF
 refine aP ?_
 refine dx rfl (bV (g:=true) cz.h cZ.h .nil (vs:=[]) rfl rfl rfl (by simp)) (fun k1=>?_)
 refine dH (.cons .h .nil) (bY (Ro:=(aj aH)) (E:=3) (F:=[]) (xs:=([]:List Int)) bX rfl rfl) ?_
 refine dx rfl (bV (g:=true) vI.h lQ.h bN (vs:=[(.slice (some ⟨k1,0,none⟩) 0 1)]) rfl rfl rfl (by intro v hv; simp at hv; rcases hv with rfl<;>rfl)) (fun k2=>?_)
 refine dH (.cons .h (.cons .h .nil)) (bY (Ro:=(az 3 (aj aH))) (E:=22) (F:=((k1::[])++[])) (xs:=([([]:List Int)]:List (List Int))) (eF NB bX dm) rfl rfl) ?_
 refine bu ?_
 refine aY (bK (m:=((bT-0).toNat+2)) (fun m7 f' cs'=>∃(g:Fr)(c3:List (List Int))(c6:Int)(v4:Sv)(F5:List Nat),f'=aN g [(0,aa.v),(1,(zi bT)),(5,v4.v),(6,(zi c6))]/\aK cs' [ag aa eu,aD (az 22 (az 3 (aj aH))) F5 v4.v c3]/\IP eu bT m7 c3 c6=some R) ⟨_,_,_,⟨(some ⟨k2,0,none⟩),1,1⟩,(k2::((k1::[])++[])),ay,ax,hF⟩ ?_)
 rintro m7 _ _ ⟨g8,c3,c6,v4,F5,rfl,hE,hF⟩
 refine bH hE ?_
 rcases m7 with _|m7
 · rw[IP]at hF
   exact absurd hF (by simp)
 rw[IP]at hF
 refine bu ?_
 refine Ci hF (fun ayp hF=>?_) (fun ayp hF=>?_)
 · refine au ?_
   obtain⟨nP,Ct,yK⟩:=bind_some hF
   refine fD (fun f' cs'=>∃(Uw:List (List Int))(Zu:Sv)(aec:List Nat)(g:Fr),Uw=nP/\f'=aN g [(0,aa.v),(1,(zi bT)),(5,Zu.v),(6,(zi c6))]/\aK cs' [ag aa eu,aD (az 22 (az 3 (aj aH))) aec Zu.v Uw]) ?_ ?_
   · replace hF:=Ct
     refine aY (cu (dx rfl (bV (g:=true) vI.h lQ.h .nil (vs:=[]) rfl rfl rfl (by simp)) (fun k17=>?_)))
     refine dH (.cons .h .nil) (bY (Ro:=(az 3 (aj aH))) (E:=22) (F:=[]) (xs:=([]:List (List Int))) bX rfl rfl) ?_
     refine bu ?_
     refine aY (bK (m:=(((c3.length:Int)-0).toNat+2)) (fun KI f' cs'=>∃(g:Fr)(vY Oo:List (List Int))(c212:Int)(v208 v210:Sv)(Zv:List Nat),f'=aN g [(0,aa.v),(1,(zi bT)),(5,v208.v),(6,(zi c6)),(7,v210.v),(8,(zi c212))]/\aK cs' [ag aa eu,aR (aI 22 (aI 3 aH)) v208.v vY,aD (az 22 (az 3 (aj aH))) Zv v210.v Oo]/\IM eu KI vY Oo c212=some nP) ⟨_,_,_,_,v4,⟨(some ⟨k17,0,none⟩),0,1⟩,(k17::[]),ay,(.frz .q2 bq ax),hF⟩ ?_)
     rintro KI _ _ ⟨aHK,vY,Oo,c212,v208,v210,Zv,rfl,hE,hF⟩
     refine bH hE ?_
     rcases KI with _|KI
     · rw[IM]at hF
       exact absurd hF (by simp)
     rw[IM]at hF
     refine bF ?_
     refine Ci hF (fun ayq hF=>?_) (fun ayq hF=>?_)
     · refine au ?_
       obtain⟨Zt,auo,ayr⟩:=bind_some hF
       refine fD (fun f' cs'=>∃(xh:List (List Int))(CS:Sv)(Oh:List Nat)(g:Fr),xh=Zt/\f'=aN g [(0,aa.v),(1,(zi bT)),(5,v208.v),(6,(zi c6)),(7,CS.v),(8,(zi c212))]/\aK cs' [ag aa eu,aR (aI 22 (aI 3 aH)) v208.v vY,aD (az 22 (az 3 (aj aH))) Oh CS.v xh]) ?_ ?_
       · replace hF:=auo
         refine aY (cu (aO (iZ (v:=(zi 0)) (.int _ _)) ?_))
         refine au ?_
         refine aY (bK (m:=eu.length) (fun al8 f' cs'=>∃(g:Fr)(z_:Nat)(Bt:List Int)(KH:List (List Int))(Zw:Sv)(aed:List Nat),al8=Bt.length/\f'=aN g [(0,aa.v),(1,(zi bT)),(5,v208.v),(6,(zi c6)),(7,Zw.v),(8,(zi c212)),(9,(zi (z_:Int)))]/\List.drop z_ eu=Bt/\aK cs' [ag aa eu,aR (aI 22 (aI 3 aH)) v208.v vY,aD (az 22 (az 3 (aj aH))) aed Zw.v KH]/\Ev vY c212 Bt z_ KH=some Zt) ⟨_,0,_,_,v210,Zv,rfl,ay,rfl,ax,hF⟩ ?_)
         rintro al8 _ _ ⟨aHL,z_,Bt,KH,Zw,aed,rfl,rfl,akE,hE,hF⟩
         refine Kb hE eu (fun aCU=>?_)
         rcases Bt with _|⟨Zr,Bt⟩
         · have ays:=dn akE
           rw[Ev]at hF
           refine bF ?_
           refine cO ?_
           refine aP ?_
           cases hF
           exact⟨_,Zw,aed,_,rfl,ay,ax⟩
         obtain⟨ays,ayt,ayu⟩:=bW akE
         rw[Ev]at hF
         refine bF ?_
         refine cK ?_
         refine bg ?_
         refine kM [0,1,2,3,4,5,7,8,9,10,11,6,12,13,14,15] [0,0,0,0,12,28,62,0,0,384,896,1920,4094,8190,16383,32767] [6,12,14] mixed (by decide+kernel) ?_
         refine du ?_
         refine iq rfl .no rfl (fun ha=>bV (g:=true) (len:=0) (parts:=[]) cz.h cZ.h .nil (vs:=[]) rfl rfl rfl (by simp)) (fun aHM=>?_)
         refine jF (.cons .h .nil) (bY (Ro:=(aj aH)) (E:=3) (F:=[]) (xs:=([]:List Int)) bX rfl rfl) ?_
         refine cB ?_
         refine zI hF fun al5 aEu ayv hF=>?_
         refine Di ayv (fun aHN aHO=>?_)
         refine uA (R':=(aI 3 aH)) iF.h rfl .no (.tmp rfl rfl) rfl .h Rs (fun aHP=>?_)
         refine cB ?_
         refine Di ayt (fun aHQ aHR=>?_)
         refine Dl dG ?_
         refine iq rfl .no rfl (fun ha=>bV (g:=true) (len:=1) (parts:=[(0,.tmp 40)]) cz.h cZ.h (.cons (EN ha (.tmp rfl rfl) rfl) .nil) (vs:=[(zi Zr)]) rfl rfl rfl (by intro v hv; simp at hv; rcases hv with rfl<;>rfl)) (fun aHS=>?_)
         refine jF (.cons .h .nil) (bY (Ro:=(aj aH)) (E:=3) (F:=([]++[])) (xs:=([Zr]:List Int)) (eF (jd (fun _=>rfl)) bX dm) rfl rfl) ?_
         refine bnd hF fun al6 ayw hF=>df rfl rfl .no (.cons .q4 (.rd .q2 rfl .nil)) (.own .h (by simp[aD]) (.dep rfl .nil)) (fun ha=>ek (Ro:=(aj aH)) cz.h iL cZ.h rfl rfl rfl (EN ha (.tmp rfl rfl) rfl) (EN ha (.tmp rfl rfl) rfl) ayw rE) (fun aHT=>?_)
         refine bnd hF fun aeb ayx hF=>df rfl rfl .no (.cons .h (.cons .h .nil)) (.dep rfl (.dep rfl .nil)) (fun ha=>ek (Ro:=(aj aH)) cz.h iL cZ.h rfl rfl rfl (EN ha (.tmp rfl rfl) rfl) (EN ha (.tmp rfl rfl) rfl) ayx fM) (fun al9=>?_)
         refine iq rfl .no rfl (fun ha=>bV (g:=true) (len:=1) (parts:=[(0,.tmp 42)]) vI.h lQ.h (.cons (EN ha (.tmp rfl rfl) rfl) .nil) (vs:=[al9.1.v]) rfl rfl rfl (by intro v hv; simp at hv; rcases hv with rfl<;>rfl)) (fun aHU=>?_)
         refine jF (.cons .h (.cons .h .nil)) (bY (Ro:=(az 3 (aj aH))) (E:=22) (F:=(al9.2++[])) (xs:=([aeb]:List (List Int))) (eF NB bX dm) rfl rfl) ?_
         refine bnd hF fun al7 ayy hF=>df rfl rfl .no (.cons .q6 (.cons .h .nil)) (.dep rfl (.dep rfl (.dep rfl .nil))) (fun ha=>ek (Ro:=(az 3 (aj aH))) vI.h akd lQ.h rfl rfl rfl (EN ha (.tmp rfl rfl) rfl) (EN ha (.tmp rfl rfl) rfl) ayy fM) (fun al_=>?_)
         refine cB ?_
         refine aX ?_
         rw[wk z_]
         exact⟨_,bO _,_,z_+1,Bt,_,al_.1,al_.2,rfl,ay,ayu,ax,hF⟩
       rintro _ _ ⟨xh,CS,Oh,aHV,rfl,rfl,hE⟩
       replace hF:=ayr
       try dsimp only at hF
       refine bH hE ?_
       refine aX ?_
       exact⟨KI,bO _,_,_,_,_,v208,CS,Oh,ay,ax,hF⟩
     refine eD ?_
     cases hF
     exact⟨_,v210,Zv,_,rfl,ay,ax⟩
   rintro _ _ ⟨Uw,Zu,aec,aHW,rfl,rfl,hE⟩
   replace hF:=yK
   try dsimp only at hF
   refine bH hE ?_
   refine aX ?_
   exact⟨m7,bO _,_,_,_,Zu,aec,ay,ax,hF⟩
 refine eG ?_
 cases hF
 exact Er (v4,F5)
def M3(bE:Int)(eu:List Int):Option (Access):=
 (app ([]:List Int) eu).bind fun z3=>
 some (⟨bE,z3⟩:Access)
theorem af_{bE:Int}{eu:List Int}{aA:Sv}{R:Access}(hF:M3 bE eu=some R):
   Fw.Spec Tryz.prog 166 [(zi bE),aA.v] [ag aA eu] (fun p:Sv×List Nat=>(zg [(zi R.Method),p.1.v])) (fun p=>[a_ p.2 p.1 R.Values]):=by
 refine Se 10 Tryz.func166 [.cell 4 145] ?_
 intro H0 F0
 unfold M3 at hF
 refine au ?_
 refine dJ (fun k1=>?_)
 refine bC ?_
 refine dx rfl (bV (g:=true) cz.h cZ.h .nil (vs:=[]) rfl rfl rfl (by simp)) (fun k2=>?_)
 refine dH (.cons .h .nil) (bY (Ro:=(aj aH)) (E:=3) (F:=[]) (xs:=([]:List Int)) bX rfl rfl) ?_
 refine au ?_
 refine bnd hF fun z3 hx4 hF=>dU (.cons .h (.rd (.t .h) rfl .nil)) (ek (Ro:=(aj aH)) cz.h iL cZ.h rfl rfl rfl (.tmp rfl rfl) (.tmp rfl rfl) hx4 rE) (fun p5=>?_)
 refine aO (gy kQ.h rfl (vs:=[(zi bE),p5.1.v]) bN (cells:=[(zi bE),p5.1.v]) rfl) ?_
 refine As (zg [(zi bE),p5.1.v]) ?_
 refine bg ?_
 cases hF
 exact Er (p5.1,p5.2)
def Nq(ae:Access)(aL:Access):Option (Bool):=
 (bif ((ae.Method:Int)==aL.Method)then ((QS ae.Values aL.Values).bind fun r6=>
     some r6)
   else (some false)).bind fun o3=>
 match o3 with
 |c9=>some c9
theorem aqs{ae:Access}{aM:Sv}{aL:Access}{aW:Sv}{R:Bool}(hF:Nq ae aL=some R):
   Fw.Spec Tryz.prog 281 [(zg [(zi ae.Method),aM.v]),(zg [(zi aL.Method),aW.v])] [ag aM ae.Values,ag aW aL.Values] (fun _:Unit=>(.bool R)) (fun _=>[]):=by
 refine Se 17 Tryz.func281 [.tmp 4] ?_
 intro H0 F0
 unfold Nq at hF
 refine au ?_
 refine bM (fun k1=>?_)
 refine bM (fun k2=>?_)
 refine bg ?_
 obtain⟨o3,vX,hO4⟩:=bind_some hF
 refine au ?_
 refine gG (fun f' cs'=>∃(c9:Bool)(g:Fr),c9=o3/\f'=aN g [(4,(.bool c9))]/\aK cs' []) ?_ ?_
 · replace hF:=vX
   refine bu ?_
   rcases dK ((ae.Method:Int)==aL.Method)with hg5|hg5
   · rw[hg5]
     try rw[hg5]at hF; dsimp only[bB,bA]at hF
     refine eG ?_
     refine bnd hF fun r6 hx7 hF=>bJ (agG hx7) (fun _=>?_)
     exact dw hF
   rw[hg5]
   try rw[hg5]at hF; dsimp only[bB,bA]at hF
   exact dw hF
 rintro _ _ ⟨c9,g10,rfl,rfl,hE⟩
 replace hF:=hO4
 try dsimp only at hF
 refine bH hE ?_
 exact ze hF
def Ml(ae:Access):List Access->Nat->Option (Bool)
 |[],k5=>some false
 |x7::bR,k5=>(Nq x7 ae).bind fun d_=>
   if d_ then (
     some true)
   else (
     Ml ae bR (k5+1))
def Qi(FH:List Access)(ae:Access):Option (Bool):=
 Ml ae FH 0
theorem apa{FH:List Access}{aa:Sv}{ae:Access}{aW:Sv}{R:Bool}(hF:Qi FH ae=some R):
   Fw.Spec Tryz.prog 237 [aa.v,(zg [(zi ae.Method),aW.v])] [oI aa FH,ag aW ae.Values] (fun _:Unit=>(.bool R)) (fun _=>[]):=by
 refine Se 18 Tryz.func237 [.tmp 4] ?_
 intro H0 F0
 unfold Qi at hF
 refine au ?_
 refine bM (fun k1=>?_)
 refine bu ?_
 refine aY (bK (m:=FH.length) (fun m3 f' cs'=>∃(g:Fr)(k5:Nat)(bR:List Access),m3=bR.length/\f'=aN g [(0,aa.v),(3,(pz k1)),(5,(zi (k5:Int)))]/\List.drop k5 FH=bR/\aK cs' [oI aa FH,aQ k1 145 (zg [(zi ae.Method),aW.v]),ag aW ae.Values]/\Ml ae bR k5=some R) ⟨_,0,_,rfl,ay,rfl,ax,hF⟩ ?_)
 rintro m3 _ _ ⟨g4,k5,bR,rfl,rfl,iR,hE,hF⟩
 refine Kb hE FH (fun wU=>?_)
 rcases bR with _|⟨x7,bR⟩
 · have lW:=dn iR
   rw[Ml]at hF
   refine bF ?_
   refine cO ?_
   exact ze hF
 obtain⟨lW,fU,fZ⟩:=bW iR
 rw[Ml]at hF
 refine bF ?_
 refine cK ?_
 refine bg ?_
 refine dS [0,1,2,3,4,5] [0,0,3,7,0,31] [5] mixed (by decide+kernel) ?_
 refine cB ?_
 refine Di fU (fun k14 GQ=>?_)
 refine qM (PS x7) WC (fun p16=>?_)
 refine du ?_
 refine bnd hF fun d_ gq hF=>jk (aqs gq) (fun _=>?_)
 refine du ?_
 refine Ci hF (fun yz hF=>?_) (fun yz hF=>?_)
 · exact ze hF
 refine bu ?_
 rw[wk k5]
 exact⟨_,bO _,_,k5+1,bR,rfl,ay,fZ,ax,hF⟩
def AU(bG:Reached)(k9:Nat):List (List Int)->Nat->(List Access)->Option ((List Access))
 |[],ww,c64=>some c64
 |x72::BQ,ww,c64=>((M3 (k9:Int) x72).bind fun OA=>
     (Qi bG.Log OA).bind fun r88=>
     if (!r88)then (
       (app c64 ([OA]:List Access)).bind fun Le=>
       some Le)
     else (
       some c64)).bind fun o79=>
   match o79 with
   |Vm=>AU bG k9 BQ (ww+1) Vm
def EB(bG:Reached):List Method->Nat->(List Access)->Option ((List Access))
 |[],k9,c3=>some c3
 |eP::dM,k9,c3=>(if ((eP.Limit:Int)!=0)then (
       some c3)
     else (
       (Qz bG.Values (eP.Inputs.length:Int)).bind fun jl=>
       AU bG k9 jl 0 c3)).bind fun iH=>
   match iH with
   |tF=>EB bG dM (k9+1) tF
def E8(ai:List Method)(bG:Reached):Option ((List Access)):=
 EB bG ai 0 ([]:List Access)
theorem agH{ai:List Method}{aa:Sv}{bG:Reached}{aA aW kV:Sv}{R:(List Access)}(hF:E8 ai bG=some R):
   Fw.Spec Tryz.prog 163 [aa.v,(zg [aA.v,aW.v,kV.v,(zi bG.Rounds)])] [dO aa ai,dD aA bG.Facts,ag aW bG.Values,oI kV bG.Log] (fun p:Sv×List Nat=>p.1.v) (fun p=>[wR p.2 p.1 R]):=by
 refine Se 54 Tryz.func163 [.tmp 4] ?_
 intro H0 F0
 unfold E8 at hF
 refine au ?_
 refine bM (fun k1=>?_)
 refine bC ?_
 refine dx rfl (bV (g:=true) nI.h kQ.h .nil (vs:=[]) rfl rfl rfl (by simp)) (fun k2=>?_)
 refine dH (.cons .h .nil) (bY (Ro:=sJ) (E:=145) (F:=[]) (xs:=([]:List Access)) bX rfl rfl) ?_
 refine bu ?_
 refine aY (bK (m:=ai.length) (fun m7 f' cs'=>∃(g:Fr)(k9:Nat)(dM:List Method)(c3:List Access)(v4:Sv)(F5:List Nat),m7=dM.length/\f'=aN g [(0,aa.v),(3,(pz k1)),(5,v4.v),(6,(zi (k9:Int)))]/\List.drop k9 ai=dM/\aK cs' [dO aa ai,aQ k1 160 (zg [aA.v,aW.v,kV.v,(zi bG.Rounds)]),dD aA bG.Facts,ag aW bG.Values,oI kV bG.Log,wR F5 v4 c3]/\EB bG dM k9 c3=some R) ⟨_,0,_,_,⟨(some ⟨k2,0,none⟩),0,1⟩,(k2::[]),rfl,ay,rfl,ax,hF⟩ ?_)
 rintro m7 _ _ ⟨g8,k9,dM,c3,v4,F5,rfl,rfl,j4,hE,hF⟩
 refine Kb hE ai (fun FE=>?_)
 rcases dM with _|⟨eP,dM⟩
 · have qR:=dn j4
   rw[EB]at hF
   refine bF ?_
   refine cO ?_
   refine eG ?_
   cases hF
   exact Er (v4,F5)
 obtain⟨qR,iA,nX⟩:=bW j4
 rw[EB]at hF
 refine bF ?_
 refine cK ?_
 refine au ?_
 obtain⟨iH,qD,qQ⟩:=bind_some hF
 refine fD (fun f' cs'=>∃(tF:List Access)(Zx:Sv)(aee:List Nat)(g:Fr),tF=iH/\f'=aN g [(0,aa.v),(3,(pz k1)),(5,Zx.v),(6,(zi (k9:Int)))]/\aK cs' [dO aa ai,aQ k1 160 (zg [aA.v,aW.v,kV.v,(zi bG.Rounds)]),dD aA bG.Facts,ag aW bG.Values,oI kV bG.Log,wR aee Zx tF]) ?_ ?_
 · replace hF:=qD
   refine aY (h_ (cu (Cm aa.v rfl rfl ?_)))
   refine au ?_
   refine Ai iA (fun k20 uY=>?_)
   refine au ?_
   refine Al at6 ?_
   refine bg ?_
   refine Ci hF (fun acM hF=>?_) (fun acM hF=>?_)
   · refine bC ?_
     cases hF
     exact⟨_,v4,F5,_,rfl,ay,ax⟩
   refine au ?_
   refine dS [0,1,2,3,4,5,6,7,8,9] [0,1,0,0,12,28,60,124,255,511] [8] mixed (by decide+kernel) ?_
   refine sU ?_
   refine Di iA (fun k22 j23=>?_)
   refine du ?_
   refine uA (R':=(aI 3 aH)) iF.h rfl .no (.tmp rfl rfl) rfl .h at7 (fun w24=>?_)
   refine du ?_
   refine bnd hF fun jl ll hF=>ni (apN ll) (fun p27=>?_)
   refine cB ?_
   refine bC ?_
   refine aY (jM .h bq ?_)
   refine bK (m:=jl.length) (fun m68 f' cs'=>∃(g:Fr)(ww:Nat)(BQ:List (List Int))(c64:List Access)(v65:Sv)(F66:List Nat),m68=BQ.length/\f'=aN g [(0,aa.v),(3,(pz k1)),(5,v65.v),(6,(zi (k9:Int))),(7,p27.1.v),(8,(zi (ww:Int)))]/\List.drop ww jl=BQ/\aK cs' [dO aa ai,aQ k1 160 (zg [aA.v,aW.v,kV.v,(zi bG.Rounds)]),dD aA bG.Facts,ag aW bG.Values,oI kV bG.Log,wR F66 v65 c64,aR (aI 22 (aI 3 aH)) p27.1.v jl]/\AU bG k9 BQ ww c64=some iH) ⟨_,0,_,_,v4,F5,rfl,ay,rfl,ax,hF⟩ ?_
   rintro m68 _ _ ⟨g69,ww,BQ,c64,v65,F66,rfl,rfl,ama,hE,hF⟩
   refine Kb hE jl (fun aEv=>?_)
   rcases BQ with _|⟨x72,BQ⟩
   · have aAP:=dn ama
     rw[AU]at hF
     refine bF ?_
     refine cO ?_
     refine aP ?_
     cases hF
     exact⟨_,v65,F66,_,rfl,ay,ax⟩
   obtain⟨aAP,aAQ,aAR⟩:=bW ama
   rw[AU]at hF
   refine bF ?_
   refine cK ?_
   refine au ?_
   obtain⟨o79,ayz,aAS⟩:=bind_some hF
   refine fD (fun f' cs'=>∃(Vm:List Access)(v97:Sv)(F98:List Nat)(g:Fr),Vm=o79/\f'=aN g [(0,aa.v),(3,(pz k1)),(5,v97.v),(6,(zi (k9:Int))),(7,p27.1.v),(8,(zi (ww:Int)))]/\aK cs' [dO aa ai,aQ k1 160 (zg [aA.v,aW.v,kV.v,(zi bG.Rounds)]),dD aA bG.Facts,ag aW bG.Values,oI kV bG.Log,wR F98 v97 Vm,aR (aI 22 (aI 3 aH)) p27.1.v jl]) ?_ ?_
   · replace hF:=ayz
     refine aY (cu (Cm (zi (k9:Int)) rfl rfl ?_))
     refine bg ?_
     refine Ai aAQ (fun k81 j82=>?_)
     refine wP (R':=(aI 3 aH)) iF.h (.tmp rfl rfl) .h Rs (fun w83=>?_)
     refine bnd hF fun OA Gv hF=>fq (af_ Gv) (fun p86=>?_)
     refine dJ (fun k87=>?_)
     refine As (zg [(zi OA.Method),p86.1.v]) ?_
     refine aX ?_
     refine bnd hF fun r88 aAT hF=>dU (.cons (.t .h) (.rd .q7 rfl .nil)) (gH bq (fun _=>.nil) (jA (.rd (.t .h) rfl (.rd .h rfl .nil)) (bU awN.h bN (apa aAT)))) (fun _=>?_)
     refine bg ?_
     refine Ci hF (fun aAU hF=>?_) (fun aAU hF=>?_)
     · refine bC ?_
       refine dx rfl (bV (g:=true) nI.h kQ.h bN (vs:=[(zg [(zi OA.Method),p86.1.v])]) rfl rfl rfl (by intro v hv; simp at hv; rcases hv with rfl<;>rfl)) (fun k91=>?_)
       refine dH (.cons .h (.cons .h .nil)) (bY (Ro:=sJ) (E:=145) (F:=(p86.2++[])) (xs:=([OA]:List Access)) (eF ake bX dm) rfl rfl) ?_
       refine bnd hF fun Le hx93 hF=>dU (.cons .q9 (.cons .h .nil)) (ek (Ro:=sJ) nI.h Y1 kQ.h rfl rfl rfl (.tmp rfl rfl) (.tmp rfl rfl) hx93 fM) (fun y9=>?_)
       refine bg ?_
       cases hF
       exact⟨_,y9.1,y9.2,_,rfl,ay,ax⟩
     refine au ?_
     cases hF
     exact⟨_,v65,F66,_,rfl,ay,ax⟩
   rintro _ _ ⟨Vm,v97,F98,aHX,rfl,rfl,hE⟩
   replace hF:=aAS
   try dsimp only at hF
   refine bH hE ?_
   refine aX ?_
   rw[wk ww]
   exact⟨_,bO _,_,ww+1,BQ,_,v97,F98,rfl,ay,aAR,ax,hF⟩
 rintro _ _ ⟨tF,Zx,aee,aHY,rfl,rfl,hE⟩
 replace hF:=qQ
 try dsimp only at hF
 refine bH hE ?_
 refine aX ?_
 rw[wk k9]
 exact⟨_,bO _,_,k9+1,dM,_,Zx,aee,rfl,ay,nX,ax,hF⟩
def I_(eu:List Int)(aU:Fact):List Int->Nat->Option (Bool)
 |[],k6=>some true
 |x8::oJ,k6=>(ix aU.Values x8).bind fun wC=>
   (ix eu (k6:Int)).bind fun qx=>
   if ((wC:Int)!=qx)then (
     some false)
   else (
     I_ eu aU oJ (k6+1))
def QV(bE:Method)(eu:List Int)(aU:Fact):Option (Bool):=
 if ((aU.Rel:Int)!=bE.Rel)then (
   some false)
 else (
   I_ eu aU bE.Inputs 0)
theorem aqt{bE:Method}{aM:Sv}{eu:List Int}{aA:Sv}{aU:Fact}{dZ:Sv}{R:Bool}(hF:QV bE eu aU=some R):
   Fw.Spec Tryz.prog 207 [(zg [(zi bE.Rel),aM.v,(zi bE.Limit),(zi bE.Cost),(zi bE.Quota)]),aA.v,(zg [(zi aU.Rel),dZ.v])] [ag aM bE.Inputs,ag aA eu,ag dZ aU.Values] (fun _:Unit=>(.bool R)) (fun _=>[]):=by
 refine Se 34 Tryz.func207 [.tmp 6] ?_
 intro H0 F0
 unfold QV at hF
 refine au ?_
 refine bM (fun k1=>?_)
 refine bM (fun k2=>?_)
 refine jD ?_
 refine Ci hF (fun TZ hF=>?_) (fun TZ hF=>?_)
 · exact ze hF
 refine aX ?_
 refine aY (bK (m:=bE.Inputs.length) (fun m4 f' cs'=>∃(g:Fr)(k6:Nat)(oJ:List Int),m4=oJ.length/\f'=aN g [(1,aA.v),(3,(pz k1)),(5,(pz k2)),(7,(zi (k6:Int)))]/\List.drop k6 bE.Inputs=oJ/\aK cs' [ag aA eu,aQ k1 89 (zg [(zi bE.Rel),aM.v,(zi bE.Limit),(zi bE.Cost),(zi bE.Quota)]),ag aM bE.Inputs,aQ k2 147 (zg [(zi aU.Rel),dZ.v]),ag dZ aU.Values]/\I_ eu aU oJ k6=some R) ⟨_,0,_,rfl,ay,rfl,ax,hF⟩ ?_)
 rintro m4 _ _ ⟨g5,k6,oJ,rfl,rfl,U9,hE,hF⟩
 refine Kb hE bE.Inputs (fun axC=>?_)
 rcases oJ with _|⟨x8,oJ⟩
 · have hk10:=dn U9
   rw[I_]at hF
   refine eD ?_
   refine cO ?_
   exact ze hF
 obtain⟨hk10,uQ,j4⟩:=bW U9
 rw[I_]at hF
 refine eD ?_
 refine cK ?_
 refine bg ?_
 refine dS [0,1,2,3,4,5,6,7,8,9,10,11,12,13] [0,1,0,4,0,28,60,127,255,0,0,1536,3584,8191] [] mixed (by decide+kernel) ?_
 refine yx ?_
 refine Di uQ (fun k15 j16=>?_)
 refine Dl dG ?_
 refine zI hF fun wC aAV mJ hF=>?_
 refine Di mJ (fun k21 U4=>?_)
 refine Dl dG ?_
 refine cB ?_
 refine zI hF fun qx amb ll hF=>?_
 refine Di ll (fun k27 j28=>?_)
 refine Dl dG ?_
 refine cB ?_
 refine Ci hF (fun CR hF=>?_) (fun CR hF=>?_)
 · exact ze hF
 refine bu ?_
 rw[wk k6]
 exact⟨_,bO _,_,k6+1,oJ,rfl,ay,j4,ax,hF⟩
def Ib(bE:Method)(eu:List Int):List Fact->Nat->(List Fact)->Option ((List Fact))
 |[],k9,c3=>some c3
 |eP::dM,k9,c3=>((QV bE eu eP).bind fun mO=>
     if mO then (
       (zA eP.Rel eP.Values).bind fun xA=>
       (app c3 ([xA]:List Fact)).bind fun z35=>
       some z35)
     else (
       some c3)).bind fun iH=>
   match iH with
   |rf=>Ib bE eu dM (k9+1) rf
def MM(bE:Method)(eu:List Int)(bn:List Fact):Option ((List Fact)):=
 Ib bE eu bn 0 ([]:List Fact)
theorem aoC{bE:Method}{aM:Sv}{eu:List Int}{aA:Sv}{bn:List Fact}{bi:Sv}{R:(List Fact)}(hF:MM bE eu bn=some R):
   Fw.Spec Tryz.prog 164 [(zg [(zi bE.Rel),aM.v,(zi bE.Limit),(zi bE.Cost),(zi bE.Quota)]),aA.v,bi.v] [ag aM bE.Inputs,ag aA eu,dD bi bn] (fun p:Sv×List Nat=>p.1.v) (fun p=>[fV p.2 p.1 R]):=by
 refine Se 38 Tryz.func164 [.tmp 6] ?_
 intro H0 F0
 unfold MM at hF
 refine au ?_
 refine bM (fun k1=>?_)
 refine bC ?_
 refine dx rfl (bV (g:=true) dX.h dA.h .nil (vs:=[]) rfl rfl rfl (by simp)) (fun k2=>?_)
 refine dH (.cons .h .nil) (bY (Ro:=fP) (E:=147) (F:=[]) (xs:=([]:List Fact)) bX rfl rfl) ?_
 refine bu ?_
 refine aY (bK (m:=bn.length) (fun m7 f' cs'=>∃(g:Fr)(k9:Nat)(dM c3:List Fact)(v4:Sv)(F5:List Nat),m7=dM.length/\f'=aN g [(1,aA.v),(2,bi.v),(3,(pz k1)),(7,v4.v),(8,(zi (k9:Int)))]/\List.drop k9 bn=dM/\aK cs' [ag aA eu,dD bi bn,aQ k1 89 (zg [(zi bE.Rel),aM.v,(zi bE.Limit),(zi bE.Cost),(zi bE.Quota)]),ag aM bE.Inputs,fV F5 v4 c3]/\Ib bE eu dM k9 c3=some R) ⟨_,0,_,_,⟨(some ⟨k2,0,none⟩),0,1⟩,(k2::[]),rfl,ay,rfl,ax,hF⟩ ?_)
 rintro m7 _ _ ⟨g8,k9,dM,c3,v4,F5,rfl,rfl,j4,hE,hF⟩
 refine Kb hE bn (fun FE=>?_)
 rcases dM with _|⟨eP,dM⟩
 · have qR:=dn j4
   rw[Ib]at hF
   refine bF ?_
   refine cO ?_
   refine eG ?_
   cases hF
   exact Er (v4,F5)
 obtain⟨qR,iA,nX⟩:=bW j4
 rw[Ib]at hF
 refine bF ?_
 refine cK ?_
 refine au ?_
 obtain⟨iH,qD,qQ⟩:=bind_some hF
 refine fD (fun f' cs'=>∃(rf:List Fact)(v40:Sv)(F41:List Nat)(g:Fr),rf=iH/\f'=aN g [(1,aA.v),(2,bi.v),(3,(pz k1)),(7,v40.v),(8,(zi (k9:Int)))]/\aK cs' [ag aA eu,dD bi bn,aQ k1 89 (zg [(zi bE.Rel),aM.v,(zi bE.Limit),(zi bE.Cost),(zi bE.Quota)]),ag aM bE.Inputs,fV F41 v40 rf]) ?_ ?_
 · replace hF:=qD
   refine aY (dS [0,1,2,3,4,5,6] [0,0,0,0,12,28,63] [6] mixed (by decide+kernel) ?_)
   refine sU ?_
   refine Di iA (fun k20 uY=>?_)
   refine qM (ky eP) kL (fun mP=>?_)
   refine bnd hF fun mO hx24 hF=>jk (aqt hx24) (fun _=>?_)
   refine du ?_
   refine Ci hF (fun Kk hF=>?_) (fun Kk hF=>?_)
   · refine kM [0,1,2,3,4,5,6,7,8,9,10,11,12,13,14] [0,0,0,6,14,30,0,0,192,448,960,2046,4094,8191,16383] [11,13] mixed (by decide+kernel) ?_
     refine fT ?_
     refine Di iA (fun k26 j27=>?_)
     refine du ?_
     refine Dl Jt ?_
     refine cB ?_
     refine Di iA (fun k28 j29=>?_)
     refine du ?_
     refine uA (R':=(aI 3 aH)) iF.h rfl .no (.tmp rfl rfl) rfl .h Nw (fun w30=>?_)
     refine bnd hF fun xA hx32 hF=>ni (M0 hx32) (fun p33=>?_)
     refine iq rfl .no rfl (fun ha=>bV (g:=true) (len:=1) (parts:=[(0,.tmp 34)]) dX.h dA.h (.cons (EN ha (.tmp rfl rfl) rfl) .nil) (vs:=[(zg [(zi xA.Rel),p33.1.v])]) rfl rfl rfl (by intro v hv; simp at hv; rcases hv with rfl<;>rfl)) (fun k34=>?_)
     refine jF (.cons .h (.cons .h .nil)) (bY (Ro:=fP) (E:=147) (F:=(p33.2++[])) (xs:=([xA]:List Fact)) (eF zK bX dm) rfl rfl) ?_
     refine bnd hF fun z35 yG hF=>df rfl rfl .no (.cons .q10 (.cons .h .nil)) (.dep rfl .nil) (fun ha=>ek (Ro:=fP) dX.h CK dA.h rfl rfl rfl (EN ha (.tmp rfl rfl) rfl) (EN ha (.tmp rfl rfl) rfl) yG fM) (fun p37=>?_)
     refine cB ?_
     cases hF
     exact⟨_,p37.1,p37.2,_,rfl,ay,ax⟩
   refine au ?_
   cases hF
   exact⟨_,v4,F5,_,rfl,ay,ax⟩
 rintro _ _ ⟨rf,v40,F41,g43,rfl,rfl,hE⟩
 replace hF:=qQ
 try dsimp only at hF
 refine bH hE ?_
 refine aX ?_
 rw[wk k9]
 exact⟨_,bO _,_,k9+1,dM,_,v40,F41,rfl,ay,nX,ax,hF⟩
def IQ(aU:Fact)(k5:Nat)(x7:Rule):List Fact->Nat->Option (Sum (Int) (Unit))
 |[],k19=>some (.inr ())
 |mg::BR,k19=>(bif ((mg.Rel:Int)==x7.From)then ((EJ x7 mg).bind fun OB=>
       (H_ OB aU).bind fun iN=>
       some ((iN:Int)==0))
     else (some false)).bind fun K7=>
   match K7 with
   |Vn=>if Vn then (
       some (.inl (k5:Int)))
     else (
       IQ aU k5 x7 BR (k19+1))
def IR(bn:List Fact)(aU:Fact):List Rule->Nat->Option (Int)
 |[],k5=>some (-1)
 |x7::bR,k5=>((IQ aU k5 x7 bn 0):Option (Sum (Int) (Unit))).bind fun xC=>
   match xC with
   | .inl r=>some r
   | .inr _=>IR bn aU bR (k5+1)
def WZ(bL:List Rule)(bn:List Fact)(aU:Fact):Option (Int):=
 IR bn aU bL 0
theorem apO{bL:List Rule}{aa:Sv}{bn:List Fact}{aA:Sv}{aU:Fact}{dZ:Sv}{R:Int}(hF:WZ bL bn aU=some R):
   Fw.Spec Tryz.prog 167 [aa.v,aA.v,(zg [(zi aU.Rel),dZ.v])] [dV aa bL,dD aA bn,ag dZ aU.Values] (fun _:Unit=>(zi R)) (fun _=>[]):=by
 refine Se 47 Tryz.func167 [.tmp 6] ?_
 intro H0 F0
 unfold WZ at hF
 refine au ?_
 refine bM (fun k1=>?_)
 refine bu ?_
 refine aY (bK (m:=bL.length) (fun m3 f' cs'=>∃(g:Fr)(k5:Nat)(bR:List Rule),m3=bR.length/\f'=aN g [(0,aa.v),(1,aA.v),(5,(pz k1)),(7,(zi (k5:Int)))]/\List.drop k5 bL=bR/\aK cs' [dV aa bL,dD aA bn,aQ k1 147 (zg [(zi aU.Rel),dZ.v]),ag dZ aU.Values]/\IR bn aU bR k5=some R) ⟨_,0,_,rfl,ay,rfl,ax,hF⟩ ?_)
 rintro m3 _ _ ⟨g4,k5,bR,rfl,rfl,iR,hE,hF⟩
 refine Kb hE bL (fun wU=>?_)
 rcases bR with _|⟨x7,bR⟩
 · have lW:=dn iR
   rw[IR]at hF
   refine bF ?_
   refine cO ?_
   exact ze hF
 obtain⟨lW,fU,fZ⟩:=bW iR
 rw[IR]at hF
 refine bF ?_
 refine cK ?_
 refine au ?_
 obtain⟨xC,R4,Om⟩:=bind_some hF
 refine fD (fun f' cs'=>∃(g:Fr),xC= .inr ()/\f'=aN g [(0,aa.v),(1,aA.v),(5,(pz k1)),(7,(zi (k5:Int)))]/\aK cs' [dV aa bL,dD aA bn,aQ k1 147 (zg [(zi aU.Rel),dZ.v]),ag dZ aU.Values]) ?_ ?_
 · replace hF:=R4
   refine aY (cu (aO (iZ (v:=(zi 0)) (.int _ _)) ?_))
   refine au ?_
   refine aY (bK (m:=bn.length) (fun m17 f' cs'=>∃(g:Fr)(k19:Nat)(BR:List Fact),m17=BR.length/\f'=aN g [(0,aa.v),(1,aA.v),(5,(pz k1)),(7,(zi (k5:Int))),(8,(zi (k19:Int)))]/\List.drop k19 bn=BR/\aK cs' [dV aa bL,dD aA bn,aQ k1 147 (zg [(zi aU.Rel),dZ.v]),ag dZ aU.Values]/\IQ aU k5 x7 BR k19=some xC) ⟨_,0,_,rfl,ay,rfl,ax,hF⟩ ?_)
   rintro m17 _ _ ⟨g18,k19,BR,rfl,rfl,amc,hE,hF⟩
   refine Kb hE bn (fun aEw=>?_)
   rcases BR with _|⟨mg,BR⟩
   · have aAW:=dn amc
     rw[IQ]at hF
     refine bF ?_
     refine cO ?_
     refine aP ?_
     cases hF
     exact⟨_,rfl,ay,ax⟩
   obtain⟨aAW,hx24,hd25⟩:=bW amc
   rw[IQ]at hF
   refine bF ?_
   refine cK ?_
   refine bg ?_
   obtain⟨K7,acE,adH⟩:=bind_some hF
   refine dS [0,1,2,3,4,5,6,7,8,9,10,11,12,13,14,15,16,17,18,19,21,20,22,23,24] [0,0,3,7,15,0,0,96,224,480,1023,2047,4095,4095,16383,32767,4095,4095,200703,462847,1048575,4095,4194303,8388607,16777215] [20,22] mixed (by decide+kernel) ?_
   refine yc (fun f' cs'=>∃(Vn:Bool)(g:Fr),Vn=K7/\f'=aN g [(0,aa.v),(1,aA.v),(5,(pz k1)),(7,(zi (k5:Int))),(8,(zi (k19:Int))),(45,(.bool Vn))]/\aK cs' [dV aa bL,dD aA bn,aQ k1 147 (zg [(zi aU.Rel),dZ.v]),ag dZ aU.Values]) ?_ ?_
   · replace hF:=acE
     refine cB ?_
     refine Di hx24 (fun wD j31=>?_)
     refine du ?_
     refine Dl Jt ?_
     refine cB ?_
     refine Di fU (fun kX j33=>?_)
     refine du ?_
     refine Dl aca ?_
     refine cB ?_
     rcases dK ((mg.Rel:Int)==x7.From)with qU|qU
     · rw[qU]
       try rw[qU]at hF; dsimp only[bB,bA]at hF
       refine cB ?_
       refine Di fU (fun gW j36=>?_)
       refine qM (zo x7) AV (fun p37=>?_)
       refine cB ?_
       refine Di hx24 (fun uX j39=>?_)
       refine qM (ky mg) kL (fun p40=>?_)
       refine du ?_
       refine bnd hF fun OB Gx hF=>ni (af8 Gx) (fun p43=>?_)
       refine bnd hF fun iN xg hF=>df rfl rfl (.on 32 rfl rfl rfl) (.cons .h (.rd .q9 rfl .nil)) .nil (fun ha=>gH bq (fun _=>.nil) (bU awE.h (.cons (EN ha (.tmp rfl rfl) rfl) (.cons (EN ha (.tmp rfl rfl) rfl) .nil)) (aak xg))) (fun _=>?_)
       exact j3 hF
     rw[qU]
     try rw[qU]at hF; dsimp only[bB,bA]at hF
     exact j3 hF
   rintro _ _ ⟨Vn,g50,rfl,rfl,hE⟩
   replace hF:=adH
   try dsimp only at hF
   refine bH hE ?_
   refine Ci hF (fun aef hF=>?_) (fun aef hF=>?_)
   · refine aX ?_
     cases hF
     replace hF:=Om
     try dsimp only at hF
     exact ze hF
   refine bu ?_
   rw[wk k19]
   exact⟨_,bO _,_,k19+1,BR,rfl,ay,hd25,ax,hF⟩
 rintro _ _ ⟨g52,rfl,rfl,hE⟩
 replace hF:=Om
 try dsimp only at hF
 refine bH hE ?_
 refine aX ?_
 rw[wk k5]
 exact⟨_,bO _,_,k5+1,bR,rfl,ay,fZ,ax,hF⟩
def Ic(mD:Access):List Fact->Nat->(List Line)->(List Fact)->Option ((List Line)×(List Fact))
 |[],kD,FI,yh=>some (FI,yh)
 |qE::A7,kD,FI,yh=>((ES yh qE).bind fun X8=>
     if (!X8)then (
       (M3 mD.Method mD.Values).bind fun FJ=>
       (app FI ([({Rule:=(-1),Access:=FJ,Fact:=qE}:Line)]:List Line)).bind fun akF=>
       (vB yh qE).bind fun akG=>
       some (akF,akG))
     else (
       some (FI,yh))).bind fun acN=>
   match acN with
   |(R6,R7)=>Ic mD A7 (kD+1) R6 R7
def AJ(ai:List Method)(bn:List Fact):List Access->Nat->(List Line)->(List Fact)->(List Access)->Option ((List Line)×(List Fact)×(List Access))
 |[],je,JG,JH,JI=>some (JG,JH,JI)
 |mD::A8,je,JG,JH,JI=>((app JI ([mD]:List Access)).bind fun R8=>
     (ix ai mD.Method).bind fun R9=>
     (MM R9 mD.Values bn).bind fun sK=>
     (Ic mD sK 0 JG JH).bind fun X9=>
     match X9 with
     |(R_,Sa)=>some (R_,Sa,R8)).bind fun acO=>
   match acO with
   |(Sb,Sc,Sd)=>AJ ai bn A8 (je+1) Sb Sc Sd
def Ie(bL:List Rule)(sM:List Fact):List Fact->Nat->(List Line)->Option ((List Line))
 |[],lM,JJ=>some JJ
 |vK::A9,lM,JJ=>(WZ bL sM vK).bind fun Cu=>
   (app JJ ([({Rule:=Cu,Access:=({Method:=0,Values:=[]}:Access),Fact:=vK}:Line)]:List Line)).bind fun akH=>
   Ie bL sM A9 (lM+1) akH
def Ee:List Fact->Nat->(List Fact)->Option ((List Fact))
 |[],mE,FK=>some FK
 |Sg::A_,mE,FK=>(vB FK Sg).bind fun akI=>
   Ee A_ (mE+1) akI
def Ig(uD:Fact):Nat->(List Int)->Int->Option ((List Int))
 |0,_,_=>none
 |JK+1,JL,uE=>if (decide ((uE:Int)<(uD.Values.length:Int)))then (
     (ix uD.Values uE).bind fun Si=>
     (Bl JL Si).bind fun akJ=>
     Ig uD JK akJ (IntKind.i64.wrap (uE+1)))
   else (
     some JL)
def Ih:List Fact->Nat->(List Int)->Option ((List Int))
 |[],kE,JM=>some JM
 |uD::Ba,kE,JM=>((Ig uD (((uD.Values.length:Int)-0).toNat+2) JM 0).bind fun X_=>
     match X_ with
     |Sj=>some Sj).bind fun acP=>
   match acP with
   |Sk=>Ih Ba (kE+1) Sk
def AP(ai:List Method)(bL:List Rule)(bn:List Fact)(r2:Reached):Nat->(List Line)->(List Fact)->(List Int)->(List Access)->Option ((List Line))
 |0,_,_,_,_=>none
 |JN+1,kR,JO,qF,JP=>(((E8 ai ({Facts:=JO,Values:=qF,Log:=JP,Rounds:=r2.Rounds}:Reached)).bind fun qc=>
     (AJ ai bn qc 0 kR JO JP).bind fun Ya=>
     match Ya with
     |(Sl,sM,qG)=>(Mw bL sM).bind fun kF=>
       (Ie bL sM kF 0 Sl).bind fun Yb=>
       match Yb with
       |oK=>(Ee kF 0 sM).bind fun Yc=>
         match Yc with
         |lN=>(Ih lN 0 qF).bind fun Yd=>
           match Yd with
           |FL=>(bif (((oK.length:Int):Int)==(kR.length:Int))then ((E8 ai ({Facts:=lN,Values:=FL,Log:=qG,Rounds:=r2.Rounds}:Reached)).bind fun Sm=>
                 some (((Sm.length:Int):Int)==0))
               else (some false)).bind fun acQ=>
             match acQ with
             |NI=>if NI then (
                 some (.inl oK))
               else (
                 some (.inr (oK,lN,FL,qG)))):Option (Sum ((List Line)) ((List Line)×(List Fact)×(List Int)×(List Access)))).bind fun acR=>
   match acR with
   | .inl r=>some r
   | .inr (Sn,Sq,Sr,Su)=>AP ai bL bn r2 JN Sn Sq Sr Su
def M4(ai:List Method)(bL:List Rule)(bn:List Fact)(lH:List Int):Option ((List Line)):=
 (Px lH).bind fun r2=>
 AP ai bL bn r2 4096 ([]:List Line) r2.Facts r2.Values r2.Log
theorem af'{ai:List Method}{aa:Sv}{bL:List Rule}{aA:Sv}{bn:List Fact}{bi:Sv}{lH:List Int}{gu:Sv}{R:(List Line)}(hF:M4 ai bL bn lH=some R):
   Fw.Spec Tryz.prog 82 [aa.v,aA.v,bi.v,gu.v] [aR (aI 89 gN) aa.v ai,aR (aI 91 iG) aA.v bL,aR (aI 147 dW) bi.v bn,aR (aI 3 aH) gu.v lH] (fun p:Sv×List Nat=>p.1.v) (fun p=>[aD (az 149 (aj gJ)) p.2 p.1.v R]):=by
 refine MV (n:=185) Tryz.func82 rfl rfl (rs:=[.tmp 8]) rfl rfl rfl ?_
 intro H0 F0
 unfold M4 at hF
 refine cu (aO (iZ (v:=(.slice none 0 0)) EV.nilSlice) ?_)
 refine dI (cu (dx rfl (bV (g:=true) rH.h oH.h .nil (vs:=[]) rfl rfl rfl (by simp)) (fun k1=>?_)))
 refine BB (.cons .h .nil) (bY (Ro:=(aj gJ)) (E:=149) (F:=[]) (xs:=([]:List Line)) bX rfl rfl) dm ?_
 refine Ca (.slice (some ⟨k1,0,none⟩) 0 1) rfl rfl ?_
 refine dI (cu (Cm gu.v rfl rfl ?_))
 obtain⟨r2,hx3,hF⟩:=bind_some hF
 refine Gl (.rd (.t (.t (.t (.t .h)))) rfl .nil) (bU awL.h (.cons (.tmp rfl rfl) .nil) (@an' lH gu _ hx3)) (fun p4=>?_)
 refine dx rfl (sD (g:=true) Cq.h rfl rfl) (fun k5=>?_)
 refine dU (.cons .h .nil) (gF (e':=(.agg [p4.1.v,p4.2.2.1.v,p4.2.2.2.2.1.v,(.int .i64 r2.Rounds)].toArray)) (v:=(.agg [p4.1.v,p4.2.2.1.v,p4.2.2.2.2.1.v,(.int .i64 r2.Rounds)].toArray)) Cq.h.sz (.tmp rfl rfl) (.tmp rfl rfl) rfl rfl rfl rfl rfl) (fun _=>?_)
 refine dI (aY (bK (m:=4096) (fun JN f' cs'=>∃(g:Fr)(kR:List Line)(JO:List Fact)(qF:List Int)(JP:List Access)(Sw:Sv)(acS:List Nat)(Sy:Sv)(kG:Sv)(vL:List Nat)(SA:Sv)(acT:List Nat),f'=aN g [(0,aa.v),(1,aA.v),(2,bi.v),(9,Sw.v),(10,(.pointer (some ⟨k5,0,some 0⟩)))]/\aK cs' [aR (aI 89 gN) aa.v ai,aR (aI 91 iG) aA.v bL,aR (aI 147 dW) bi.v bn,aD (az 149 (aj gJ)) acS Sw.v kR,bS k5 160 (.agg [Sy.v,kG.v,SA.v,(.int .i64 r2.Rounds)].toArray),aR (aI 147 dW) Sy.v JO,aD (az 3 (aj aH)) vL kG.v qF,aD (az 145 (aj gz)) acT SA.v JP]/\AP ai bL bn r2 JN kR JO qF JP=some R) ⟨_,_,_,_,_,⟨(some ⟨k1,0,none⟩),0,1⟩,(k1::[]),p4.1,p4.2.2.1,p4.2.2.2.1,p4.2.2.2.2.1,(p4.2.2.2.2.2.take 1),(aG.cons rfl (aG.cons rfl (aG.cons rfl (aG.cons rfl (aG.cons rfl (aG.nil)))))).eq,(.frz (.t .h) bq (.half (.t (.t (.t .h))) (.sel (.rd (.t (.t (.t (.t (.t .h))))) rfl (.rd (.t (.t (.t (.t (.t (.t .h)))))) rfl (.rd (.t (.t (.t (.t (.t (.t (.t .h))))))) rfl (.cons (.t (.t (.t (.t .h)))) (.cons (.t (.t .h)) (.rd (.t .h) rfl (.cons (.t (.t .h)) (.cons .h .nil))))))))))),hF⟩ ?_))
 clear hF
 rintro JN _ _ ⟨aEx,kR,JO,qF,JP,Sw,acS,Sy,kG,vL,SA,acT,rfl,hE,hF⟩
 refine bH hE ?_
 clear hE
 rcases JN with _|JN
 · rw[AP]at hF
   exact absurd hF (by simp)
 rw[AP]at hF
 obtain⟨acR,as5,acb⟩:=bind_some hF
 refine xV (fun f' cs'=>∃(Sn:List Line)(Sq:List Fact)(Sr:List Int)(Su:List Access)(Ye:Sv)(acU:List Nat)(Yf:Sv)(Yg:Sv)(acV:List Nat)(Yh:Sv)(acW:List Nat)(g:Fr),acR= .inr (Sn,Sq,Sr,Su)/\f'=aN g [(0,aa.v),(1,aA.v),(2,bi.v),(9,Ye.v),(10,(.pointer (some ⟨k5,0,some 0⟩)))]/\aK cs' [aR (aI 89 gN) aa.v ai,aR (aI 91 iG) aA.v bL,aR (aI 147 dW) bi.v bn,aD (az 149 (aj gJ)) acU Ye.v Sn,bS k5 160 (.agg [Yf.v,Yg.v,Yh.v,(.int .i64 r2.Rounds)].toArray),aR (aI 147 dW) Yf.v Sq,aD (az 3 (aj aH)) acV Yg.v Sr,aD (az 145 (aj gz)) acW Yh.v Su]) ?_ ?_
 · replace hF:=as5
   refine aY (cu (Cm Sw.v rfl rfl ?_))
   refine fQ (.t (.t (.t .h))) (fun hp=>jU (l:=kR.length) rH.h (.tmp rfl rfl) (uh hp)) ?_
   refine Ca (.int .i64 (kR.length:Int)) rfl rfl ?_
   refine dI (cu (Cm aa.v rfl rfl ?_))
   refine fQ (.t (.t (.t (.t .h)))) (fun hp=>jw RQ.h Cq.h.sz rfl (.tmp rfl rfl) hp.2 rfl) ?_
   obtain⟨qc,aup,hF⟩:=bind_some hF
   refine Gl (.cons (.t (.t (.t (.t (.t (.t (.t .h))))))) (.cons (.t (.t (.t (.t (.t (.t .h)))))) (.rd .h rfl (.rd (.t (.t (.t (.t (.t .h))))) rfl .nil)))) (Q_ (pre:=_) (.cons bq (.cons bq .nil)) (fun _=>(.cons .nil)) (jA (.rd (.t (.t .h)) rfl (.rd (.t (.t (.t .h))) rfl (.rd (.t .h) rfl (.rd .h rfl .nil)))) (bU akc.h (.cons (.tmp rfl rfl) (.cons (.tmp rfl rfl) .nil)) (@agH ai aa ({Facts:=JO,Values:=qF,Log:=JP,Rounds:=r2.Rounds}:Reached) Sy kG SA _ aup)))) (fun oL=>?_)
   refine Ca oL.1.v rfl rfl ?_
   refine dI (h_ (cu (aO (iZ (v:=(.int .i64 0)) (.int _ _)) ?_)))
   refine dI ?_
   obtain⟨Ya,as6,ajc⟩:=bind_some hF
   refine xV (fun f' cs'=>∃(Sl:List Line)(sM:List Fact)(qG:List Access)(Yi:Sv)(acX:List Nat)(wV:Sv)(kS:Sv)(vM:List Nat)(g:Fr),Ya=(Sl,sM,qG)/\f'=aN g [(0,aa.v),(1,aA.v),(2,bi.v),(9,Yi.v),(10,(.pointer (some ⟨k5,0,some 0⟩))),(11,(.int .i64 (kR.length:Int)))]/\aK cs' [aR (aI 89 gN) aa.v ai,aR (aI 91 iG) aA.v bL,aR (aI 147 dW) bi.v bn,aD (az 149 (aj gJ)) acX Yi.v Sl,bS k5 160 (.agg [wV.v,kG.v,kS.v,(.int .i64 r2.Rounds)].toArray),aR (aI 147 dW) wV.v sM,aD (az 3 (aj aH)) vL kG.v qF,aD (az 145 (aj gz)) vM kS.v qG]) ?_ ?_
   · replace hF:=as6
     refine aY (jM (.t (.t .h)) bq ?_)
     refine bK (m:=qc.length) (fun akK f' cs'=>∃(g:Fr)(je:Nat)(A8:List Access)(JG:List Line)(JH:List Fact)(JI:List Access)(SB:Sv)(Yj:List Nat)(NJ:Sv)(SC:Sv)(acY:List Nat),akK=A8.length/\f'=aN g [(0,aa.v),(1,aA.v),(2,bi.v),(9,SB.v),(10,(.pointer (some ⟨k5,0,some 0⟩))),(11,(.int .i64 (kR.length:Int))),(12,oL.1.v),(13,(.int .i64 (je:Int)))]/\List.drop je qc=A8/\aK cs' [aR (aI 89 gN) aa.v ai,aR (aI 91 iG) aA.v bL,aR (aI 147 dW) bi.v bn,aD (az 149 (aj gJ)) Yj SB.v JG,bS k5 160 (.agg [NJ.v,kG.v,SC.v,(.int .i64 r2.Rounds)].toArray),aR (aI 147 dW) NJ.v JH,aD (az 3 (aj aH)) vL kG.v qF,aD (az 145 (aj gz)) acY SC.v JI,aR (aI 145 gz) oL.1.v qc]/\AJ ai bn A8 je JG JH JI=some Ya) ⟨_,0,_,_,_,_,Sw,acS,Sy,SA,acT,rfl,(aG.cons rfl (aG.cons rfl (aG.cons rfl (aG.cons rfl (aG.cons rfl (aG.cons rfl (aG.cons rfl (aG.cons rfl (aG.nil))))))))).eq,rfl,(.sel (.rd (.t (.t (.t .h))) rfl (.rd (.t (.t (.t (.t .h)))) rfl (.rd (.t (.t (.t (.t (.t .h))))) rfl (.cons (.t (.t (.t (.t (.t (.t .h)))))) (.cons (.t (.t (.t (.t (.t (.t .h)))))) (.rd (.t (.t (.t (.t (.t (.t .h)))))) rfl (.cons (.t (.t .h)) (.cons (.t .h) (.rd .h rfl .nil)))))))))),hF⟩ ?_
     clear hF
     rintro akK _ _ ⟨aEy,je,A8,JG,JH,JI,SB,Yj,NJ,SC,acY,rfl,rfl,ajd,hE,hF⟩
     refine bH hE ?_
     clear hE
     refine uu (c:=aR (aI 145 gz) oL.1.v qc) (.t (.t (.t (.t (.t (.t (.t (.t .h)))))))) zn (fun aCg=>?_)
     rcases A8 with _|⟨mD,A8⟩
     · have auq:=List.drop_eq_nil_iff.1 ajd
       have abM:(decide (((je:Int):Int)<(qc.length:Int)))=false:=decide_eq_false (by omega)
       rw[AJ]at hF
       refine h_ (cu (Cm (.int .i64 (je:Int)) rfl rfl ?_))
       refine Cm oL.1.v rfl rfl ?_
       refine fQ (.t (.t (.t (.t (.t (.t (.t (.t .h)))))))) (fun hp=>jU (l:=qc.length) nI.h (.tmp rfl rfl) (um hp)) ?_
       refine aO (mr (i:=(je:Int)) (j:=(qc.length:Int)) (.tmp rfl rfl) (.tmp rfl rfl)) ?_
       refine dI (jc (b:=(decide (((je:Int):Int)<(qc.length:Int)))) (.tmp rfl rfl) (fun hb=>absurd (abM.symm.trans hb) (by decide)) (fun _=>?_))
       refine vD ?_
       iterate 2 refine uf ?_
       refine vC ?_
       obtain rfl:=Option.some.inj hF
       exact⟨_,_,_,SB,Yj,NJ,SC,acY,_,rfl,(aG.cons rfl (aG.cons rfl (aG.cons rfl (aG.cons rfl (aG.cons rfl (aG.cons rfl (aG.nil))))))).eq,(.sel (.rd .h rfl (.rd (.t .h) rfl (.rd (.t (.t .h)) rfl (.cons (.t (.t (.t .h))) (.cons (.t (.t (.t .h))) (.rd (.t (.t (.t .h))) rfl (.cons (.t (.t (.t (.t .h)))) (.cons (.t (.t (.t (.t .h)))) .nil)))))))))⟩
     obtain⟨auq,Rt,aur⟩:=bW ajd
     have abM:(decide (((je:Int):Int)<(qc.length:Int)))=true:=decide_eq_true (by omega)
     rw[AJ]at hF
     refine h_ (cu (Cm (.int .i64 (je:Int)) rfl rfl ?_))
     refine Cm oL.1.v rfl rfl ?_
     refine fQ (.t (.t (.t (.t (.t (.t (.t (.t .h)))))))) (fun hp=>jU (l:=qc.length) nI.h (.tmp rfl rfl) (um hp)) ?_
     refine aO (mr (i:=(je:Int)) (j:=(qc.length:Int)) (.tmp rfl rfl) (.tmp rfl rfl)) ?_
     refine dI (jc (b:=(decide (((je:Int):Int)<(qc.length:Int)))) (.tmp rfl rfl) (fun _=>?_) (fun hb=>absurd (abM.symm.trans hb) (by decide)))
     refine nC ?_
     obtain⟨acO,as7,aje⟩:=bind_some hF
     refine fD (fun f' cs'=>∃(Sb:List Line)(Sc:List Fact)(Sd:List Access)(Yk:Sv)(acZ:List Nat)(Yl:Sv)(Ym:Sv)(ac0:List Nat)(g:Fr),acO=(Sb,Sc,Sd)/\f'=aN g [(0,aa.v),(1,aA.v),(2,bi.v),(9,Yk.v),(10,(.pointer (some ⟨k5,0,some 0⟩))),(11,(.int .i64 (kR.length:Int))),(12,oL.1.v),(13,(.int .i64 (je:Int)))]/\aK cs' [aR (aI 89 gN) aa.v ai,aR (aI 91 iG) aA.v bL,aR (aI 147 dW) bi.v bn,aD (az 149 (aj gJ)) acZ Yk.v Sb,bS k5 160 (.agg [Yl.v,kG.v,Ym.v,(.int .i64 r2.Rounds)].toArray),aR (aI 147 dW) Yl.v Sc,aD (az 3 (aj aH)) vL kG.v qF,aD (az 145 (aj gz)) ac0 Ym.v Sd,aR (aI 145 gz) oL.1.v qc]) ?_ ?_
     · replace hF:=as7
       refine aY (dS [0,1,2,3,4,5,6,7,8,9] [0,1,0,0,12,28,60,127,255,511] [7,9] mixed (by decide+kernel) ?_)
       refine bQ rfl .no (fun ha=>gU (off:=2) XA.h (EN ha (.tmp rfl rfl) rfl)) ?_
       refine ed rfl .no (.t (.t (.t (.t .h)))) (fun ha hp=>fI (v:=SC.v) als.h (EN ha (.tmp rfl rfl) rfl) hp.2 rfl rfl) ?_
       refine Dm oL.1.v rfl rfl rfl rfl ?_
       refine Dm (.int .i64 (je:Int)) rfl rfl rfl rfl ?_
       refine uz (a:=mD) nI.h kQ.h.sz rfl .no (.tmp rfl rfl) (.tmp rfl rfl) rfl rfl (.t (.t (.t (.t (.t (.t (.t (.t .h)))))))) (Int.natCast_nonneg je) Rt (fun aEz aEA=>?_)
       refine Fy (PS mD) RS.h kQ.h.sz rfl rfl .no (.tmp rfl rfl) rfl .h WC (fun ayA=>?_)
       refine iq rfl .no rfl (fun ha=>bV (g:=true) (len:=1) (parts:=[(0,.tmp 41)]) nI.h kQ.h (.cons (EN ha (.tmp rfl rfl) rfl) .nil) (vs:=[(.agg [(.int .i64 mD.Method),ayA.v].toArray)]) rfl rfl rfl (by intro v hv; simp at hv; rcases hv with rfl<;>rfl)) (fun aEB=>?_)
       refine NC (.cons .h (.rd .h rfl .nil)) (bY (Ro:=(aj gz)) (E:=145) (F:=([]++[])) (xs:=([mD]:List Access)) (eF akf bX dm) rfl rfl) dm ?_
       obtain⟨R8,aus,hF⟩:=bind_some hF
       refine df rfl rfl .no (.cons (.t (.t (.t (.t (.t (.t (.t (.t (.t (.t .h)))))))))) (.cons .h .nil)) (.dep rfl (.dep rfl .nil)) (fun ha=>ek (Ro:=(aj gz)) nI.h Y1 kQ.h rfl rfl rfl (EN ha (.tmp rfl rfl) rfl) (EN ha (.tmp rfl rfl) rfl) aus fM) (fun vN=>?_)
       refine bQ rfl .no (fun ha=>gU (off:=2) XA.h (EN ha (.tmp rfl rfl) rfl)) ?_
       refine df rfl rfl .no (.cons (.t (.t (.t (.t (.t (.t (.t .h))))))) .nil) (.dep rfl (.dep rfl .nil)) (fun ha=>gF (e':=(.agg [NJ.v,kG.v,vN.1.v,(.int .i64 r2.Rounds)].toArray)) alu.h.sz (EN ha (.tmp rfl rfl) rfl) (EN ha (.tmp rfl rfl) rfl) rfl rfl rfl rfl rfl) (fun _=>?_)
       refine p_ (dS [0,1,2,3,4,5,6,7,8,9,10,11,12,13,14,15] [0,0,0,6,14,30,63,127,0,0,768,1792,3840,0,16383,32767] [14] mixed (by decide+kernel) ?_)
       refine Dm aa.v rfl rfl rfl rfl ?_
       refine Dm oL.1.v rfl rfl rfl rfl ?_
       refine Dm (.int .i64 (je:Int)) rfl rfl rfl rfl ?_
       refine uz (a:=mD) nI.h kQ.h.sz rfl .no (.tmp rfl rfl) (.tmp rfl rfl) rfl rfl (.t (.t (.t (.t (.t (.t (.t (.t (.t (.t .h)))))))))) (Int.natCast_nonneg je) Rt (fun aEC aED=>?_)
       refine bQ rfl .no (fun ha=>gU (off:=0) aiI.h (EN ha (.tmp rfl rfl) rfl)) ?_
       refine XW (w:=(.int .i64 mD.Method)) Ag.h rfl .no (.tmp rfl rfl) rfl .h aiK ?_
       obtain⟨R9,aut,hF⟩:=bind_some hF
       obtain⟨auu,auv⟩:=uk aut
       refine uz (a:=R9) vR.h sS.h.sz rfl .no (.tmp rfl rfl) (.tmp rfl rfl) rfl rfl (.t (.t (.t (.t (.t .h))))) auu auv (fun aEE aEF=>?_)
       refine Fy (wJ R9) aln.h sS.h.sz rfl rfl .no (.tmp rfl rfl) rfl .h xR (fun ayB=>?_)
       refine Dm oL.1.v rfl rfl rfl rfl ?_
       refine Dm (.int .i64 (je:Int)) rfl rfl rfl rfl ?_
       refine uz (a:=mD) nI.h kQ.h.sz rfl .no (.tmp rfl rfl) (.tmp rfl rfl) rfl rfl (.t (.t (.t (.t (.t (.t (.t (.t (.t (.t (.t (.t (.t .h))))))))))))) (Int.natCast_nonneg je) Rt (fun aEG aEH=>?_)
       refine bQ rfl .no (fun ha=>gU (off:=1) aiJ.h (EN ha (.tmp rfl rfl) rfl)) ?_
       refine uA (R':=(aI 3 aH)) iF.h rfl .no (.tmp rfl rfl) rfl .h aiL (fun ayC=>?_)
       refine Dm bi.v rfl rfl rfl rfl ?_
       obtain⟨sK,auw,hF⟩:=bind_some hF
       refine df rfl rfl .no (.rd (.t (.t .h)) rfl (.rd .h rfl (.rd (.t (.t (.t (.t (.t (.t (.t (.t (.t (.t (.t .h))))))))))) rfl .nil))) .nil (fun ha=>bU awO.h (.cons (EN ha (.tmp rfl rfl) rfl) (.cons (EN ha (.tmp rfl rfl) rfl) (.cons (EN ha (.tmp rfl rfl) rfl) .nil))) (@aoC R9 ayB mD.Values ayC bn bi _ auw)) (fun yj=>?_)
       refine Da yj.1.v rfl rfl rfl rfl ?_
       refine p_ (cu (aO (iZ (v:=(.int .i64 0)) (.int _ _)) ?_))
       refine dI ?_
       obtain⟨X9,as8,ajf⟩:=bind_some hF
       refine xV (fun f' cs'=>∃(R_:List Line)(Sa:List Fact)(Yn:Sv)(ac1:List Nat)(Yo:Sv)(g:Fr),X9=(R_,Sa)/\f'=aN g [(0,aa.v),(1,aA.v),(2,bi.v),(9,Yn.v),(10,(.pointer (some ⟨k5,0,some 0⟩))),(11,(.int .i64 (kR.length:Int))),(12,oL.1.v),(13,(.int .i64 (je:Int)))]/\aK cs' [aR (aI 89 gN) aa.v ai,aR (aI 91 iG) aA.v bL,aR (aI 147 dW) bi.v bn,aD (az 149 (aj gJ)) ac1 Yn.v R_,bS k5 160 (.agg [Yo.v,kG.v,vN.1.v,(.int .i64 r2.Rounds)].toArray),aR (aI 147 dW) Yo.v Sa,aD (az 3 (aj aH)) vL kG.v qF,aD (az 145 (aj gz)) vN.2 vN.1.v R8,aR (aI 145 gz) oL.1.v qc]) ?_ ?_
       · replace hF:=as8
         refine aY (jM .h bq ?_)
         refine bK (m:=sK.length) (fun akL f' cs'=>∃(g:Fr)(kD:Nat)(A7:List Fact)(FI:List Line)(yh:List Fact)(NK:Sv)(Yp:List Nat)(Cv:Sv),akL=A7.length/\f'=aN g [(0,aa.v),(1,aA.v),(2,bi.v),(9,NK.v),(10,(.pointer (some ⟨k5,0,some 0⟩))),(11,(.int .i64 (kR.length:Int))),(12,oL.1.v),(13,(.int .i64 (je:Int))),(14,yj.1.v),(15,(.int .i64 (kD:Int)))]/\List.drop kD sK=A7/\aK cs' [aR (aI 89 gN) aa.v ai,aR (aI 91 iG) aA.v bL,aR (aI 147 dW) bi.v bn,aD (az 149 (aj gJ)) Yp NK.v FI,bS k5 160 (.agg [Cv.v,kG.v,vN.1.v,(.int .i64 r2.Rounds)].toArray),aR (aI 147 dW) Cv.v yh,aD (az 3 (aj aH)) vL kG.v qF,aD (az 145 (aj gz)) vN.2 vN.1.v R8,aR (aI 145 gz) oL.1.v qc,aR (aI 147 dW) yj.1.v sK]/\Ic mD A7 kD FI yh=some X9) ⟨_,0,_,_,_,SB,Yj,NJ,rfl,(aG.cons rfl (aG.cons rfl (aG.cons rfl (aG.cons rfl (aG.cons rfl (aG.cons rfl (aG.cons rfl (aG.cons rfl (aG.cons rfl (aG.cons rfl (aG.nil))))))))))).eq,rfl,(.sel (.rd (.t (.t (.t (.t (.t (.t (.t (.t (.t (.t .h)))))))))) rfl (.rd (.t (.t (.t (.t (.t (.t (.t (.t (.t (.t (.t .h))))))))))) rfl (.rd (.t (.t (.t (.t (.t (.t (.t (.t (.t (.t (.t (.t .h)))))))))))) rfl (.cons (.t (.t (.t (.t (.t (.t (.t (.t (.t (.t (.t (.t (.t .h))))))))))))) (.cons (.t (.t (.t (.t (.t (.t .h)))))) (.rd (.t (.t (.t (.t (.t (.t (.t (.t (.t (.t (.t (.t .h)))))))))))) rfl (.cons (.t (.t (.t (.t (.t (.t (.t (.t (.t (.t (.t (.t (.t .h))))))))))))) (.cons (.t (.t (.t (.t (.t (.t .h)))))) (.rd (.t (.t (.t (.t (.t (.t (.t (.t (.t (.t (.t (.t .h)))))))))))) rfl (.rd .h rfl .nil))))))))))),hF⟩ ?_
         clear hF
         rintro akL _ _ ⟨aEI,kD,A7,FI,yh,NK,Yp,Cv,rfl,rfl,ajg,hE,hF⟩
         refine bH hE ?_
         clear hE
         refine uu (c:=aR (aI 147 dW) yj.1.v sK) (.t (.t (.t (.t (.t (.t (.t (.t (.t .h))))))))) zn (fun aCh=>?_)
         rcases A7 with _|⟨qE,A7⟩
         · have aux:=List.drop_eq_nil_iff.1 ajg
           have abN:(decide (((kD:Int):Int)<(sK.length:Int)))=false:=decide_eq_false (by omega)
           rw[Ic]at hF
           refine h_ (cu (Cm (.int .i64 (kD:Int)) rfl rfl ?_))
           refine Cm yj.1.v rfl rfl ?_
           refine fQ (.t (.t (.t (.t (.t (.t (.t (.t (.t .h))))))))) (fun hp=>jU (l:=sK.length) dX.h (.tmp rfl rfl) (um hp)) ?_
           refine aO (mr (i:=(kD:Int)) (j:=(sK.length:Int)) (.tmp rfl rfl) (.tmp rfl rfl)) ?_
           refine dI (jc (b:=(decide (((kD:Int):Int)<(sK.length:Int)))) (.tmp rfl rfl) (fun hb=>absurd (abN.symm.trans hb) (by decide)) (fun _=>?_))
           refine vD ?_
           iterate 2 refine uf ?_
           refine vC ?_
           obtain rfl:=Option.some.inj hF
           exact⟨_,_,NK,Yp,Cv,_,rfl,(aG.cons rfl (aG.cons rfl (aG.cons rfl (aG.cons rfl (aG.cons rfl (aG.cons rfl (aG.cons rfl (aG.cons rfl (aG.nil))))))))).eq,(.sel (.rd .h rfl (.rd (.t .h) rfl (.rd (.t (.t .h)) rfl (.cons (.t (.t (.t .h))) (.cons (.t (.t (.t .h))) (.rd (.t (.t (.t .h))) rfl (.cons (.t (.t (.t (.t .h)))) (.cons (.t (.t (.t (.t .h)))) (.rd (.t (.t (.t (.t .h)))) rfl .nil))))))))))⟩
         obtain⟨aux,acd,auy⟩:=bW ajg
         have abN:(decide (((kD:Int):Int)<(sK.length:Int)))=true:=decide_eq_true (by omega)
         rw[Ic]at hF
         refine h_ (cu (Cm (.int .i64 (kD:Int)) rfl rfl ?_))
         refine Cm yj.1.v rfl rfl ?_
         refine fQ (.t (.t (.t (.t (.t (.t (.t (.t (.t .h))))))))) (fun hp=>jU (l:=sK.length) dX.h (.tmp rfl rfl) (um hp)) ?_
         refine aO (mr (i:=(kD:Int)) (j:=(sK.length:Int)) (.tmp rfl rfl) (.tmp rfl rfl)) ?_
         refine dI (jc (b:=(decide (((kD:Int):Int)<(sK.length:Int)))) (.tmp rfl rfl) (fun _=>?_) (fun hb=>absurd (abN.symm.trans hb) (by decide)))
         refine nC ?_
         obtain⟨acN,as9,ajh⟩:=bind_some hF
         refine fD (fun f' cs'=>∃(R6:List Line)(R7:List Fact)(Yq:Sv)(ac2:List Nat)(Yr:Sv)(g:Fr),acN=(R6,R7)/\f'=aN g [(0,aa.v),(1,aA.v),(2,bi.v),(9,Yq.v),(10,(.pointer (some ⟨k5,0,some 0⟩))),(11,(.int .i64 (kR.length:Int))),(12,oL.1.v),(13,(.int .i64 (je:Int))),(14,yj.1.v),(15,(.int .i64 (kD:Int)))]/\aK cs' [aR (aI 89 gN) aa.v ai,aR (aI 91 iG) aA.v bL,aR (aI 147 dW) bi.v bn,aD (az 149 (aj gJ)) ac2 Yq.v R6,bS k5 160 (.agg [Yr.v,kG.v,vN.1.v,(.int .i64 r2.Rounds)].toArray),aR (aI 147 dW) Yr.v R7,aD (az 3 (aj aH)) vL kG.v qF,aD (az 145 (aj gz)) vN.2 vN.1.v R8,aR (aI 145 gz) oL.1.v qc,aR (aI 147 dW) yj.1.v sK]) ?_ ?_
         · replace hF:=as9
           refine aY (dS [0,1,2,3,4,5,6,7] [0,1,0,0,12,28,63,127] [6] mixed (by decide+kernel) ?_)
           refine bQ rfl .no (fun ha=>gU (off:=0) vE.h (EN ha (.tmp rfl rfl) rfl)) ?_
           refine ed rfl .no (.t (.t (.t (.t .h)))) (fun ha hp=>fI (v:=Cv.v) nJ.h (EN ha (.tmp rfl rfl) rfl) hp.2 rfl rfl) ?_
           refine Dm yj.1.v rfl rfl rfl rfl ?_
           refine Dm (.int .i64 (kD:Int)) rfl rfl rfl rfl ?_
           refine uz (a:=qE) dX.h dA.h.sz rfl .no (.tmp rfl rfl) (.tmp rfl rfl) rfl rfl (.t (.t (.t (.t (.t (.t (.t (.t (.t .h))))))))) (Int.natCast_nonneg kD) acd (fun aEJ aEK=>?_)
           refine Fy (ky qE) qb.h dA.h.sz rfl rfl .no (.tmp rfl rfl) rfl .h kL (fun ayD=>?_)
           obtain⟨X8,auz,hF⟩:=bind_some hF
           refine ND rfl rfl .no (.rd (.t (.t (.t (.t (.t (.t (.t .h))))))) rfl (.rd .h rfl .nil)) (.dep rfl .nil) (fun ha=>bU aj_.h (.cons (EN ha (.tmp rfl rfl) rfl) (.cons (EN ha (.tmp rfl rfl) rfl) .nil)) (@aaH yh Cv qE ayD _ auz)) (fun _=>?_)
           refine bQ rfl .no (fun ha=>RD (b:=X8) (EN ha (.tmp rfl rfl) rfl)) ?_
           refine p_ (jc (b:=(!X8)) (.tmp rfl rfl) (fun ace=>?_) (fun ace=>?_))
           · rw[if_pos ace]at hF
             refine dS [0,1,2,3,4,5,6,7,8,9,10,12,13,14,15,11,16,17,18,19] [0,0,0,6,14,30,0,0,192,448,960,2046,0,0,12288,28672,65534,131070,262143,524287] [11,18] mixed (by decide+kernel) ?_
             refine Dm NK.v rfl rfl rfl rfl ?_
             refine Dm oL.1.v rfl rfl rfl rfl ?_
             refine Dm (.int .i64 (je:Int)) rfl rfl rfl rfl ?_
             refine uz (a:=mD) nI.h kQ.h.sz rfl .no (.tmp rfl rfl) (.tmp rfl rfl) rfl rfl (.t (.t (.t (.t (.t (.t (.t (.t (.t (.t .h)))))))))) (Int.natCast_nonneg je) Rt (fun aEL aEM=>?_)
             refine bQ rfl .no (fun ha=>gU (off:=0) aiI.h (EN ha (.tmp rfl rfl) rfl)) ?_
             refine XW (w:=(.int .i64 mD.Method)) Ag.h rfl .no (.tmp rfl rfl) rfl .h aiK ?_
             refine Dm oL.1.v rfl rfl rfl rfl ?_
             refine Dm (.int .i64 (je:Int)) rfl rfl rfl rfl ?_
             refine uz (a:=mD) nI.h kQ.h.sz rfl .no (.tmp rfl rfl) (.tmp rfl rfl) rfl rfl (.t (.t (.t (.t (.t (.t (.t (.t (.t (.t (.t .h))))))))))) (Int.natCast_nonneg je) Rt (fun aEN aEO=>?_)
             refine bQ rfl .no (fun ha=>gU (off:=1) aiJ.h (EN ha (.tmp rfl rfl) rfl)) ?_
             refine uA (R':=(aI 3 aH)) iF.h rfl .no (.tmp rfl rfl) rfl .h aiL (fun ayE=>?_)
             refine Dm yj.1.v rfl rfl rfl rfl ?_
             refine Dm (.int .i64 (kD:Int)) rfl rfl rfl rfl ?_
             refine uz (a:=qE) dX.h dA.h.sz rfl .no (.tmp rfl rfl) (.tmp rfl rfl) rfl rfl (.t (.t (.t (.t (.t (.t (.t (.t (.t (.t (.t (.t (.t (.t .h)))))))))))))) (Int.natCast_nonneg kD) acd (fun aEP aEQ=>?_)
             refine Fy (ky qE) qb.h dA.h.sz rfl rfl .no (.tmp rfl rfl) rfl .h kL (fun ac3=>?_)
             obtain⟨FJ,auA,hF⟩:=bind_some hF
             refine df rfl rfl .no (.rd (.t (.t .h)) rfl .nil) .nil (fun ha=>zD (post':=fun NL:Sv×List Nat=>[aR (aI 3 aH) NL.1.v FJ.Values]) (fun NL=>(.frz .h bq (.sel (.rd .h rfl .nil)))) (bU awM.h (.cons (EN ha (.tmp rfl rfl) rfl) (.cons (EN ha (.tmp rfl rfl) rfl) .nil)) (@af_ mD.Method mD.Values ayE _ auA))) (fun NL=>?_)
             refine bQ rfl .no (fun ha=>gy oH.h rfl (vs:=[(.int .i64 (-1)),(.agg [(.int .i64 FJ.Method),NL.1.v].toArray),(.agg [(.int .i64 qE.Rel),ac3.v].toArray)]) (.cons (EN ha (.int _ _) rfl) (.cons (EN ha (.tmp rfl rfl) rfl) (.cons (EN ha (.tmp rfl rfl) rfl) .nil))) (cells:=[(.int .i64 (-1)),(.int .i64 FJ.Method),NL.1.v,(.int .i64 qE.Rel),ac3.v]) rfl) ?_
             refine iq rfl .no rfl (fun ha=>bV (g:=true) (len:=1) (parts:=[(0,.tmp 90)]) rH.h oH.h (.cons (EN ha (.tmp rfl rfl) rfl) .nil) (vs:=[(.agg [(.int .i64 (-1)),(.int .i64 FJ.Method),NL.1.v,(.int .i64 qE.Rel),ac3.v].toArray)]) rfl rfl rfl (by intro v hv; simp at hv; rcases hv with rfl<;>rfl)) (fun aER=>?_)
             refine NC (.cons .h (.rd .h rfl (.rd (.t .h) rfl .nil))) (bY (Ro:=(aj gJ)) (E:=149) (F:=([]++[])) (xs:=([({Rule:=(-1),Access:=FJ,Fact:=qE}:Line)]:List Line)) (eF (XY (a:=({Rule:=(-1),Access:=FJ,Fact:=qE}:Line))) bX dm) rfl rfl) dm ?_
             obtain⟨akF,auB,hF⟩:=bind_some hF
             refine df rfl rfl .no (.cons (.t (.t (.t (.t (.t (.t (.t (.t (.t (.t (.t (.t .h)))))))))))) (.cons .h .nil)) (.dep rfl .nil) (fun ha=>ek (Ro:=(aj gJ)) rH.h XZ oH.h rfl rfl rfl (EN ha (.tmp rfl rfl) rfl) (EN ha (.tmp rfl rfl) rfl) auB fM) (fun ac4=>?_)
             refine Da ac4.1.v rfl rfl rfl rfl ?_
             refine p_ (kM [0,1,2,3,4,5,6,7,8] [0,1,0,0,12,28,63,127,255] [6,8] mixed (by decide+kernel) ?_)
             refine bQ rfl .no (fun ha=>gU (off:=0) vE.h (EN ha (.tmp rfl rfl) rfl)) ?_
             refine ed rfl .no (.t (.t (.t (.t (.t (.t (.t (.t (.t (.t (.t (.t .h)))))))))))) (fun ha hp=>fI (v:=Cv.v) nJ.h (EN ha (.tmp rfl rfl) rfl) hp.2 rfl rfl) ?_
             refine Dm yj.1.v rfl rfl rfl rfl ?_
             refine Dm (.int .i64 (kD:Int)) rfl rfl rfl rfl ?_
             refine uz (a:=qE) dX.h dA.h.sz rfl .no (.tmp rfl rfl) (.tmp rfl rfl) rfl rfl (.t (.t (.t (.t (.t (.t (.t (.t (.t (.t (.t (.t (.t (.t (.t (.t (.t .h))))))))))))))))) (Int.natCast_nonneg kD) acd (fun aES aET=>?_)
             refine Fy (ky qE) qb.h dA.h.sz rfl rfl .no (.tmp rfl rfl) rfl .h kL (fun ayF=>?_)
             obtain⟨akG,auC,hF⟩:=bind_some hF
             refine df rfl rfl .no (.rd (.t (.t (.t (.t (.t (.t (.t (.t (.t (.t (.t (.t (.t (.t (.t .h))))))))))))))) rfl (.rd .h rfl .nil)) (.dep rfl .nil) (fun ha=>bU Ke.h (.cons (EN ha (.tmp rfl rfl) rfl) (.cons (EN ha (.tmp rfl rfl) rfl) .nil)) (@II yh Cv qE ayF _ auC)) (fun akM=>?_)
             refine bQ rfl .no (fun ha=>gU (off:=0) vE.h (EN ha (.tmp rfl rfl) rfl)) ?_
             refine df rfl rfl .no (.cons (.t (.t (.t (.t (.t (.t (.t (.t (.t (.t (.t (.t (.t (.t (.t .h))))))))))))))) .nil) (.dep rfl .nil) (fun ha=>gF (e':=(.agg [akM.1.v,kG.v,vN.1.v,(.int .i64 r2.Rounds)].toArray)) Y2.h.sz (EN ha (.tmp rfl rfl) rfl) (EN ha (.tmp rfl rfl) rfl) rfl rfl rfl rfl rfl) (fun _=>?_)
             refine p_ ?_
             obtain rfl:=Option.some.inj hF
             exact⟨_,_,ac4.1,ac4.2,akM.1,_,rfl,(aG.cons rfl (aG.cons rfl (aG.cons rfl (aG.cons rfl (aG.cons rfl (aG.cons rfl (aG.cons rfl (aG.cons rfl (aG.cons rfl (aG.cons rfl (aG.nil))))))))))).eq,(.frz (.t .h) bq (.sel (.rd (.t (.t (.t (.t (.t (.t (.t (.t (.t (.t (.t (.t (.t .h))))))))))))) rfl (.rd (.t (.t (.t (.t (.t (.t (.t (.t (.t (.t (.t (.t (.t (.t .h)))))))))))))) rfl (.rd (.t (.t (.t (.t (.t (.t (.t (.t (.t (.t (.t (.t (.t (.t (.t .h))))))))))))))) rfl (.cons (.t (.t (.t (.t .h)))) (.cons (.t .h) (.rd .h rfl (.cons (.t (.t (.t (.t (.t (.t (.t (.t (.t (.t (.t (.t (.t (.t (.t .h))))))))))))))) (.cons (.t (.t (.t (.t (.t (.t (.t (.t (.t (.t (.t (.t (.t (.t (.t .h))))))))))))))) (.rd (.t (.t (.t (.t (.t (.t (.t (.t (.t (.t (.t (.t (.t (.t (.t .h))))))))))))))) rfl (.rd (.t (.t (.t (.t (.t (.t (.t (.t (.t (.t (.t (.t (.t (.t (.t (.t .h)))))))))))))))) rfl .nil))))))))))))⟩
           rw[if_neg (by rw[ace]; exact Bool.false_ne_true)]at hF
           refine nC ?_
           obtain rfl:=Option.some.inj hF
           exact⟨_,_,NK,Yp,Cv,_,rfl,(aG.cons rfl (aG.cons rfl (aG.cons rfl (aG.cons rfl (aG.cons rfl (aG.cons rfl (aG.cons rfl (aG.cons rfl (aG.cons rfl (aG.cons rfl (aG.nil))))))))))).eq,(.sel (.rd (.t (.t .h)) rfl (.rd (.t (.t (.t .h))) rfl (.rd (.t (.t (.t (.t .h)))) rfl (.cons (.t (.t (.t (.t (.t .h))))) (.cons (.t (.t (.t (.t (.t .h))))) (.rd (.t (.t (.t (.t (.t .h))))) rfl (.cons (.t (.t (.t (.t (.t (.t .h)))))) (.cons (.t (.t (.t (.t (.t (.t .h)))))) (.rd (.t (.t (.t (.t (.t (.t .h)))))) rfl (.rd (.t (.t (.t (.t (.t (.t (.t .h))))))) rfl .nil)))))))))))⟩
         rintro _ _ ⟨R6,R7,Yq,ac2,Yr,aEU,rfl,rfl,hE⟩
         replace hF:=ajh
         clear ajh
         try dsimp only at hF
         refine bH hE ?_
         refine nQ (Cm (.int .i64 (kD:Int)) rfl rfl ?_)
         refine aO (mq (i:=(kD:Int)) (j:=1) (.tmp rfl rfl) (.int _ _)) ?_
         refine Ca (.int .i64 (IntKind.i64.wrap ((kD:Int)+1))) rfl rfl ?_
         refine dI ?_
         have auD:IntKind.i64.wrap ((kD:Int)+1)=((kD+1:Nat):Int):=by rw[fo (by omega) (by omega)]; rfl
         rw[auD]
         exact⟨_,Nat.lt_succ_self _,_,kD+1,A7,_,_,Yq,ac2,Yr,rfl,(aG.cons rfl (aG.cons rfl (aG.cons rfl (aG.cons rfl (aG.cons rfl (aG.cons rfl (aG.cons rfl (aG.cons rfl (aG.cons rfl (aG.cons rfl (aG.nil))))))))))).eq,auy,(.sel (.rd .h rfl (.rd (.t .h) rfl (.rd (.t (.t .h)) rfl (.cons (.t (.t (.t .h))) (.cons (.t (.t (.t .h))) (.rd (.t (.t (.t .h))) rfl (.cons (.t (.t (.t (.t .h)))) (.cons (.t (.t (.t (.t .h)))) (.rd (.t (.t (.t (.t .h)))) rfl (.rd (.t (.t (.t (.t (.t .h))))) rfl .nil))))))))))),hF⟩
       rintro _ _ ⟨R_,Sa,Yn,ac1,Yo,aEV,rfl,rfl,hE⟩
       replace hF:=ajf
       clear ajf
       try dsimp only at hF
       refine yf hE ?_
       obtain rfl:=Option.some.inj hF
       exact⟨_,_,_,Yn,ac1,Yo,vN.1,vN.2,_,rfl,(aG.cons rfl (aG.cons rfl (aG.cons rfl (aG.cons rfl (aG.cons rfl (aG.cons rfl (aG.cons rfl (aG.cons rfl (aG.nil))))))))).eq,(.sel (.rd .h rfl (.rd (.t .h) rfl (.rd (.t (.t .h)) rfl (.cons (.t (.t (.t .h))) (.cons (.t (.t (.t .h))) (.rd (.t (.t (.t .h))) rfl (.cons (.t (.t (.t (.t .h)))) (.cons (.t (.t (.t (.t .h)))) (.rd (.t (.t (.t (.t .h)))) rfl .nil))))))))))⟩
     rintro _ _ ⟨Sb,Sc,Sd,Yk,acZ,Yl,Ym,ac0,aEW,rfl,rfl,hE⟩
     replace hF:=aje
     clear aje
     try dsimp only at hF
     refine bH hE ?_
     refine nQ (Cm (.int .i64 (je:Int)) rfl rfl ?_)
     refine aO (mq (i:=(je:Int)) (j:=1) (.tmp rfl rfl) (.int _ _)) ?_
     refine Ca (.int .i64 (IntKind.i64.wrap ((je:Int)+1))) rfl rfl ?_
     refine dI ?_
     have auE:IntKind.i64.wrap ((je:Int)+1)=((je+1:Nat):Int):=by rw[fo (by omega) (by omega)]; rfl
     rw[auE]
     exact⟨_,Nat.lt_succ_self _,_,je+1,A8,_,_,_,Yk,acZ,Yl,Ym,ac0,rfl,(aG.cons rfl (aG.cons rfl (aG.cons rfl (aG.cons rfl (aG.cons rfl (aG.cons rfl (aG.cons rfl (aG.cons rfl (aG.nil))))))))).eq,aur,(.sel (.rd .h rfl (.rd (.t .h) rfl (.rd (.t (.t .h)) rfl (.cons (.t (.t (.t .h))) (.cons (.t (.t (.t .h))) (.rd (.t (.t (.t .h))) rfl (.cons (.t (.t (.t (.t .h)))) (.cons (.t (.t (.t (.t .h)))) (.rd (.t (.t (.t (.t .h)))) rfl .nil)))))))))),hF⟩
   rintro _ _ ⟨Sl,sM,qG,Yi,acX,wV,kS,vM,aEX,rfl,rfl,hE⟩
   replace hF:=ajc
   clear ajc
   try dsimp only at hF
   refine yf hE ?_
   refine cu (Cm aA.v rfl rfl ?_)
   refine aO (gU (off:=0) vE.h (.tmp rfl rfl)) ?_
   refine fQ (.t (.t (.t (.t .h)))) (fun hp=>fI (v:=wV.v) nJ.h (.tmp rfl rfl) hp.2 rfl rfl) ?_
   obtain⟨kF,auF,hF⟩:=bind_some hF
   refine dU (.rd (.t .h) rfl (.rd (.t (.t (.t (.t (.t .h))))) rfl .nil)) (bU akb.h (.cons (.tmp rfl rfl) (.cons (.tmp rfl rfl) .nil)) (@afB bL aA sM wV _ auF)) (fun rJ=>?_)
   refine Ca rJ.1.v rfl rfl ?_
   refine dI (h_ (cu (aO (iZ (v:=(.int .i64 0)) (.int _ _)) ?_)))
   refine dI ?_
   obtain⟨Yb,as_,aji⟩:=bind_some hF
   refine xV (fun f' cs'=>∃(oK:List Line)(l6:Sv)(wW:List Nat)(g:Fr),oK=Yb/\f'=aN g [(0,aa.v),(1,aA.v),(2,bi.v),(9,l6.v),(10,(.pointer (some ⟨k5,0,some 0⟩))),(11,(.int .i64 (kR.length:Int))),(16,rJ.1.v)]/\aK cs' [aR (aI 89 gN) aa.v ai,aR (aI 91 iG) aA.v bL,aR (aI 147 dW) bi.v bn,aD (az 149 (aj gJ)) wW l6.v oK,bS k5 160 (.agg [wV.v,kG.v,kS.v,(.int .i64 r2.Rounds)].toArray),aR (aI 147 dW) wV.v sM,aD (az 3 (aj aH)) vL kG.v qF,aD (az 145 (aj gz)) vM kS.v qG,aR (aI 147 dW) rJ.1.v kF]) ?_ ?_
   · replace hF:=as_
     refine aY (jM .h bq ?_)
     refine bK (m:=kF.length) (fun akN f' cs'=>∃(g:Fr)(lM:Nat)(A9:List Fact)(JJ:List Line)(SE:Sv)(ac5:List Nat),akN=A9.length/\f'=aN g [(0,aa.v),(1,aA.v),(2,bi.v),(9,SE.v),(10,(.pointer (some ⟨k5,0,some 0⟩))),(11,(.int .i64 (kR.length:Int))),(16,rJ.1.v),(17,(.int .i64 (lM:Int)))]/\List.drop lM kF=A9/\aK cs' [aR (aI 89 gN) aa.v ai,aR (aI 91 iG) aA.v bL,aR (aI 147 dW) bi.v bn,aD (az 149 (aj gJ)) ac5 SE.v JJ,bS k5 160 (.agg [wV.v,kG.v,kS.v,(.int .i64 r2.Rounds)].toArray),aR (aI 147 dW) wV.v sM,aD (az 3 (aj aH)) vL kG.v qF,aD (az 145 (aj gz)) vM kS.v qG,aR (aI 147 dW) rJ.1.v kF]/\Ie bL sM A9 lM JJ=some Yb) ⟨_,0,_,_,Yi,acX,rfl,(aG.cons rfl (aG.cons rfl (aG.cons rfl (aG.cons rfl (aG.cons rfl (aG.cons rfl (aG.cons rfl (aG.cons rfl (aG.nil))))))))).eq,rfl,(.sel (.rd (.t .h) rfl (.rd (.t (.t .h)) rfl (.rd (.t (.t (.t .h))) rfl (.cons (.t (.t (.t (.t .h)))) (.cons (.t (.t (.t (.t .h)))) (.rd (.t (.t (.t (.t .h)))) rfl (.cons (.t (.t (.t (.t (.t .h))))) (.cons (.t (.t (.t (.t (.t .h))))) (.rd .h rfl .nil)))))))))),hF⟩ ?_
     clear hF
     rintro akN _ _ ⟨aEY,lM,A9,JJ,SE,ac5,rfl,rfl,ajj,hE,hF⟩
     refine bH hE ?_
     clear hE
     refine uu (c:=aR (aI 147 dW) rJ.1.v kF) (.t (.t (.t (.t (.t (.t (.t (.t .h)))))))) zn (fun aCi=>?_)
     rcases A9 with _|⟨vK,A9⟩
     · have auG:=List.drop_eq_nil_iff.1 ajj
       have abO:(decide (((lM:Int):Int)<(kF.length:Int)))=false:=decide_eq_false (by omega)
       rw[Ie]at hF
       refine h_ (cu (Cm (.int .i64 (lM:Int)) rfl rfl ?_))
       refine Cm rJ.1.v rfl rfl ?_
       refine fQ (.t (.t (.t (.t (.t (.t (.t (.t .h)))))))) (fun hp=>jU (l:=kF.length) dX.h (.tmp rfl rfl) (um hp)) ?_
       refine aO (mr (i:=(lM:Int)) (j:=(kF.length:Int)) (.tmp rfl rfl) (.tmp rfl rfl)) ?_
       refine dI (jc (b:=(decide (((lM:Int):Int)<(kF.length:Int)))) (.tmp rfl rfl) (fun hb=>absurd (abO.symm.trans hb) (by decide)) (fun _=>?_))
       refine vD ?_
       iterate 2 refine uf ?_
       refine vC ?_
       obtain rfl:=Option.some.inj hF
       exact⟨_,SE,ac5,_,rfl,(aG.cons rfl (aG.cons rfl (aG.cons rfl (aG.cons rfl (aG.cons rfl (aG.cons rfl (aG.cons rfl (aG.nil)))))))).eq,(.sel (.rd .h rfl (.rd (.t .h) rfl (.rd (.t (.t .h)) rfl (.cons (.t (.t (.t .h))) (.cons (.t (.t (.t .h))) (.rd (.t (.t (.t .h))) rfl (.cons (.t (.t (.t (.t .h)))) (.cons (.t (.t (.t (.t .h)))) (.rd (.t (.t (.t (.t .h)))) rfl .nil))))))))))⟩
     obtain⟨auG,ajk,auH⟩:=bW ajj
     have abO:(decide (((lM:Int):Int)<(kF.length:Int)))=true:=decide_eq_true (by omega)
     rw[Ie]at hF
     refine h_ (cu (Cm (.int .i64 (lM:Int)) rfl rfl ?_))
     refine Cm rJ.1.v rfl rfl ?_
     refine fQ (.t (.t (.t (.t (.t (.t (.t (.t .h)))))))) (fun hp=>jU (l:=kF.length) dX.h (.tmp rfl rfl) (um hp)) ?_
     refine aO (mr (i:=(lM:Int)) (j:=(kF.length:Int)) (.tmp rfl rfl) (.tmp rfl rfl)) ?_
     refine dI (jc (b:=(decide (((lM:Int):Int)<(kF.length:Int)))) (.tmp rfl rfl) (fun _=>?_) (fun hb=>absurd (abO.symm.trans hb) (by decide)))
     refine nC (Bh (dS [0,1,2,3,4,5,6,7,8] [0,0,2,0,0,24,56,127,255] [7] mixed (by decide+kernel) ?_))
     refine Dm aA.v rfl rfl rfl rfl ?_
     refine bQ rfl .no (fun ha=>gU (off:=0) vE.h (EN ha (.tmp rfl rfl) rfl)) ?_
     refine ed rfl .no (.t (.t (.t (.t .h)))) (fun ha hp=>fI (v:=wV.v) nJ.h (EN ha (.tmp rfl rfl) rfl) hp.2 rfl rfl) ?_
     refine Dm rJ.1.v rfl rfl rfl rfl ?_
     refine Dm (.int .i64 (lM:Int)) rfl rfl rfl rfl ?_
     refine uz (a:=vK) dX.h dA.h.sz rfl .no (.tmp rfl rfl) (.tmp rfl rfl) rfl rfl (.t (.t (.t (.t (.t (.t (.t (.t .h)))))))) (Int.natCast_nonneg lM) ajk (fun aEZ aE0=>?_)
     refine Fy (ky vK) qb.h dA.h.sz rfl rfl .no (.tmp rfl rfl) rfl .h kL (fun ayG=>?_)
     obtain⟨Cu,auI,hF⟩:=bind_some hF
     refine ND rfl rfl .no (.rd (.t (.t (.t .h))) rfl (.rd (.t (.t (.t (.t (.t (.t (.t .h))))))) rfl (.rd .h rfl .nil))) (.dep rfl .nil) (fun ha=>bU awP.h (.cons (EN ha (.tmp rfl rfl) rfl) (.cons (EN ha (.tmp rfl rfl) rfl) (.cons (EN ha (.tmp rfl rfl) rfl) .nil))) (@apO bL aA sM wV vK ayG _ auI)) (fun _=>?_)
     refine Da (.int .i64 Cu) rfl rfl rfl rfl ?_
     refine p_ (nQ (Cm SE.v rfl rfl ?_))
     refine Cm (.int .i64 Cu) rfl rfl ?_
     refine Cm rJ.1.v rfl rfl ?_
     refine Cm (.int .i64 (lM:Int)) rfl rfl ?_
     refine pY (a:=vK) dX.h dA.h.sz (.tmp rfl rfl) (.tmp rfl rfl) (.t (.t (.t (.t (.t (.t (.t (.t (.t (.t .h)))))))))) (Int.natCast_nonneg lM) ajk (fun aE1 aE2=>?_)
     refine Rn (ky vK) qb.h dA.h.sz rfl (.tmp rfl rfl) .h kL (fun ac6=>?_)
     refine aO (gy oH.h rfl (vs:=[(.int .i64 Cu),(.agg [(.int .i64 vK.Rel),ac6.v].toArray)]) (.cons (.tmp rfl rfl) (.cons (.tmp rfl rfl) .nil)) (cells:=[(.int .i64 Cu),(.int .i64 0),(.slice none 0 0),(.int .i64 vK.Rel),ac6.v]) rfl) ?_
     refine dx rfl (bV (g:=true) rH.h oH.h (.cons (.tmp rfl rfl) .nil) (vs:=[(.agg [(.int .i64 Cu),(.int .i64 0),(.slice none 0 0),(.int .i64 vK.Rel),ac6.v].toArray)]) rfl rfl rfl (by intro v hv; simp at hv; rcases hv with rfl<;>rfl)) (fun aE3=>?_)
     refine BB .nil (BC (R:=aH) (E:=3)) dm ?_
     refine BB (.cons (.t .h) (.cons .h (.rd .h rfl .nil))) (bY (Ro:=(aj gJ)) (E:=149) (F:=([]++[])) (xs:=([({Rule:=Cu,Access:=({Method:=0,Values:=[]}:Access),Fact:=vK}:Line)]:List Line)) (eF (XY (v0:=⟨none,0,0⟩) (a:=({Rule:=Cu,Access:=({Method:=0,Values:=[]}:Access),Fact:=vK}:Line))) bX dm) rfl rfl) dm ?_
     obtain⟨akH,auJ,hF⟩:=bind_some hF
     refine dU (.cons (.t (.t (.t (.t (.t (.t (.t (.t .h)))))))) (.cons .h .nil)) (ek (Ro:=(aj gJ)) rH.h XZ oH.h rfl rfl rfl (.tmp rfl rfl) (.tmp rfl rfl) auJ fM) (fun ac7=>?_)
     refine Ca ac7.1.v rfl rfl ?_
     refine dI (nQ (Cm (.int .i64 (lM:Int)) rfl rfl ?_))
     refine aO (mq (i:=(lM:Int)) (j:=1) (.tmp rfl rfl) (.int _ _)) ?_
     refine Ca (.int .i64 (IntKind.i64.wrap ((lM:Int)+1))) rfl rfl ?_
     refine dI ?_
     have auK:IntKind.i64.wrap ((lM:Int)+1)=((lM+1:Nat):Int):=by rw[fo (by omega) (by omega)]; rfl
     rw[auK]
     exact⟨_,Nat.lt_succ_self _,_,lM+1,A9,_,ac7.1,ac7.2,rfl,(aG.cons rfl (aG.cons rfl (aG.cons rfl (aG.cons rfl (aG.cons rfl (aG.cons rfl (aG.cons rfl (aG.cons rfl (aG.nil))))))))).eq,auH,(.sel (.rd (.t (.t (.t (.t (.t .h))))) rfl (.rd (.t (.t (.t (.t (.t (.t .h)))))) rfl (.rd (.t (.t (.t (.t (.t (.t (.t .h))))))) rfl (.cons .h (.cons (.t (.t (.t (.t (.t (.t (.t .h))))))) (.rd (.t (.t (.t (.t (.t (.t (.t .h))))))) rfl (.cons (.t (.t (.t (.t (.t (.t (.t (.t .h)))))))) (.cons (.t (.t (.t (.t (.t (.t (.t (.t .h)))))))) (.rd (.t (.t (.t (.t (.t (.t (.t (.t .h)))))))) rfl .nil)))))))))),hF⟩
   rintro _ _ ⟨oK,l6,wW,aE4,rfl,rfl,hE⟩
   replace hF:=aji
   clear aji
   try dsimp only at hF
   refine yf hE ?_
   refine h_ (cu (aO (iZ (v:=(.int .i64 0)) (.int _ _)) ?_))
   refine dI ?_
   obtain⟨Yc,ata,ajl⟩:=bind_some hF
   refine xV (fun f' cs'=>∃(lN:List Fact)(mF:Sv)(g:Fr),lN=Yc/\f'=aN g [(0,aa.v),(1,aA.v),(2,bi.v),(9,l6.v),(10,(.pointer (some ⟨k5,0,some 0⟩))),(11,(.int .i64 (kR.length:Int)))]/\aK cs' [aR (aI 89 gN) aa.v ai,aR (aI 91 iG) aA.v bL,aR (aI 147 dW) bi.v bn,aD (az 149 (aj gJ)) wW l6.v oK,bS k5 160 (.agg [mF.v,kG.v,kS.v,(.int .i64 r2.Rounds)].toArray),aR (aI 147 dW) mF.v lN,aD (az 3 (aj aH)) vL kG.v qF,aD (az 145 (aj gz)) vM kS.v qG]) ?_ ?_
   · replace hF:=ata
     refine aY (bK (m:=kF.length) (fun akO f' cs'=>∃(g:Fr)(mE:Nat)(A_:List Fact)(FK:List Fact)(NM:Sv),akO=A_.length/\f'=aN g [(0,aa.v),(1,aA.v),(2,bi.v),(9,l6.v),(10,(.pointer (some ⟨k5,0,some 0⟩))),(11,(.int .i64 (kR.length:Int))),(16,rJ.1.v),(19,(.int .i64 (mE:Int)))]/\List.drop mE kF=A_/\aK cs' [aR (aI 89 gN) aa.v ai,aR (aI 91 iG) aA.v bL,aR (aI 147 dW) bi.v bn,aD (az 149 (aj gJ)) wW l6.v oK,bS k5 160 (.agg [NM.v,kG.v,kS.v,(.int .i64 r2.Rounds)].toArray),aR (aI 147 dW) NM.v FK,aD (az 3 (aj aH)) vL kG.v qF,aD (az 145 (aj gz)) vM kS.v qG,aR (aI 147 dW) rJ.1.v kF]/\Ee A_ mE FK=some Yc) ⟨_,0,_,_,wV,rfl,(aG.cons rfl (aG.cons rfl (aG.cons rfl (aG.cons rfl (aG.cons rfl (aG.cons rfl (aG.cons rfl (aG.cons rfl (aG.nil))))))))).eq,rfl,(.sel (.rd .h rfl (.rd (.t .h) rfl (.rd (.t (.t .h)) rfl (.cons (.t (.t (.t .h))) (.cons (.t (.t (.t .h))) (.rd (.t (.t (.t .h))) rfl (.cons (.t (.t (.t (.t .h)))) (.cons (.t (.t (.t (.t .h)))) (.rd (.t (.t (.t (.t .h)))) rfl .nil)))))))))),hF⟩ ?_)
     clear hF
     rintro akO _ _ ⟨aE5,mE,A_,FK,NM,rfl,rfl,ajm,hE,hF⟩
     refine bH hE ?_
     clear hE
     refine uu (c:=aR (aI 147 dW) rJ.1.v kF) (.t (.t (.t (.t (.t (.t (.t (.t .h)))))))) zn (fun aCj=>?_)
     rcases A_ with _|⟨Sg,A_⟩
     · have auL:=List.drop_eq_nil_iff.1 ajm
       have abP:(decide (((mE:Int):Int)<(kF.length:Int)))=false:=decide_eq_false (by omega)
       rw[Ee]at hF
       refine h_ (cu (Cm (.int .i64 (mE:Int)) rfl rfl ?_))
       refine Cm rJ.1.v rfl rfl ?_
       refine fQ (.t (.t (.t (.t (.t (.t (.t (.t .h)))))))) (fun hp=>jU (l:=kF.length) dX.h (.tmp rfl rfl) (um hp)) ?_
       refine aO (mr (i:=(mE:Int)) (j:=(kF.length:Int)) (.tmp rfl rfl) (.tmp rfl rfl)) ?_
       refine dI (jc (b:=(decide (((mE:Int):Int)<(kF.length:Int)))) (.tmp rfl rfl) (fun hb=>absurd (abP.symm.trans hb) (by decide)) (fun _=>?_))
       refine vD ?_
       iterate 2 refine uf ?_
       refine vC ?_
       obtain rfl:=Option.some.inj hF
       exact⟨_,NM,_,rfl,(aG.cons rfl (aG.cons rfl (aG.cons rfl (aG.cons rfl (aG.cons rfl (aG.cons rfl (aG.nil))))))).eq,(.sel (.rd .h rfl (.rd (.t .h) rfl (.rd (.t (.t .h)) rfl (.cons (.t (.t (.t .h))) (.cons (.t (.t (.t .h))) (.rd (.t (.t (.t .h))) rfl (.cons (.t (.t (.t (.t .h)))) (.cons (.t (.t (.t (.t .h)))) .nil)))))))))⟩
     obtain⟨auL,auM,auN⟩:=bW ajm
     have abP:(decide (((mE:Int):Int)<(kF.length:Int)))=true:=decide_eq_true (by omega)
     rw[Ee]at hF
     refine h_ (cu (Cm (.int .i64 (mE:Int)) rfl rfl ?_))
     refine Cm rJ.1.v rfl rfl ?_
     refine fQ (.t (.t (.t (.t (.t (.t (.t (.t .h)))))))) (fun hp=>jU (l:=kF.length) dX.h (.tmp rfl rfl) (um hp)) ?_
     refine aO (mr (i:=(mE:Int)) (j:=(kF.length:Int)) (.tmp rfl rfl) (.tmp rfl rfl)) ?_
     refine dI (jc (b:=(decide (((mE:Int):Int)<(kF.length:Int)))) (.tmp rfl rfl) (fun _=>?_) (fun hb=>absurd (abP.symm.trans hb) (by decide)))
     refine nC (Bh (kM [0,1,2,3,4,5,6,7,8] [0,1,0,0,12,28,63,127,255] [6,8] mixed (by decide+kernel) ?_))
     refine bQ rfl .no (fun ha=>gU (off:=0) vE.h (EN ha (.tmp rfl rfl) rfl)) ?_
     refine ed rfl .no (.t (.t (.t (.t .h)))) (fun ha hp=>fI (v:=NM.v) nJ.h (EN ha (.tmp rfl rfl) rfl) hp.2 rfl rfl) ?_
     refine Dm rJ.1.v rfl rfl rfl rfl ?_
     refine Dm (.int .i64 (mE:Int)) rfl rfl rfl rfl ?_
     refine uz (a:=Sg) dX.h dA.h.sz rfl .no (.tmp rfl rfl) (.tmp rfl rfl) rfl rfl (.t (.t (.t (.t (.t (.t (.t (.t .h)))))))) (Int.natCast_nonneg mE) auM (fun aE6 aE7=>?_)
     refine Fy (ky Sg) qb.h dA.h.sz rfl rfl .no (.tmp rfl rfl) rfl .h kL (fun ayH=>?_)
     obtain⟨akI,auO,hF⟩:=bind_some hF
     refine df rfl rfl .no (.rd (.t (.t (.t (.t (.t (.t (.t .h))))))) rfl (.rd .h rfl .nil)) (.dep rfl .nil) (fun ha=>bU Ke.h (.cons (EN ha (.tmp rfl rfl) rfl) (.cons (EN ha (.tmp rfl rfl) rfl) .nil)) (@II FK NM Sg ayH _ auO)) (fun akP=>?_)
     refine bQ rfl .no (fun ha=>gU (off:=0) vE.h (EN ha (.tmp rfl rfl) rfl)) ?_
     refine df rfl rfl .no (.cons (.t (.t (.t (.t (.t (.t (.t .h))))))) .nil) (.dep rfl .nil) (fun ha=>gF (e':=(.agg [akP.1.v,kG.v,kS.v,(.int .i64 r2.Rounds)].toArray)) Y2.h.sz (EN ha (.tmp rfl rfl) rfl) (EN ha (.tmp rfl rfl) rfl) rfl rfl rfl rfl rfl) (fun _=>?_)
     refine p_ (nQ (Cm (.int .i64 (mE:Int)) rfl rfl ?_))
     refine aO (mq (i:=(mE:Int)) (j:=1) (.tmp rfl rfl) (.int _ _)) ?_
     refine Ca (.int .i64 (IntKind.i64.wrap ((mE:Int)+1))) rfl rfl ?_
     refine dI ?_
     have auP:IntKind.i64.wrap ((mE:Int)+1)=((mE+1:Nat):Int):=by rw[fo (by omega) (by omega)]; rfl
     rw[auP]
     exact⟨_,Nat.lt_succ_self _,_,mE+1,A_,_,akP.1,rfl,(aG.cons rfl (aG.cons rfl (aG.cons rfl (aG.cons rfl (aG.cons rfl (aG.cons rfl (aG.cons rfl (aG.cons rfl (aG.nil))))))))).eq,auN,(.frz (.t .h) bq (.sel (.rd (.t (.t (.t (.t .h)))) rfl (.rd (.t (.t (.t (.t (.t .h))))) rfl (.rd (.t (.t (.t (.t (.t (.t .h)))))) rfl (.cons (.t (.t (.t (.t (.t (.t (.t .h))))))) (.cons (.t .h) (.rd .h rfl (.cons (.t (.t (.t (.t (.t (.t (.t .h))))))) (.cons (.t (.t (.t (.t (.t (.t (.t .h))))))) (.rd (.t (.t (.t (.t (.t (.t (.t .h))))))) rfl .nil))))))))))),hF⟩
   rintro _ _ ⟨lN,mF,aE8,rfl,rfl,hE⟩
   replace hF:=ajl
   clear ajl
   try dsimp only at hF
   refine yf hE ?_
   refine h_ (cu (aO (iZ (v:=(.int .i64 0)) (.int _ _)) ?_))
   refine dI ?_
   obtain⟨Yd,atb,ajn⟩:=bind_some hF
   refine xV (fun f' cs'=>∃(FL:List Int)(JQ:Sv)(Yt:List Nat)(g:Fr),FL=Yd/\f'=aN g [(0,aa.v),(1,aA.v),(2,bi.v),(9,l6.v),(10,(.pointer (some ⟨k5,0,some 0⟩))),(11,(.int .i64 (kR.length:Int)))]/\aK cs' [aR (aI 89 gN) aa.v ai,aR (aI 91 iG) aA.v bL,aR (aI 147 dW) bi.v bn,aD (az 149 (aj gJ)) wW l6.v oK,bS k5 160 (.agg [mF.v,JQ.v,kS.v,(.int .i64 r2.Rounds)].toArray),aR (aI 147 dW) mF.v lN,aD (az 3 (aj aH)) Yt JQ.v FL,aD (az 145 (aj gz)) vM kS.v qG]) ?_ ?_
   · replace hF:=atb
     refine aY (bK (m:=lN.length) (fun akQ f' cs'=>∃(g:Fr)(kE:Nat)(Ba:List Fact)(JM:List Int)(SF:Sv)(Yu:List Nat),akQ=Ba.length/\f'=aN g [(0,aa.v),(1,aA.v),(2,bi.v),(9,l6.v),(10,(.pointer (some ⟨k5,0,some 0⟩))),(11,(.int .i64 (kR.length:Int))),(20,(.int .i64 (kE:Int)))]/\List.drop kE lN=Ba/\aK cs' [aR (aI 89 gN) aa.v ai,aR (aI 91 iG) aA.v bL,aR (aI 147 dW) bi.v bn,aD (az 149 (aj gJ)) wW l6.v oK,bS k5 160 (.agg [mF.v,SF.v,kS.v,(.int .i64 r2.Rounds)].toArray),aR (aI 147 dW) mF.v lN,aD (az 3 (aj aH)) Yu SF.v JM,aD (az 145 (aj gz)) vM kS.v qG]/\Ih Ba kE JM=some Yd) ⟨_,0,_,_,kG,vL,rfl,(aG.cons rfl (aG.cons rfl (aG.cons rfl (aG.cons rfl (aG.cons rfl (aG.cons rfl (aG.cons rfl (aG.nil)))))))).eq,rfl,(.sel (.rd .h rfl (.rd (.t .h) rfl (.rd (.t (.t .h)) rfl (.cons (.t (.t (.t .h))) (.cons (.t (.t (.t .h))) (.rd (.t (.t (.t .h))) rfl (.cons (.t (.t (.t (.t .h)))) (.cons (.t (.t (.t (.t .h)))) .nil))))))))),hF⟩ ?_)
     clear hF
     rintro akQ _ _ ⟨aE9,kE,Ba,JM,SF,Yu,rfl,rfl,ajo,hE,hF⟩
     refine bH hE ?_
     clear hE
     refine uu (c:=aR (aI 147 dW) mF.v lN) (.t (.t (.t (.t (.t .h))))) zn (fun aCk=>?_)
     rcases Ba with _|⟨uD,Ba⟩
     · have auQ:=List.drop_eq_nil_iff.1 ajo
       have abQ:(decide (((kE:Int):Int)<(lN.length:Int)))=false:=decide_eq_false (by omega)
       rw[Ih]at hF
       refine h_ (cu (Cm (.int .i64 (kE:Int)) rfl rfl ?_))
       refine aO (gU (off:=0) vE.h (.tmp rfl rfl)) ?_
       refine fQ (.t (.t (.t (.t .h)))) (fun hp=>fI (v:=mF.v) nJ.h (.tmp rfl rfl) hp.2 rfl rfl) ?_
       refine fQ (.t (.t (.t (.t (.t .h))))) (fun hp=>jU (l:=lN.length) dX.h (.tmp rfl rfl) (um hp)) ?_
       refine aO (mr (i:=(kE:Int)) (j:=(lN.length:Int)) (.tmp rfl rfl) (.tmp rfl rfl)) ?_
       refine dI (jc (b:=(decide (((kE:Int):Int)<(lN.length:Int)))) (.tmp rfl rfl) (fun hb=>absurd (abQ.symm.trans hb) (by decide)) (fun _=>?_))
       refine vD ?_
       iterate 2 refine uf ?_
       refine vC ?_
       obtain rfl:=Option.some.inj hF
       exact⟨_,SF,Yu,_,rfl,(aG.cons rfl (aG.cons rfl (aG.cons rfl (aG.cons rfl (aG.cons rfl (aG.cons rfl (aG.nil))))))).eq,(.sel (.rd .h rfl (.rd (.t .h) rfl (.rd (.t (.t .h)) rfl (.cons (.t (.t (.t .h))) (.cons (.t (.t (.t .h))) (.rd (.t (.t (.t .h))) rfl (.cons (.t (.t (.t (.t .h)))) (.cons (.t (.t (.t (.t .h)))) .nil)))))))))⟩
     obtain⟨auQ,ajp,auR⟩:=bW ajo
     have abQ:(decide (((kE:Int):Int)<(lN.length:Int)))=true:=decide_eq_true (by omega)
     rw[Ih]at hF
     refine h_ (cu (Cm (.int .i64 (kE:Int)) rfl rfl ?_))
     refine aO (gU (off:=0) vE.h (.tmp rfl rfl)) ?_
     refine fQ (.t (.t (.t (.t .h)))) (fun hp=>fI (v:=mF.v) nJ.h (.tmp rfl rfl) hp.2 rfl rfl) ?_
     refine fQ (.t (.t (.t (.t (.t .h))))) (fun hp=>jU (l:=lN.length) dX.h (.tmp rfl rfl) (um hp)) ?_
     refine aO (mr (i:=(kE:Int)) (j:=(lN.length:Int)) (.tmp rfl rfl) (.tmp rfl rfl)) ?_
     refine dI (jc (b:=(decide (((kE:Int):Int)<(lN.length:Int)))) (.tmp rfl rfl) (fun _=>?_) (fun hb=>absurd (abQ.symm.trans hb) (by decide)))
     refine nC ?_
     obtain⟨acP,atc,ajq⟩:=bind_some hF
     refine fD (fun f' cs'=>∃(Sk:List Int)(Yv:Sv)(ac8:List Nat)(g:Fr),Sk=acP/\f'=aN g [(0,aa.v),(1,aA.v),(2,bi.v),(9,l6.v),(10,(.pointer (some ⟨k5,0,some 0⟩))),(11,(.int .i64 (kR.length:Int))),(20,(.int .i64 (kE:Int)))]/\aK cs' [aR (aI 89 gN) aa.v ai,aR (aI 91 iG) aA.v bL,aR (aI 147 dW) bi.v bn,aD (az 149 (aj gJ)) wW l6.v oK,bS k5 160 (.agg [mF.v,Yv.v,kS.v,(.int .i64 r2.Rounds)].toArray),aR (aI 147 dW) mF.v lN,aD (az 3 (aj aH)) ac8 Yv.v Sk,aD (az 145 (aj gz)) vM kS.v qG]) ?_ ?_
     · replace hF:=atc
       refine aY (cu (aO (iZ (v:=(.int .i64 0)) (.int _ _)) ?_))
       refine dI ?_
       obtain⟨X_,atd,ajr⟩:=bind_some hF
       refine xV (fun f' cs'=>∃(Sj:List Int)(Yw:Sv)(ac9:List Nat)(g:Fr),Sj=X_/\f'=aN g [(0,aa.v),(1,aA.v),(2,bi.v),(9,l6.v),(10,(.pointer (some ⟨k5,0,some 0⟩))),(11,(.int .i64 (kR.length:Int))),(20,(.int .i64 (kE:Int)))]/\aK cs' [aR (aI 89 gN) aa.v ai,aR (aI 91 iG) aA.v bL,aR (aI 147 dW) bi.v bn,aD (az 149 (aj gJ)) wW l6.v oK,bS k5 160 (.agg [mF.v,Yw.v,kS.v,(.int .i64 r2.Rounds)].toArray),aR (aI 147 dW) mF.v lN,aD (az 3 (aj aH)) ac9 Yw.v Sj,aD (az 145 (aj gz)) vM kS.v qG]) ?_ ?_
       · replace hF:=atd
         refine aY (bK (m:=(((uD.Values.length:Int)-0).toNat+2)) (fun JK f' cs'=>∃(g:Fr)(JL:List Int)(uE:Int)(NN:Sv)(Yx:List Nat),f'=aN g [(0,aa.v),(1,aA.v),(2,bi.v),(9,l6.v),(10,(.pointer (some ⟨k5,0,some 0⟩))),(11,(.int .i64 (kR.length:Int))),(20,(.int .i64 (kE:Int))),(21,(.int .i64 uE))]/\aK cs' [aR (aI 89 gN) aa.v ai,aR (aI 91 iG) aA.v bL,aR (aI 147 dW) bi.v bn,aD (az 149 (aj gJ)) wW l6.v oK,bS k5 160 (.agg [mF.v,NN.v,kS.v,(.int .i64 r2.Rounds)].toArray),aR (aI 147 dW) mF.v lN,aD (az 3 (aj aH)) Yx NN.v JL,aD (az 145 (aj gz)) vM kS.v qG]/\Ig uD JK JL uE=some X_) ⟨_,_,_,SF,Yu,(aG.cons rfl (aG.cons rfl (aG.cons rfl (aG.cons rfl (aG.cons rfl (aG.cons rfl (aG.cons rfl (aG.cons rfl (aG.nil))))))))).eq,(.sel (.rd .h rfl (.rd (.t .h) rfl (.rd (.t (.t .h)) rfl (.cons (.t (.t (.t .h))) (.cons (.t (.t (.t .h))) (.rd (.t (.t (.t .h))) rfl (.cons (.t (.t (.t (.t .h)))) (.cons (.t (.t (.t (.t .h)))) .nil))))))))),hF⟩ ?_)
         clear hF
         rintro JK _ _ ⟨aE_,JL,uE,NN,Yx,rfl,hE,hF⟩
         refine bH hE ?_
         clear hE
         rcases JK with _|JK
         · rw[Ig]at hF
           exact absurd hF (by simp)
         rw[Ig]at hF
         refine h_ (cu (Cm (.int .i64 uE) rfl rfl ?_))
         refine aO (gU (off:=0) vE.h (.tmp rfl rfl)) ?_
         refine fQ (.t (.t (.t (.t .h)))) (fun hp=>fI (v:=mF.v) nJ.h (.tmp rfl rfl) hp.2 rfl rfl) ?_
         refine Cm (.int .i64 (kE:Int)) rfl rfl ?_
         refine pY (a:=uD) dX.h dA.h.sz (.tmp rfl rfl) (.tmp rfl rfl) (.t (.t (.t (.t (.t .h))))) (Int.natCast_nonneg kE) ajp (fun aE' aFa=>?_)
         refine aO (gU (off:=1) abL.h (.tmp rfl rfl)) ?_
         refine wP (R':=(aI 3 aH)) iF.h (.tmp rfl rfl) .h Nw (fun aFb=>?_)
         refine fQ .h (fun hp=>jU (l:=uD.Values.length) cz.h (.tmp rfl rfl) (um hp)) ?_
         refine aO (mr (i:=uE) (j:=(uD.Values.length:Int)) (.tmp rfl rfl) (.tmp rfl rfl)) ?_
         refine dI (jc (b:=(decide ((uE:Int)<(uD.Values.length:Int)))) (.tmp rfl rfl) (fun acf=>?_) (fun acf=>?_))
         · rw[if_pos acf]at hF
           refine nC (Bh (kM [0,1,2,3,4,5,6,7,8,9,10,11,12,13] [0,1,0,4,0,28,60,124,0,508,1020,2047,4095,8191] [11,13] mixed (by decide+kernel) ?_))
           refine bQ rfl .no (fun ha=>gU (off:=1) Xz.h (EN ha (.tmp rfl rfl) rfl)) ?_
           refine ed rfl .no (.t (.t (.t (.t (.t (.t .h)))))) (fun ha hp=>fI (v:=NN.v) iF.h (EN ha (.tmp rfl rfl) rfl) hp.2 rfl rfl) ?_
           refine bQ rfl .no (fun ha=>gU (off:=0) vE.h (EN ha (.tmp rfl rfl) rfl)) ?_
           refine ed rfl .no (.t (.t (.t (.t (.t (.t .h)))))) (fun ha hp=>fI (v:=mF.v) nJ.h (EN ha (.tmp rfl rfl) rfl) hp.2 rfl rfl) ?_
           refine Dm (.int .i64 (kE:Int)) rfl rfl rfl rfl ?_
           refine uz (a:=uD) dX.h dA.h.sz rfl .no (.tmp rfl rfl) (.tmp rfl rfl) rfl rfl (.t (.t (.t (.t (.t (.t (.t .h))))))) (Int.natCast_nonneg kE) ajp (fun aFc aFd=>?_)
           refine bQ rfl .no (fun ha=>gU (off:=1) abL.h (EN ha (.tmp rfl rfl) rfl)) ?_
           refine uA (R':=(aI 3 aH)) iF.h rfl .no (.tmp rfl rfl) rfl .h Nw (fun aFe=>?_)
           refine Dm (.int .i64 uE) rfl rfl rfl rfl ?_
           obtain⟨Si,auS,hF⟩:=bind_some hF
           obtain⟨auT,auU⟩:=uk auS
           refine uz (a:=Si) cz.h cZ.h.sz rfl .no (.tmp rfl rfl) (.tmp rfl rfl) rfl rfl .h auT auU (fun aFf aFg=>?_)
           refine XW (w:=(.int .i64 Si)) Ag.h rfl .no (.tmp rfl rfl) rfl .h dG ?_
           obtain⟨akJ,auV,hF⟩:=bind_some hF
           refine df rfl rfl .no (.cons (.t (.t (.t (.t (.t (.t (.t (.t (.t (.t (.t .h))))))))))) .nil) (.dep rfl (.dep rfl .nil)) (fun ha=>bU awy.h (.cons (EN ha (.tmp rfl rfl) rfl) (.cons (EN ha (.tmp rfl rfl) rfl) .nil)) (@Qd JL NN Yx Si _ auV)) (fun ac_=>?_)
           refine bQ rfl .no (fun ha=>gU (off:=1) Xz.h (EN ha (.tmp rfl rfl) rfl)) ?_
           refine df rfl rfl .no (.cons (.t (.t (.t (.t (.t (.t (.t (.t (.t (.t .h)))))))))) .nil) (.dep rfl (.dep rfl .nil)) (fun ha=>gF (e':=(.agg [mF.v,ac_.1.v,kS.v,(.int .i64 r2.Rounds)].toArray)) lQ.h.sz (EN ha (.tmp rfl rfl) rfl) (EN ha (.tmp rfl rfl) rfl) rfl rfl rfl rfl rfl) (fun _=>?_)
           refine p_ (nQ (Cm (.int .i64 uE) rfl rfl ?_))
           refine aO (mq (i:=uE) (j:=1) (.tmp rfl rfl) (.int _ _)) ?_
           refine Ca (.int .i64 (IntKind.i64.wrap (uE+1))) rfl rfl ?_
           refine dI ?_
           exact⟨JK,Nat.lt_succ_self _,_,_,_,ac_.1,ac_.2,(aG.cons rfl (aG.cons rfl (aG.cons rfl (aG.cons rfl (aG.cons rfl (aG.cons rfl (aG.cons rfl (aG.cons rfl (aG.nil))))))))).eq,(.sel (.rd (.t (.t (.t (.t (.t (.t (.t .h))))))) rfl (.rd (.t (.t (.t (.t (.t (.t (.t (.t .h)))))))) rfl (.rd (.t (.t (.t (.t (.t (.t (.t (.t (.t .h))))))))) rfl (.cons (.t (.t (.t (.t (.t (.t (.t (.t (.t (.t .h)))))))))) (.cons .h (.rd (.t (.t (.t (.t (.t (.t (.t (.t (.t .h))))))))) rfl (.cons .h (.cons (.t (.t (.t (.t (.t (.t (.t (.t (.t .h))))))))) .nil))))))))),hF⟩
         rw[if_neg (by rw[acf]; exact Bool.false_ne_true)]at hF
         refine vD ?_
         iterate 2 refine uf ?_
         refine vC ?_
         obtain rfl:=Option.some.inj hF
         exact⟨_,NN,Yx,_,rfl,(aG.cons rfl (aG.cons rfl (aG.cons rfl (aG.cons rfl (aG.cons rfl (aG.cons rfl (aG.cons rfl (aG.nil)))))))).eq,(.sel (.rd (.t (.t .h)) rfl (.rd (.t (.t (.t .h))) rfl (.rd (.t (.t (.t (.t .h)))) rfl (.cons (.t (.t (.t (.t (.t .h))))) (.cons (.t (.t (.t (.t (.t .h))))) (.rd (.t (.t (.t (.t (.t .h))))) rfl (.cons (.t (.t (.t (.t (.t (.t .h)))))) (.cons (.t (.t (.t (.t (.t (.t .h)))))) .nil)))))))))⟩
       rintro _ _ ⟨Sj,Yw,ac9,aFh,rfl,rfl,hE⟩
       replace hF:=ajr
       clear ajr
       try dsimp only at hF
       refine yf hE ?_
       obtain rfl:=Option.some.inj hF
       exact⟨_,Yw,ac9,_,rfl,(aG.cons rfl (aG.cons rfl (aG.cons rfl (aG.cons rfl (aG.cons rfl (aG.cons rfl (aG.cons rfl (aG.nil)))))))).eq,(.sel (.rd .h rfl (.rd (.t .h) rfl (.rd (.t (.t .h)) rfl (.cons (.t (.t (.t .h))) (.cons (.t (.t (.t .h))) (.rd (.t (.t (.t .h))) rfl (.cons (.t (.t (.t (.t .h)))) (.cons (.t (.t (.t (.t .h)))) .nil)))))))))⟩
     rintro _ _ ⟨Sk,Yv,ac8,aFi,rfl,rfl,hE⟩
     replace hF:=ajq
     clear ajq
     try dsimp only at hF
     refine bH hE ?_
     refine nQ (Cm (.int .i64 (kE:Int)) rfl rfl ?_)
     refine aO (mq (i:=(kE:Int)) (j:=1) (.tmp rfl rfl) (.int _ _)) ?_
     refine Ca (.int .i64 (IntKind.i64.wrap ((kE:Int)+1))) rfl rfl ?_
     refine dI ?_
     have auW:IntKind.i64.wrap ((kE:Int)+1)=((kE+1:Nat):Int):=by rw[fo (by omega) (by omega)]; rfl
     rw[auW]
     exact⟨_,Nat.lt_succ_self _,_,kE+1,Ba,_,Yv,ac8,rfl,(aG.cons rfl (aG.cons rfl (aG.cons rfl (aG.cons rfl (aG.cons rfl (aG.cons rfl (aG.cons rfl (aG.nil)))))))).eq,auR,(.sel (.rd .h rfl (.rd (.t .h) rfl (.rd (.t (.t .h)) rfl (.cons (.t (.t (.t .h))) (.cons (.t (.t (.t .h))) (.rd (.t (.t (.t .h))) rfl (.cons (.t (.t (.t (.t .h)))) (.cons (.t (.t (.t (.t .h)))) .nil))))))))),hF⟩
   rintro _ _ ⟨FL,JQ,Yt,aFj,rfl,rfl,hE⟩
   replace hF:=ajn
   clear ajn
   try dsimp only at hF
   refine yf hE ?_
   obtain⟨acQ,ate,ajs⟩:=bind_some hF
   refine cu (gG (fun f' cs'=>∃(NI:Bool)(g:Fr),NI=acQ/\f'=aN g [(0,aa.v),(1,aA.v),(2,bi.v),(9,l6.v),(10,(.pointer (some ⟨k5,0,some 0⟩))),(183,(.bool NI))]/\aK cs' [aR (aI 89 gN) aa.v ai,aR (aI 91 iG) aA.v bL,aR (aI 147 dW) bi.v bn,aD (az 149 (aj gJ)) wW l6.v oK,bS k5 160 (.agg [mF.v,JQ.v,kS.v,(.int .i64 r2.Rounds)].toArray),aR (aI 147 dW) mF.v lN,aD (az 3 (aj aH)) Yt JQ.v FL,aD (az 145 (aj gz)) vM kS.v qG]) ?_ ?_)
   · replace hF:=ate
     refine Cm l6.v rfl rfl ?_
     refine fQ (.t (.t (.t .h))) (fun hp=>jU (l:=oK.length) rH.h (.tmp rfl rfl) (uh hp)) ?_
     refine Cm (.int .i64 (kR.length:Int)) rfl rfl ?_
     refine aO (Jw (i:=(oK.length:Int)) (j:=(kR.length:Int)) (.tmp rfl rfl) (.tmp rfl rfl)) ?_
     refine Cm (.bool (((oK.length:Int):Int)==(kR.length:Int))) rfl rfl ?_
     rcases Bool.eq_false_or_eq_true (((oK.length:Int):Int)==(kR.length:Int))with Ru|Ru
     · rw[Ru]
       try rw[Ru]at hF; dsimp only[cond_true,cond_false]at hF
       refine vQ (t:=177) rfl rfl rfl ?_
       refine Cm aa.v rfl rfl ?_
       refine vQ (t:=177) rfl rfl rfl ?_
       refine fQ (.t (.t (.t (.t .h)))) (fun hp=>jw RQ.h Cq.h.sz rfl (.tmp rfl rfl) hp.2 rfl) ?_
       refine vQ (t:=177) rfl rfl rfl ?_
       obtain⟨Sm,auX,hF⟩:=bind_some hF
       refine Gl (.cons (.t (.t (.t (.t (.t (.t (.t .h))))))) (.cons (.t (.t (.t (.t (.t (.t .h)))))) (.rd .h rfl (.rd (.t (.t (.t (.t (.t .h))))) rfl .nil)))) (Q_ (pre:=_) (.cons bq (.cons bq .nil)) (fun _=>(.cons .nil)) (jA (.rd (.t (.t .h)) rfl (.rd (.t (.t (.t .h))) rfl (.rd (.t .h) rfl (.rd .h rfl .nil)))) (bU akc.h (.cons (.tmp rfl rfl) (.cons (.tmp rfl rfl) .nil)) (@agH ai aa ({Facts:=lN,Values:=FL,Log:=qG,Rounds:=r2.Rounds}:Reached) mF JQ kS _ auX)))) (fun aFk=>?_)
       refine vQ (t:=177) rfl rfl rfl ?_
       refine fQ (.t (.t .h)) (fun hp=>jU (l:=Sm.length) nI.h (.tmp rfl rfl) (uh hp)) ?_
       refine vQ (t:=177) rfl rfl rfl ?_
       refine aO (Jw (i:=(Sm.length:Int)) (j:=0) (.tmp rfl rfl) (.int _ _)) ?_
       refine aO (XJ (b:=true) (u:=(.bool (((Sm.length:Int):Int)==0))) (v:=(.bool false)) (.tmp rfl rfl) (.tmp rfl rfl) (.bool _)) ?_
       refine dI ?_
       obtain rfl:=Option.some.inj hF
       exact⟨_,_,rfl,(aG.cons rfl (aG.cons rfl (aG.cons rfl (aG.cons rfl (aG.cons rfl (aG.cons rfl (aG.nil))))))).eq,(.sel (.rd (.t (.t (.t .h))) rfl (.rd (.t (.t (.t (.t .h)))) rfl (.rd (.t (.t (.t (.t (.t .h))))) rfl (.cons (.t (.t (.t (.t (.t (.t .h)))))) (.cons (.t (.t (.t (.t (.t (.t .h)))))) (.rd (.t (.t (.t (.t (.t (.t .h)))))) rfl (.cons (.t .h) (.cons .h .nil)))))))))⟩
     rw[Ru]
     try rw[Ru]at hF; dsimp only[cond_true,cond_false]at hF
     iterate 5 refine acr (t:=177) rfl rfl rfl ?_
     refine aO (XJ (b:=false) (u:=undef) (v:=(.bool false)) (.tmp rfl rfl) (.tmp rfl rfl) (.bool _)) ?_
     refine dI ?_
     obtain rfl:=Option.some.inj hF
     exact⟨_,_,rfl,(aG.cons rfl (aG.cons rfl (aG.cons rfl (aG.cons rfl (aG.cons rfl (aG.cons rfl (aG.nil))))))).eq,(.sel (.rd .h rfl (.rd (.t .h) rfl (.rd (.t (.t .h)) rfl (.cons (.t (.t (.t .h))) (.cons (.t (.t (.t .h))) (.rd (.t (.t (.t .h))) rfl (.cons (.t (.t (.t (.t .h)))) (.cons (.t (.t (.t (.t .h)))) .nil)))))))))⟩
   rintro _ _ ⟨NI,aFl,rfl,rfl,hE⟩
   replace hF:=ajs
   clear ajs
   try dsimp only at hF
   refine bH hE ?_
   refine jc (b:=NI) (.tmp rfl rfl) (fun acg=>?_) (fun acg=>?_)
   · rw[if_pos acg]at hF
     refine cu (Cm l6.v rfl rfl ?_)
     refine Ca l6.v rfl rfl ?_
     refine dI (Fv ?_)
     obtain rfl:=Option.some.inj hF
     replace hF:=acb
     try dsimp only at hF
     obtain rfl:=Option.some.inj hF
     exact gL (l6,wW) (.tmp rfl rfl .nil) rfl (.sel (.cons (.t (.t (.t .h))) .nil))
   rw[if_neg (by rw[acg]; exact Bool.false_ne_true)]at hF
   refine nC ?_
   obtain rfl:=Option.some.inj hF
   exact⟨_,_,_,_,l6,wW,mF,JQ,Yt,kS,vM,_,rfl,(aG.cons rfl (aG.cons rfl (aG.cons rfl (aG.cons rfl (aG.cons rfl (aG.nil)))))).eq,(.sel (.rd .h rfl (.rd (.t .h) rfl (.rd (.t (.t .h)) rfl (.cons (.t (.t (.t .h))) (.cons (.t (.t (.t .h))) (.rd (.t (.t (.t .h))) rfl (.cons (.t (.t (.t (.t .h)))) (.cons (.t (.t (.t (.t .h)))) .nil)))))))))⟩
 rintro _ _ ⟨Sn,Sq,Sr,Su,Ye,acU,Yf,Yg,acV,Yh,acW,aFm,rfl,rfl,hE⟩
 replace hF:=acb
 clear acb
 try dsimp only at hF
 refine yf hE ?_
 exact⟨JN,Nat.lt_succ_self _,_,_,_,_,_,Ye,acU,Yf,Yg,acV,Yh,acW,(aG.cons rfl (aG.cons rfl (aG.cons rfl (aG.cons rfl (aG.cons rfl (aG.nil)))))).eq,(.sel (.rd .h rfl (.rd (.t .h) rfl (.rd (.t (.t .h)) rfl (.cons (.t (.t (.t .h))) (.cons (.t (.t (.t .h))) (.rd (.t (.t (.t .h))) rfl (.cons (.t (.t (.t (.t .h)))) (.cons (.t (.t (.t (.t .h)))) .nil))))))))),hF⟩
def Av(ak:aV)(iC:(List Fact)×aS×Bool):List Line->Nat->(List Fact)->Option (Bool)
 |[],Dy,Lf=>(ET ak iC.2.1).bind fun Vo=>
   (Ej ak Lf Vo).bind fun y_=>
   some y_.2
 |x56::BS,Dy,Lf=>(vB Lf x56.Fact).bind fun U_=>
   Av ak iC BS (Dy+1) U_
def Hq(fuel:Nat)(ah:List Int)(ai:List Method)(bL:List Rule)(ak:aV):Option (Bool):=
 ((ER ah ai bL).bind fun r4=>
   bif (!r4)then (some true)
   else ((xS ah ak).bind fun r8=>
     some (!r8))).bind fun o2=>
 match o2 with
 |c11=>if c11 then (
     some false)
   else (
     (IB fuel ak).bind fun iC=>
     if (!iC.2.2)then (
       some false)
     else (
       (EK bL iC.1).bind fun r16=>
       (Eg ak).bind fun Dv=>
       (M4 ai bL r16 Dv).bind fun iV=>
       Av ak iC iV 0 ([]:List Fact)))
theorem ae2{fuel:Nat}{ah:List Int}{aa:Sv}{ai:List Method}{aA:Sv}{bL:List Rule}{bi:Sv}{ak:aV}{gu gY:Sv}{R:Bool}(hF:Hq fuel ah ai bL ak=some R):
   Fw.Spec Tryz.prog 77 [aa.v,aA.v,bi.v,(zg [gu.v,gY.v])] [ag aa ah,dO aA ai,dV bi bL,ag gu ak.Head,bZ gY ak.Atoms] (fun _:Unit=>(.bool R)) (fun _=>[]):=by
 refine Se 68 Tryz.func77 [.tmp 8] ?_
 intro H0 F0
 unfold Hq at hF
 refine au ?_
 refine bM (fun k1=>?_)
 refine bC ?_
 obtain⟨o2,jq,hO3⟩:=bind_some hF
 refine au ?_
 refine gG (fun f' cs'=>∃(c11:Bool)(g:Fr),c11=o2/\f'=aN g [(1,aA.v),(2,bi.v),(7,(pz k1)),(27,(.bool c11))]/\aK cs' [dO aA ai,dV bi bL,aQ k1 39 (zg [gu.v,gY.v]),ag gu ak.Head,bZ gY ak.Atoms]) ?_ ?_
 · replace hF:=jq
   refine bC ?_
   refine bnd hF fun r4 hx5 hF=>bJ (Ws hx5) (fun _=>?_)
   refine bg ?_
   rcases dK (!r4)with dB|dB
   · rw[dB]
     try rw[dB]at hF; dsimp only[bB,bA]at hF
     exact dw hF
   rw[dB]
   try rw[dB]at hF; dsimp only[bB,bA]at hF
   refine aX ?_
   refine bnd hF fun r8 dF hF=>bJ (IC dF) (fun _=>?_)
   exact dw hF
 rintro _ _ ⟨c11,g79,rfl,rfl,hE⟩
 replace hF:=hO3
 try dsimp only at hF
 refine bH hE ?_
 refine Ci hF (fun aAX hF=>?_) (fun aAX hF=>?_)
 · exact ze hF
 refine bC ?_
 refine bnd hF fun iC iM hF=>GN (aas iM) (fun ve=>?_)
 refine au ?_
 refine zx ?_
 refine zx ?_
 refine zx ?_
 refine dJ (fun k15=>?_)
 refine au ?_
 refine As (zg [ve.2.2.1.v,ve.2.2.2.2.1.v]) ?_
 refine bF ?_
 refine Ci hF (fun adK hF=>?_) (fun adK hF=>?_)
 · exact ze hF
 refine au ?_
 refine jM (.t .h) bq ?_
 refine dS [0,1,2,3,5,4,6,7,8] [0,0,0,0,12,0,60,127,255] [4,6,7] mixed (by decide+kernel) ?_
 refine yx ?_
 refine bnd hF fun r16 iX hF=>df rfl rfl .no (.rd .q5 rfl (.rd .h rfl .nil)) .nil (fun ha=>zD (post':=fun wy:Sv×List Nat=>[dD wy.1 r16]) (fun wy=>(.frz .h bq ax)) (bU alr.h (.cons (EN ha (.tmp rfl rfl) rfl) (.cons (EN ha (.tmp rfl rfl) rfl) .nil)) (af9 iX))) (fun wy=>?_)
 refine bnd hF fun Dv mJ hF=>df rfl rfl .no (.rd .q8 rfl (.rd .q9 rfl .nil)) .nil (fun ha=>zD (post':=fun mM:Sv×List Nat=>[ag mM.1 Dv]) (fun mM=>(.frz .h bq ax)) (bU azW.h (.cons (EN ha (.tmp rfl rfl) rfl) .nil) (V3 mJ))) (fun mM=>?_)
 refine bnd hF fun iV tq hF=>ni (af' tq) (fun nu=>?_)
 refine cB ?_
 refine au ?_
 refine dx rfl (bV (g:=true) dX.h dA.h .nil (vs:=[]) rfl rfl rfl (by simp)) (fun k25=>?_)
 refine dH (.cons .h .nil) (bY (Ro:=fP) (E:=147) (F:=[]) (xs:=([]:List Fact)) bX rfl rfl) ?_
 refine bu ?_
 refine aY (jM (.t .h) bq ?_)
 refine bK (m:=iV.length) (fun m52 f' cs'=>∃(g:Fr)(Dy:Nat)(BS:List Line)(Lf:List Fact)(v49:Sv)(Z5:List Nat),m52=BS.length/\f'=aN g [(7,(pz k1)),(10,(pz k15)),(12,nu.1.v),(13,v49.v),(14,(zi (Dy:Int)))]/\List.drop Dy iV=BS/\aK cs' [aQ k1 39 (zg [gu.v,gY.v]),ag gu ak.Head,bZ gY ak.Atoms,bS k15 136 (zg [ve.2.2.1.v,ve.2.2.2.2.1.v]),a_ ve.2.2.2.1 ve.2.2.1 iC.2.1.Vars,a_ ve.2.2.2.2.2 ve.2.2.2.2.1 iC.2.1.Values,RU nu.1 iV,fV Z5 v49 Lf]/\Av ak iC BS Dy Lf=some R) ⟨_,0,_,_,⟨(some ⟨k25,0,none⟩),0,1⟩,(k25::[]),rfl,ay,rfl,ax,hF⟩ ?_
 rintro m52 _ _ ⟨g53,Dy,BS,Lf,v49,Z5,rfl,rfl,Zy,hE,hF⟩
 refine Kb hE iV (fun aFn=>?_)
 rcases BS with _|⟨x56,BS⟩
 · have aeg:=dn Zy
   rw[Av]at hF
   refine bF ?_
   refine cO ?_
   refine aP ?_
   refine dS [0,1,2,3,9,4,5,6,7,8,10,11] [0,0,0,0,12,31,63,127,127,0,767,2047] [4,5,10] mixed (by decide+kernel) ?_
   refine fT ?_
   refine ed rfl .no .q3 (fun ha hp=>jw jC.h dY.h.sz rfl (EN ha (.tmp rfl rfl) rfl) hp.2 rfl) ?_
   refine iq rfl .no rfl (fun ha=>sD (g:=true) dY.h rfl rfl) (fun k63=>?_)
   refine bnd hF fun Vo KJ hF=>Rm rfl rfl .no (.cons .q6 (.cons .q5 (.rd .q2 rfl (.rd .q3 rfl .nil)))) (.own .h (fun _ h=>h) (.dep rfl .nil)) (fun ha=>jy (pre:=_) (.cons bq (.cons bq .nil)) (fun _=>(.cons .nil)) (jA (.rd .q2 rfl (.rd .q3 rfl (.rd .h rfl (.rd (.t .h) rfl .nil)))) (bU adw.h (.cons (EN ha (.tmp rfl rfl) rfl) (.cons (EN ha (.tmp rfl rfl) rfl) .nil)) (Wu KJ)))) (fun p66=>?_)
   refine bnd hF fun y_ Ko hF=>Fx rfl rfl .no (.cons .q2 (.cons .q8 (.rd .q4 rfl (.rd .q5 rfl .nil)))) (.own .q2 (fun _ h=>h) (.dep rfl .nil)) (fun ha=>jy (pre:=_) (.cons bq (.cons bq .nil)) (fun _=>(.cons (.cons .nil))) (jA (.rd .q2 rfl (.rd .q3 rfl (.rd .h rfl (.rd (.t .h) rfl .nil)))) (bU aj'.h (.cons (EN ha (.tmp rfl rfl) rfl) (.cons (EN ha (.tmp rfl rfl) rfl) (.cons (EN ha (.tmp rfl rfl) rfl) .nil))) (afs Ko)))) (fun p69=>?_)
   refine du ?_
   refine bQ rfl .no (fun ha=>oo (l:=[(zg [p69.1.v,p69.2.2.1.v]),(.bool y_.2)]) (v:=(zg [p69.1.v,p69.2.2.1.v])) (EN ha (.tmp rfl rfl) rfl) rfl) ?_
   refine bQ rfl .no (fun ha=>oo (l:=[(zg [p69.1.v,p69.2.2.1.v]),(.bool y_.2)]) (v:=(.bool y_.2)) (EN ha (.tmp rfl rfl) rfl) rfl) ?_
   refine df rfl rfl .no (.cons .q6 .nil) (.dep rfl (.dep rfl .nil)) (fun ha=>gF (e':=(zg [p69.1.v,p69.2.2.1.v])) (v:=(zg [p69.1.v,p69.2.2.1.v])) dY.h.sz (EN ha (.tmp rfl rfl) rfl) (EN ha (.tmp rfl rfl) rfl) rfl rfl rfl rfl rfl) (fun _=>?_)
   refine cB ?_
   exact ze hF
 obtain⟨aeg,CQ,aAY⟩:=bW Zy
 rw[Av]at hF
 refine bF ?_
 refine cK ?_
 refine bu ?_
 refine Ai CQ (fun ww j71=>?_)
 refine au ?_
 refine iw (aaS x56) agz (fun p72=>?_)
 refine bnd hF fun U_ adM hF=>l9 (.cons .q9 (.rd .h rfl .nil)) (gH bq (fun _=>(.cons .nil)) (bU Ke.h bN (II adM))) (fun p75=>?_)
 refine bF ?_
 rw[wk Dy]
 exact⟨_,bO _,_,Dy+1,BS,_,p75.1,p75.2,rfl,ay,aAY,ax,hF⟩
def Hr(ah:List Int)(ai:List Method)(bL:List Rule)(ak:aV)(fuel:Nat):Nat->(List Int)->Bool->Int->Option ((List Int)×Bool)
 |0,_,_,_=>none
 |m11+1,c6,c9,c10=>(Ka .i64 1 (bL.length:Int)).bind fun n_=>
   if (decide ((c10:Int)<n_))then (
     ((QT c10 (bL.length:Int)).bind fun mO=>
       (bif c9 then ((Qy mO c6).bind fun vg=>
           some (true,(!vg)))
         else (some (false,false))).bind fun GX=>
       match GX with
       |(c32,Vp)=>if Vp then (
           some (c6,c32))
         else (
           (Po bL c10).bind fun Dq=>
           (Hq fuel ah ai Dq ak).bind fun r37=>
           if r37 then (
             some (mO,true))
           else (
             some (c6,c32)))).bind fun yX=>
     match yX with
     |(vo,c46)=>Hr ah ai bL ak fuel m11 vo c46 (IntKind.i64.wrap (c10+1)))
   else (
     some (c6,c9))
def Pi(fuel:Nat)(ah:List Int)(ai:List Method)(bL:List Rule)(ak:aV):Option ((List Int)×Bool):=
 (ER ah ai bL).bind fun r3=>
 if (!r3)then (
   some (([]:List Int),false))
 else (
   Hr ah ai bL ak fuel fuel ([]:List Int) false 0)
theorem anM{fuel:Nat}{ah:List Int}{aa:Sv}{ai:List Method}{aA:Sv}{bL:List Rule}{bi:Sv}{ak:aV}{gu gY:Sv}{R:(List Int)×Bool}(hF:Pi fuel ah ai bL ak=some R):
   Fw.Spec Tryz.prog 30 [aa.v,aA.v,bi.v,(zg [gu.v,gY.v])] [ag aa ah,dO aA ai,dV bi bL,ag gu ak.Head,bZ gY ak.Atoms] (fun p:Sv×List Nat=>(.tuple [p.1.v,(.bool R.2)].toArray)) (fun p=>[a_ p.2 p.1 R.1]):=by
 refine Se 49 Tryz.func30 [.tmp 8,.tmp 9] ?_
 intro H0 F0
 unfold Pi at hF
 refine au ?_
 refine bM (fun k1=>?_)
 refine aP ?_
 refine dx rfl (bV (g:=true) cz.h cZ.h .nil (vs:=[]) rfl rfl rfl (by simp)) (fun k2=>?_)
 refine dH (.cons .h .nil) (bY (Ro:=(aj aH)) (E:=3) (F:=[]) (xs:=([]:List Int)) bX rfl rfl) ?_
 refine jD ?_
 refine bnd hF fun r3 hx4 hF=>bJ (Ws hx4) (fun _=>?_)
 refine bg ?_
 refine Ci hF (fun aef hF=>?_) (fun aef hF=>?_)
 · refine bu ?_
   cases hF
   exact Er (⟨(some ⟨k2,0,none⟩),0,1⟩,(k2::[]))
 refine aX ?_
 refine aY (bK (m:=fuel) (fun m11 f' cs'=>∃(g:Fr)(c6:List Int)(c9:Bool)(c10:Int)(v7:Sv)(F8:List Nat),f'=aN g [(0,aa.v),(1,aA.v),(2,bi.v),(7,(pz k1)),(10,v7.v),(11,(.bool c9)),(12,(zi c10))]/\aK cs' [ag aa ah,dO aA ai,dV bi bL,aQ k1 39 (zg [gu.v,gY.v]),ag gu ak.Head,bZ gY ak.Atoms,a_ F8 v7 c6]/\Hr ah ai bL ak fuel m11 c6 c9 c10=some R) ⟨_,_,_,_,⟨(some ⟨k2,0,none⟩),0,1⟩,(k2::[]),ay,ax,hF⟩ ?_)
 rintro m11 _ _ ⟨g12,c6,c9,c10,v7,F8,rfl,hE,hF⟩
 refine bH hE ?_
 rcases m11 with _|m11
 · rw[Hr]at hF
   exact absurd hF (by simp)
 rw[Hr]at hF
 refine aX ?_
 refine bnd hF fun n_ mJ hF=>aO (aj4 (i:=1) (j:=(bL.length:Int)) (.int _ _) (.tmp rfl rfl) mJ) ?_
 refine bg ?_
 refine Ci hF (fun hb48 hF=>?_) (fun hb48 hF=>?_)
 · refine au ?_
   obtain⟨yX,RZ,Ua⟩:=bind_some hF
   refine fD (fun f' cs'=>∃(vo:List Int)(c46:Bool)(v44:Sv)(GZ:List Nat)(g:Fr),yX=(vo,c46)/\f'=aN g [(0,aa.v),(1,aA.v),(2,bi.v),(7,(pz k1)),(10,v44.v),(11,(.bool c46)),(12,(zi c10))]/\aK cs' [ag aa ah,dO aA ai,dV bi bL,aQ k1 39 (zg [gu.v,gY.v]),ag gu ak.Head,bZ gY ak.Atoms,a_ GZ v44 vo]) ?_ ?_
   · replace hF:=RZ
     refine aY (cu (Cm (zi c10) rfl rfl ?_))
     refine bg ?_
     refine bnd hF fun mO hx24 hF=>fq (aqo hx24) (fun p25=>?_)
     refine bC ?_
     obtain⟨GX,acF,adJ⟩:=bind_some hF
     refine au ?_
     refine gG (fun f' cs'=>∃(c32 Vp:Bool)(g:Fr),GX=(c32,Vp)/\f'=aN g [(0,aa.v),(1,aA.v),(2,bi.v),(7,(pz k1)),(10,v7.v),(11,(.bool c32)),(12,(zi c10)),(13,p25.1.v),(38,(.bool Vp))]/\aK cs' [ag aa ah,dO aA ai,dV bi bL,aQ k1 39 (zg [gu.v,gY.v]),ag gu ak.Head,bZ gY ak.Atoms,a_ F8 v7 c6,a_ p25.2 p25.1 mO]) ?_ ?_
     · replace hF:=acF
       refine bg ?_
       rcases dK c9 with Ux|Ux
       · rw[Ux]
         try rw[Ux]at hF; dsimp only[bB,bA]at hF
         refine aX ?_
         refine bnd hF fun vg rR hF=>l9 (.cons .q7 (.cons .h .nil)) (jy (pre:=[]) (.cons bq (.cons bq .nil)) (fun _=>.nil) (bU azY.h bN (apM rR))) (fun _=>?_)
         exact alC hF
       rw[Ux]
       try rw[Ux]at hF; dsimp only[bB,bA]at hF
       exact alC hF
     rintro _ _ ⟨c32,Vp,g42,rfl,rfl,hE⟩
     replace hF:=adJ
     try dsimp only at hF
     refine bH hE ?_
     refine Ci hF (fun Km hF=>?_) (fun Km hF=>?_)
     · refine bC ?_
       cases hF
       exact⟨_,_,v7,F8,_,rfl,ay,ax⟩
     refine au ?_
     refine dS [0,1,2,3,5,4,6] [0,0,0,0,12,0,63] [4,6] mixed (by decide+kernel) ?_
     refine yx ?_
     refine bnd hF fun Dq sZ hF=>ni (anZ sZ) (fun p36=>?_)
     refine bnd hF fun r37 hx38 hF=>df rfl rfl .no (.cons .h (.rd .h rfl (.rd (.t .h) rfl (.rd .q4 rfl (.rd .q5 rfl .nil))))) .nil (fun ha=>gH bq (fun _=>.nil) (jA (.rd (.t .h) rfl (.rd .q2 rfl (.rd .h rfl (.rd .q3 rfl (.rd .q4 rfl .nil))))) (bU azZ.h (.cons (EN ha (.tmp rfl rfl) rfl) (.cons (EN ha (.tmp rfl rfl) rfl) (.cons (EN ha (.tmp rfl rfl) rfl) (.cons (EN ha (.tmp rfl rfl) rfl) .nil)))) (ae2 hx38)))) (fun _=>?_)
     refine du ?_
     refine Ci hF (fun Ku hF=>?_) (fun Ku hF=>?_)
     · refine bF ?_
       cases hF
       exact⟨_,_,p25.1,p25.2,_,rfl,ay,ax⟩
     refine au ?_
     cases hF
     exact⟨_,_,v7,F8,_,rfl,ay,ax⟩
   rintro _ _ ⟨vo,c46,v44,GZ,g47,rfl,rfl,hE⟩
   replace hF:=Ua
   try dsimp only at hF
   refine bH hE ?_
   refine aX ?_
   exact⟨m11,bO _,_,_,_,_,v44,GZ,ay,ax,hF⟩
 refine yg ?_
 cases hF
 exact Er (v7,F8)
def zl:Nat->Int->(List UInt8)->Option ((List UInt8))
 |0,_,_=>none
 |m5+1,c3,c4=>if ((c3:Int)!=0)then (
     if (decide (((Int.tmod c3 10):Int)<0))then (
       (gV [(uM (IntKind.i64.wrap (48+(IntKind.i64.wrap (-(Int.tmod c3 10))))))] c4).bind fun K8=>
       zl m5 (IntKind.i64.wrap (Int.tdiv c3 10)) K8)
     else (
       (gV [(uM (IntKind.i64.wrap (48+(Int.tmod c3 10))))] c4).bind fun n_=>
       zl m5 (IntKind.i64.wrap (Int.tdiv c3 10)) n_))
   else (
     some c4)
def EC(fuel:Nat)(bT:Int):Option ((List UInt8)):=
 if ((bT:Int)==0)then (
   some [48])
 else (
   (zl fuel bT []).bind fun o1=>
   match o1 with
   |Lg=>if (decide ((bT:Int)<0))then (
       (gV [45] Lg).bind fun K4=>
       some K4)
     else (
       some Lg))
theorem aay{fuel:Nat}{bT:Int}{R:(List UInt8)}(hF:EC fuel bT=some R):
   Fw.Spec Tryz.prog 79 [(zi bT)] [] (fun _:Unit=>(sv R)) (fun _=>[]):=by
 refine Se 31 Tryz.func79 [.tmp 2] ?_
 intro H0 F0
 unfold EC at hF
 refine eD ?_
 refine Ci hF (fun aeh hF=>?_) (fun aeh hF=>?_)
 · exact ze hF
 refine eG ?_
 obtain⟨o1,sW,hO2⟩:=bind_some hF
 refine fD (fun f' cs'=>∃(Lg:List UInt8)(g:Fr),Lg=o1/\f'=aN g [(3,(sv Lg)),(4,(.bool (decide ((bT:Int)<0))))]/\aK cs' []) ?_ ?_
 · replace hF:=sW
   refine aY (bK (m:=fuel) (fun m5 f' cs'=>∃(g:Fr)(c3:Int)(c4:List UInt8),f'=aN g [(0,(zi c3)),(3,(sv c4)),(4,(.bool (decide ((bT:Int)<0))))]/\aK cs' []/\zl m5 c3 c4=some o1) ⟨_,_,_,ay,ax,hF⟩ ?_)
   rintro m5 _ _ ⟨g6,c3,c4,rfl,hE,hF⟩
   refine bH hE ?_
   rcases m5 with _|m5
   · rw[zl]at hF
     exact absurd hF (by simp)
   rw[zl]at hF
   refine aX ?_
   refine Ci hF (fun aAZ hF=>?_) (fun aAZ hF=>?_)
   · refine au ?_
     refine aY (cu (Cm (zi c3) rfl rfl ?_))
     refine aO (avt (i:=c3) (j:=10) (.tmp rfl rfl) (.int _ _) (by decide)) ?_
     refine bF ?_
     refine Ci hF (fun CV hF=>?_) (fun CV hF=>?_)
     · refine bg ?_
       refine aO (avM (i:=(Int.tmod c3 10)) (.tmp rfl rfl)) ?_
       refine aX ?_
       refine aO (ahS (i:=(IntKind.i64.wrap (48+(IntKind.i64.wrap (-(Int.tmod c3 10)))))) ZW ZX (.tmp rfl rfl)) ?_
       refine dx rfl (bV (g:=true) X0.h ZY.h bN (vs:=[(.int .u8 ((uM (IntKind.i64.wrap (48+(IntKind.i64.wrap (-(Int.tmod c3 10)))))).toNat:Int))]) rfl rfl rfl (by intro v hv; simp at hv; rcases hv with rfl<;>rfl)) (fun k13=>?_)
       refine dH (.cons .h .nil) (bY (Ro:=(aj Gj)) (E:=5) (F:=([]++[])) (xs:=([(uM (IntKind.i64.wrap (48+(IntKind.i64.wrap (-(Int.tmod c3 10))))))]:List UInt8)) (eF (jd (fun _=>rfl)) bX dm) rfl rfl) ?_
       refine fQ .h (fun hp=>ah3 (u:=(uM (IntKind.i64.wrap (48+(IntKind.i64.wrap (-(Int.tmod c3 10))))))) X0.h ZX alx ZY.h.sz (.tmp rfl rfl) hp) ?_
       refine au ?_
       refine bnd hF fun K8 mf hF=>?_
       obtain⟨aHZ,aH0⟩:=jR mf
       refine aO (j6 (s:=[(uM (IntKind.i64.wrap (48+(IntKind.i64.wrap (-(Int.tmod c3 10))))))]) (t:=c4) (u:=K8) (.tmp rfl rfl) (.tmp rfl rfl) mf) ?_
       refine aP ?_
       refine aO (ajS (i:=c3) (j:=10) (.tmp rfl rfl) (.int _ _) (by decide)) ?_
       refine bg ?_
       exact⟨m5,bO _,_,_,_,ay,ax,hF⟩
     refine aP ?_
     refine aO (ahS (i:=(IntKind.i64.wrap (48+(Int.tmod c3 10)))) ZW ZX (.tmp rfl rfl)) ?_
     refine dx rfl (bV (g:=true) X0.h ZY.h bN (vs:=[(.int .u8 ((uM (IntKind.i64.wrap (48+(Int.tmod c3 10)))).toNat:Int))]) rfl rfl rfl (by intro v hv; simp at hv; rcases hv with rfl<;>rfl)) (fun k18=>?_)
     refine dH (.cons .h .nil) (bY (Ro:=(aj Gj)) (E:=5) (F:=([]++[])) (xs:=([(uM (IntKind.i64.wrap (48+(Int.tmod c3 10))))]:List UInt8)) (eF (jd (fun _=>rfl)) bX dm) rfl rfl) ?_
     refine fQ .h (fun hp=>ah3 (u:=(uM (IntKind.i64.wrap (48+(Int.tmod c3 10))))) X0.h ZX alx ZY.h.sz (.tmp rfl rfl) hp) ?_
     refine au ?_
     refine bnd hF fun n_ mJ hF=>?_
     obtain⟨aA0,aA1⟩:=jR mJ
     refine aO (j6 (s:=[(uM (IntKind.i64.wrap (48+(Int.tmod c3 10))))]) (t:=c4) (u:=n_) (.tmp rfl rfl) (.tmp rfl rfl) mJ) ?_
     refine aP ?_
     refine aO (ajS (i:=c3) (j:=10) (.tmp rfl rfl) (.int _ _) (by decide)) ?_
     refine bg ?_
     exact⟨m5,bO _,_,_,_,ay,ax,hF⟩
   exact dw hF
 rintro _ _ ⟨Lg,g31,rfl,rfl,hE⟩
 replace hF:=hO2
 try dsimp only at hF
 refine bH hE ?_
 refine aP ?_
 refine Ci hF (fun CR hF=>?_) (fun CR hF=>?_)
 · refine bg ?_
   refine bnd hF fun K4 hx27 hF=>?_
   obtain⟨aH1,aH2⟩:=jR hx27
   refine aO (j6 (s:=[45]) (t:=Lg) (u:=K4) (.sv _) (.tmp rfl rfl) hx27) ?_
   exact ze hF
 exact ze hF
def vz(fuel:Nat):List Int->Nat->(List UInt8)->Option ((List UInt8))
 |[],k5,c1=>some c1
 |x7::bR,k5,c1=>(if (decide ((0:Int)<(k5:Int)))then (
       (gV c1 [44]).bind fun jG=>
       (EC fuel x7).bind fun iV=>
       (gV jG iV).bind fun x25=>
       some x25)
     else (
       (EC fuel x7).bind fun xA=>
       (gV c1 xA).bind fun x34=>
       some x34)).bind fun xC=>
   match xC with
   |rf=>vz fuel bR (k5+1) rf
def Bb(fuel:Nat)(ai:List Int):Option ((List UInt8)):=
 vz fuel ai 0 []
theorem aaT{fuel:Nat}{ai:List Int}{aa:Sv}{R:(List UInt8)}(hF:Bb fuel ai=some R):
   Fw.Spec Tryz.prog 31 [aa.v] [ag aa ai] (fun _:Unit=>(sv R)) (fun _=>[]):=by
 refine Se 23 Tryz.func31 [.tmp 2] ?_
 intro H0 F0
 unfold Bb at hF
 refine jD ?_
 refine aY (bK (m:=ai.length) (fun m3 f' cs'=>∃(g:Fr)(k5:Nat)(bR:List Int)(c1:List UInt8),m3=bR.length/\f'=aN g [(0,aa.v),(3,(sv c1)),(4,(zi (k5:Int)))]/\List.drop k5 ai=bR/\aK cs' [ag aa ai]/\vz fuel bR k5 c1=some R) ⟨_,0,_,_,rfl,ay,rfl,ax,hF⟩ ?_)
 rintro m3 _ _ ⟨g4,k5,bR,c1,rfl,rfl,iR,hE,hF⟩
 refine Kb hE ai (fun wU=>?_)
 rcases bR with _|⟨x7,bR⟩
 · have lW:=dn iR
   rw[vz]at hF
   refine bF ?_
   refine cO ?_
   exact ze hF
 obtain⟨lW,fU,fZ⟩:=bW iR
 rw[vz]at hF
 refine bF ?_
 refine cK ?_
 refine au ?_
 obtain⟨xC,R4,Om⟩:=bind_some hF
 refine fD (fun f' cs'=>∃(rf:List UInt8)(g:Fr),rf=xC/\f'=aN g [(0,aa.v),(3,(sv rf)),(4,(zi (k5:Int)))]/\aK cs' [ag aa ai]) ?_ ?_
 · replace hF:=R4
   refine aY (h_ (cu (Cm (zi (k5:Int)) rfl rfl ?_)))
   refine bg ?_
   refine Ci hF (fun Kk hF=>?_) (fun Kk hF=>?_)
   · refine bg ?_
     refine bnd hF fun jG iX hF=>?_
     obtain⟨aH3,aH4⟩:=jR iX
     refine aO (j6 (s:=c1) (t:=[44]) (u:=jG) (.tmp rfl rfl) (.sv _) iX) ?_
     refine bu ?_
     refine Ai fU (fun k20 uY=>?_)
     refine Al dG ?_
     refine bnd hF fun iV tq hF=>bJ (aay tq) (fun _=>?_)
     refine bnd hF fun x25 ll hF=>?_
     obtain⟨aH5,aH6⟩:=jR ll
     refine aO (j6 (s:=jG) (t:=iV) (u:=x25) (.tmp rfl rfl) (.tmp rfl rfl) ll) ?_
     exact dw hF
   refine aX ?_
   refine Ai fU (fun vv j30=>?_)
   refine Al dG ?_
   refine bnd hF fun xA hx32 hF=>bJ (aay hx32) (fun _=>?_)
   refine bnd hF fun x34 sZ hF=>?_
   obtain⟨aA2,aA3⟩:=jR sZ
   refine aO (j6 (s:=c1) (t:=xA) (u:=x34) (.tmp rfl rfl) (.tmp rfl rfl) sZ) ?_
   exact dw hF
 rintro _ _ ⟨rf,g41,rfl,rfl,hE⟩
 replace hF:=Om
 try dsimp only at hF
 refine bH hE ?_
 refine aX ?_
 rw[wk k5]
 exact⟨_,bO _,_,k5+1,bR,_,rfl,ay,fZ,ax,hF⟩
def Hg(jr:(List Fact))(wu:(List Int)):List Line->Nat->(List Fact)->Option (sj×Bool)
 |[],mh,pO=>some ((⟨jr,pO,wu⟩:sj),true)
 |x82::oD,mh,pO=>(vB pO x82.Fact).bind fun r92=>
   Hg jr wu oD (mh+1) r92
def O0(fuel:Nat)(ah:List Int)(ai:List Method)(bL:List Rule)(ak:aV):Option (sj×Bool):=
 ((ER ah ai bL).bind fun r5=>
   bif (!r5)then (some true)
   else ((xS ah ak).bind fun r9=>
     bif (!r9)then (some true)
     else ((Hq fuel ah ai bL ak).bind fun mK=>
       some mK))).bind fun o3=>
 match o3 with
 |c16=>if c16 then (
     some ((⟨[],[],[]⟩:sj),false))
   else (
     (IB fuel ak).bind fun d_=>
     if (!d_.2.2)then (
       some ((⟨[],[],[]⟩:sj),false))
     else (
       (EK bL d_.1).bind fun jr=>
       (Eg ak).bind fun pQ=>
       (M4 ai bL jr pQ).bind fun rZ=>
       (ET ak d_.2.1).bind fun wu=>
       Hg jr wu rZ 0 ([]:List Fact)))
theorem anp{fuel:Nat}{ah:List Int}{aa:Sv}{ai:List Method}{aA:Sv}{bL:List Rule}{bi:Sv}{ak:aV}{gu gY:Sv}{R:sj×Bool}(hF:O0 fuel ah ai bL ak=some R):
   Fw.Spec Tryz.prog 32 [aa.v,aA.v,bi.v,(zg [gu.v,gY.v])] [ag aa ah,dO aA ai,dV bi bL,ag gu ak.Head,bZ gY ak.Atoms] (fun p:Sv×Sv×List Nat×Sv×List Nat=>(.tuple [(zg [p.1.v,p.2.1.v,p.2.2.2.1.v]),(.bool R.2)].toArray)) (fun p=>[dD p.1 R.1.All,fV p.2.2.1 p.2.1 R.1.Some,a_ p.2.2.2.2 p.2.2.2.1 R.1.Tuple]):=by
 refine Se 75 Tryz.func32 [.cell 8 85,.tmp 9] ?_
 intro H0 F0
 unfold O0 at hF
 refine au ?_
 refine bM (fun k1=>?_)
 refine dJ (fun k2=>?_)
 refine bC ?_
 obtain⟨o3,vX,hO4⟩:=bind_some hF
 refine au ?_
 refine gG (fun f' cs'=>∃(c16:Bool)(g:Fr),c16=o3/\f'=aN g [(1,aA.v),(2,bi.v),(7,(pz k1)),(8,(pz k2)),(34,(.bool c16))]/\aK cs' [dO aA ai,dV bi bL,aQ k1 39 (zg [gu.v,gY.v]),ag gu ak.Head,bZ gY ak.Atoms,bS k2 85 (.agg ([(.slice none 0 0),(.slice none 0 0),(.slice none 0 0)]:List Value).toArray)]) ?_ ?_
 · replace hF:=vX
   refine bC ?_
   refine bnd hF fun r5 hx6 hF=>bJ (Ws hx6) (fun _=>?_)
   refine bg ?_
   rcases dK (!r5)with fG|fG
   · rw[fG]
     try rw[fG]at hF; dsimp only[bB,bA]at hF
     exact dw hF
   rw[fG]
   try rw[fG]at hF; dsimp only[bB,bA]at hF
   refine aX ?_
   refine bnd hF fun r9 fU hF=>bJ (IC fU) (fun _=>?_)
   refine aP ?_
   rcases dK (!r9)with kv|kv
   · rw[kv]
     try rw[kv]at hF; dsimp only[bB,bA]at hF
     exact dw hF
   rw[kv]
   try rw[kv]at hF; dsimp only[bB,bA]at hF
   refine eG ?_
   refine bnd hF fun mK iA hF=>bJ (ae2 iA) (fun _=>?_)
   exact dw hF
 rintro _ _ ⟨c16,g98,rfl,rfl,hE⟩
 replace hF:=hO4
 try dsimp only at hF
 refine bH hE ?_
 refine Ci hF (fun aA4 hF=>?_) (fun aA4 hF=>?_)
 · refine au ?_
   refine aO (gy vT.h rfl (vs:=[]) .nil (cells:=[(.slice none 0 0),(.slice none 0 0),(.slice none 0 0)]) rfl) ?_
   refine As (.agg ([(.slice none 0 0),(.slice none 0 0),(.slice none 0 0)]:List Value).toArray) ?_
   refine bC ?_
   cases hF
   exact gL (⟨none,0,0⟩,⟨none,0,0⟩,[],⟨none,0,0⟩,[]) (.cellA rfl rfl .h rfl Oc.h vT.h.sz rfl rfl (.tmp rfl rfl .nil)) rfl (.conv .nil (BC (R:=dW) (E:=147)) (.cons .nil) (.conv .nil (fH (Ro:=fP) (E:=147)) (.cons .nil) (.conv .nil (fH (Ro:=(aj aH)) (E:=3)) (.cons .nil) (.sel (.rd .q2 rfl (.cons (.t .h) (.cons .h .nil)))))))
 refine bC ?_
 refine bnd hF fun d_ gq hF=>GN (aas gq) (fun r_=>?_)
 refine au ?_
 refine zx ?_
 refine zx ?_
 refine zx ?_
 refine dJ (fun k20=>?_)
 refine au ?_
 refine As (zg [r_.2.2.1.v,r_.2.2.2.2.1.v]) ?_
 refine bF ?_
 refine Ci hF (fun aA5 hF=>?_) (fun aA5 hF=>?_)
 · refine au ?_
   refine aO (gy vT.h rfl (vs:=[]) .nil (cells:=[(.slice none 0 0),(.slice none 0 0),(.slice none 0 0)]) rfl) ?_
   refine As (.agg ([(.slice none 0 0),(.slice none 0 0),(.slice none 0 0)]:List Value).toArray) ?_
   refine bC ?_
   cases hF
   exact gL (⟨none,0,0⟩,⟨none,0,0⟩,[],⟨none,0,0⟩,[]) (.cellA rfl rfl .h rfl Oc.h vT.h.sz rfl rfl (.tmp rfl rfl .nil)) rfl (.conv .nil (BC (R:=dW) (E:=147)) (.cons .nil) (.conv .nil (fH (Ro:=fP) (E:=147)) (.cons .nil) (.conv .nil (fH (Ro:=(aj aH)) (E:=3)) (.cons .nil) (.sel (.rd .q2 rfl (.cons (.t .h) (.cons .h .nil)))))))
 refine aP ?_
 refine bnd hF fun jr mY hF=>l9 (.cons (.t .h) (.rd .q4 rfl .nil)) (gH bq (fun _=>(.cons .nil)) (jA (.rd (.t .h) rfl (.rd .h rfl .nil)) (bU alr.h bN (af9 mY)))) (fun lX=>?_)
 refine bg ?_
 refine jM (.t .h) bq ?_
 refine aX ?_
 refine bnd hF fun pQ hx28 hF=>fq (V3 hx28) (fun p29=>?_)
 refine aj0 .h bq ?_
 refine bnd hF fun rZ hx31 hF=>fq (af' hx31) (fun p32=>?_)
 refine bu ?_
 refine bnd hF fun wu hx34 hF=>Gl (.cons .q6 (.cons .q5 (.rd .q8 rfl (.rd .q9 rfl .nil)))) (jy (pre:=_) (.cons bq (.cons bq .nil)) (fun _=>(.cons .nil)) (jA (.rd .q2 rfl (.rd .q3 rfl (.rd .h rfl (.rd (.t .h) rfl .nil)))) (bU adw.h bN (Wu hx34)))) (fun p35=>?_)
 refine aO (gy vT.h rfl (vs:=[lX.1.v,p35.1.v]) bN (cells:=[lX.1.v,(.slice none 0 0),p35.1.v]) rfl) ?_
 refine dJ (fun gZ=>?_)
 refine As (zg [lX.1.v,(.slice none 0 0),p35.1.v]) ?_
 refine aX ?_
 refine aY (jM .q4 bq ?_)
 refine bK (m:=rZ.length) (fun Vf f' cs'=>∃(g:Fr)(mh:Nat)(oD:List Line)(pO:List Fact)(v75:Sv)(Du:List Nat),Vf=oD.length/\f'=aN g [(8,(pz k2)),(14,p32.1.v),(15,(pz gZ)),(16,(zi (mh:Int)))]/\List.drop mh rZ=oD/\aK cs' [bS k2 85 (.agg ([(.slice none 0 0),(.slice none 0 0),(.slice none 0 0)]:List Value).toArray),RU p32.1 rZ,bS gZ 85 (zg [lX.1.v,v75.v,p35.1.v]),dD lX.1 jr,fV Du v75 pO,a_ p35.2 p35.1 wu]/\Hg jr wu oD mh pO=some R) ⟨_,0,_,_,⟨none,0,0⟩,[],rfl,ay,rfl,(.conv .nil (fH (Ro:=fP) (E:=147)) (.cons .nil) ax),hF⟩ ?_
 rintro Vf _ _ ⟨g79,mh,oD,pO,v75,Du,rfl,rfl,KA,hE,hF⟩
 refine Kb hE rZ (fun ayg=>?_)
 rcases oD with _|⟨x82,oD⟩
 · have ad6:=dn KA
   rw[Hg]at hF
   refine bF ?_
   refine cO ?_
   refine bu ?_
   refine As (zg [lX.1.v,v75.v,p35.1.v]) ?_
   refine bC ?_
   cases hF
   exact gL (lX.1,v75,Du,p35.1,p35.2) (.cellA rfl rfl .h rfl Oc.h vT.h.sz rfl rfl (.tmp rfl rfl .nil)) rfl (.sel (.rd .q3 rfl (.cons .q4 (.cons .q4 .nil))))
 obtain⟨ad6,Gv,ad7⟩:=bW KA
 rw[Hg]at hF
 refine bF ?_
 refine cK ?_
 refine bg ?_
 refine kM [0,1,2,3,4,5,6,7,8,9] [0,1,0,0,12,28,60,127,255,511] [7,9] mixed (by decide+kernel) ?_
 refine du ?_
 refine ed rfl .no .q2 (fun ha hp=>fI (v:=v75.v) nJ.h (EN ha (.tmp rfl rfl) rfl) hp.2 rfl rfl) ?_
 refine cB ?_
 refine Di Gv (fun qy j90=>?_)
 refine du ?_
 refine qM (aaS x82) agz (fun p91=>?_)
 refine bnd hF fun r92 hx93 hF=>qB rfl rfl .no (.cons .q6 (.rd .h rfl .nil)) (.dep rfl .nil) (fun ha=>gH bq (fun _=>(.cons .nil)) (bU Ke.h (.cons (EN ha (.tmp rfl rfl) rfl) (.cons (EN ha (.tmp rfl rfl) rfl) .nil)) (II hx93))) (fun y9=>?_)
 refine du ?_
 refine df rfl rfl .no (.cons .q6 .nil) (.dep rfl .nil) (fun ha=>gF (e':=(zg [lX.1.v,y9.1.v,p35.1.v])) Y2.h.sz (EN ha (.tmp rfl rfl) rfl) (EN ha (.tmp rfl rfl) rfl) rfl rfl rfl rfl rfl) (fun _=>?_)
 refine du ?_
 refine aX ?_
 rw[wk mh]
 exact⟨_,bO _,_,mh+1,oD,_,y9.1,y9.2,rfl,ay,ad7,ax,hF⟩
def Ec(aU:Fact)(fuel:Nat):List Int->Nat->Option ((List UInt8))
 |[],k15=>(EC fuel aU.Rel).bind fun kJ=>
   (gV [114] kJ).bind fun x27=>
   (gV x27 [40]).bind fun x31=>
   (Bb fuel aU.Values).bind fun yV=>
   (gV x31 yV).bind fun x38=>
   (gV x38 [41]).bind fun Dr=>
   some Dr
 |wC::BU,k15=>(lI wC 0 9).bind fun lu=>
   if (!lu)then (
     some [])
   else (
     Ec aU fuel BU (k15+1))
def Mx(fuel:Nat)(aU:Fact):Option ((List UInt8)):=
 ((lI aU.Rel 0 2).bind fun r4=>
   bif (!r4)then (some true)
   else ((lI (aU.Values.length:Int) 1 3).bind fun r8=>
     some (!r8))).bind fun o2=>
 match o2 with
 |c11=>if c11 then (
     some [])
   else (
     Ec aU fuel aU.Values 0)
theorem afC{fuel:Nat}{aU:Fact}{aM:Sv}{R:(List UInt8)}(hF:Mx fuel aU=some R):
   Fw.Spec Tryz.prog 86 [(zg [(zi aU.Rel),aM.v])] [ag aM aU.Values] (fun _:Unit=>(sv R)) (fun _=>[]):=by
 refine Se 39 Tryz.func86 [.tmp 2] ?_
 intro H0 F0
 unfold Mx at hF
 refine au ?_
 refine bM (fun k1=>?_)
 refine bC ?_
 obtain⟨o2,jq,hO3⟩:=bind_some hF
 refine au ?_
 refine gG (fun f' cs'=>∃(c11:Bool)(g:Fr),c11=o2/\f'=aN g [(1,(pz k1)),(14,(.bool c11))]/\aK cs' [aQ k1 147 (zg [(zi aU.Rel),aM.v]),ag aM aU.Values]) ?_ ?_
 · replace hF:=jq
   refine bg ?_
   refine bnd hF fun r4 hx5 hF=>bJ (nR hx5) (fun _=>?_)
   refine bg ?_
   rcases dK (!r4)with dB|dB
   · rw[dB]
     try rw[dB]at hF; dsimp only[bB,bA]at hF
     exact dw hF
   rw[dB]
   try rw[dB]at hF; dsimp only[bB,bA]at hF
   refine bF ?_
   refine bnd hF fun r8 dF hF=>bJ (nR dF) (fun _=>?_)
   exact dw hF
 rintro _ _ ⟨c11,g54,rfl,rfl,hE⟩
 replace hF:=hO3
 try dsimp only at hF
 refine bH hE ?_
 refine Ci hF (fun KD hF=>?_) (fun KD hF=>?_)
 · exact ze hF
 refine aX ?_
 refine aY (bK (m:=aU.Values.length) (fun m13 f' cs'=>∃(g:Fr)(k15:Nat)(BU:List Int),m13=BU.length/\f'=aN g [(1,(pz k1)),(3,(zi (k15:Int)))]/\List.drop k15 aU.Values=BU/\aK cs' [aQ k1 147 (zg [(zi aU.Rel),aM.v]),ag aM aU.Values]/\Ec aU fuel BU k15=some R) ⟨_,0,_,rfl,ay,rfl,ax,hF⟩ ?_)
 rintro m13 _ _ ⟨g14,k15,BU,rfl,rfl,Y_,hE,hF⟩
 refine Kb hE aU.Values (fun aFo=>?_)
 rcases BU with _|⟨wC,BU⟩
 · have aA6:=dn Y_
   rw[Ec]at hF
   refine eD ?_
   refine cO ?_
   refine aP ?_
   refine dS [0,1,5,6,2,3,4,7,8,9,10] [0,1,3,7,15,0,32,103,255,511,1023] [2,7] mixed (by decide+kernel) ?_
   refine sU ?_
   refine bnd hF fun kJ hx25 hF=>jk (aay hx25) (fun _=>?_)
   refine bnd hF fun x27 hx28 hF=>?_
   obtain⟨aA7,aA8⟩:=jR hx28
   refine bQ rfl .no (fun ha=>j6 (s:=[114]) (t:=kJ) (u:=x27) (EN ha (.sv _) rfl) (EN ha (.tmp rfl rfl) rfl) hx28) ?_
   refine bnd hF fun x31 hx32 hF=>?_
   obtain⟨aH7,aH8⟩:=jR hx32
   refine bQ rfl .no (fun ha=>j6 (s:=x27) (t:=[40]) (u:=x31) (EN ha (.tmp rfl rfl) rfl) (EN ha (.sv _) rfl) hx32) ?_
   refine bnd hF fun yV yG hF=>jk (aaT yG) (fun _=>?_)
   refine bnd hF fun x38 hx39 hF=>?_
   obtain⟨aH9,aH_⟩:=jR hx39
   refine bQ rfl .no (fun ha=>j6 (s:=x31) (t:=yV) (u:=x38) (EN ha (.tmp rfl rfl) rfl) (EN ha (.tmp rfl rfl) rfl) hx39) ?_
   refine bnd hF fun Dr qO hF=>?_
   obtain⟨aH',aIa⟩:=jR qO
   refine bQ rfl .no (fun ha=>j6 (s:=x38) (t:=[41]) (u:=Dr) (EN ha (.tmp rfl rfl) rfl) (EN ha (.sv _) rfl) qO) ?_
   refine cB ?_
   exact ze hF
 obtain⟨aA6,mJ,aA9⟩:=bW Y_
 rw[Ec]at hF
 refine eD ?_
 refine cK ?_
 refine bu ?_
 refine Ai mJ (fun Z9 j47=>?_)
 refine Al dG ?_
 refine bnd hF fun lu kU hF=>bJ (nR kU) (fun _=>?_)
 refine bg ?_
 refine Ci hF (fun aei hF=>?_) (fun aei hF=>?_)
 · exact ze hF
 refine bu ?_
 rw[wk k15]
 exact⟨_,bO _,_,k15+1,BU,rfl,ay,aA9,ax,hF⟩
def AQ(fuel:Nat):List Fact->Nat->(List UInt8)->Option ((List UInt8))
 |[],k5,c1=>if (c1==[])then (
     some [110,111,110,101])
   else (
     some c1)
 |x7::bR,k5,c1=>(if (decide ((0:Int)<(k5:Int)))then (
       (gV c1 [32]).bind fun wC=>
       (Mx fuel x7).bind fun kJ=>
       (gV wC kJ).bind fun x27=>
       some x27)
     else (
       (Mx fuel x7).bind fun Dq=>
       (gV c1 Dq).bind fun lw=>
       some lw)).bind fun nP=>
   match nP with
   |Vq=>AQ fuel bR (k5+1) Vq
def M5(fuel:Nat)(ai:List Fact):Option ((List UInt8)):=
 AQ fuel ai 0 []
theorem aga{fuel:Nat}{ai:List Fact}{aa:Sv}{R:(List UInt8)}(hF:M5 fuel ai=some R):
   Fw.Spec Tryz.prog 33 [aa.v] [dD aa ai] (fun _:Unit=>(sv R)) (fun _=>[]):=by
 refine Se 25 Tryz.func33 [.tmp 2] ?_
 intro H0 F0
 unfold M5 at hF
 refine jD ?_
 refine aY (bK (m:=ai.length) (fun m3 f' cs'=>∃(g:Fr)(k5:Nat)(bR:List Fact)(c1:List UInt8),m3=bR.length/\f'=aN g [(0,aa.v),(3,(sv c1)),(4,(zi (k5:Int)))]/\List.drop k5 ai=bR/\aK cs' [dD aa ai]/\AQ fuel bR k5 c1=some R) ⟨_,0,_,_,rfl,ay,rfl,ax,hF⟩ ?_)
 rintro m3 _ _ ⟨g4,k5,bR,c1,rfl,rfl,iR,hE,hF⟩
 refine Kb hE ai (fun wU=>?_)
 rcases bR with _|⟨x7,bR⟩
 · have lW:=dn iR
   rw[AQ]at hF
   refine bF ?_
   refine cO ?_
   refine bF ?_
   refine aO (ajU (s:=c1) (t:=[]) (.tmp rfl rfl) (.sv _)) ?_
   refine au ?_
   refine Ci hF (fun aej hF=>?_) (fun aej hF=>?_)
   · exact ze hF
   exact ze hF
 obtain⟨lW,fU,fZ⟩:=bW iR
 rw[AQ]at hF
 refine bF ?_
 refine cK ?_
 refine au ?_
 obtain⟨nP,Ct,yK⟩:=bind_some hF
 refine fD (fun f' cs'=>∃(Vq:List UInt8)(g:Fr),Vq=nP/\f'=aN g [(0,aa.v),(3,(sv Vq)),(4,(zi (k5:Int)))]/\aK cs' [dD aa ai]) ?_ ?_
 · replace hF:=Ct
   refine aY (h_ (cu (Cm (zi (k5:Int)) rfl rfl ?_)))
   refine bg ?_
   refine Ci hF (fun Km hF=>?_) (fun Km hF=>?_)
   · refine bg ?_
     refine bnd hF fun wC gq hF=>?_
     obtain⟨aIb,aIc⟩:=jR gq
     refine aO (j6 (s:=c1) (t:=[32]) (u:=wC) (.tmp rfl rfl) (.sv _) gq) ?_
     refine bu ?_
     refine Ai fU (fun k21 U4=>?_)
     refine iw (ky x7) kL (fun lX=>?_)
     refine bnd hF fun kJ hx25 hF=>bJ (afC hx25) (fun _=>?_)
     refine bnd hF fun x27 hx28 hF=>?_
     obtain⟨aA7,aA8⟩:=jR hx28
     refine aO (j6 (s:=wC) (t:=kJ) (u:=x27) (.tmp rfl rfl) (.tmp rfl rfl) hx28) ?_
     exact dw hF
   refine aX ?_
   refine Ai fU (fun Z8 j32=>?_)
   refine iw (ky x7) kL (fun p33=>?_)
   refine bnd hF fun Dq sZ hF=>bJ (afC sZ) (fun _=>?_)
   refine bnd hF fun lw hx38 hF=>?_
   obtain⟨aId,aIe⟩:=jR hx38
   refine aO (j6 (s:=c1) (t:=Dq) (u:=lw) (.tmp rfl rfl) (.tmp rfl rfl) hx38) ?_
   exact dw hF
 rintro _ _ ⟨Vq,g44,rfl,rfl,hE⟩
 replace hF:=yK
 try dsimp only at hF
 refine bH hE ?_
 refine aX ?_
 rw[wk k5]
 exact⟨_,bO _,_,k5+1,bR,_,rfl,ay,fZ,ax,hF⟩
end Go.Proofs.YtdmapdjncfkhhaaGreatDoor
