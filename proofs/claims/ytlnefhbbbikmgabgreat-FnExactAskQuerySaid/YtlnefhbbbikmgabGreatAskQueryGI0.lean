/-
  Functions of the program as Lean functions, and that the calls return what these say. No conditions.
-/
import Derived.Test.YtlnefhbbbikmgabGreatAskQueryG
set_option maxRecDepth 100000
set_option maxHeartbeats 4000000
set_option linter.unusedVariables false
namespace Go.Proofs.YtlnefhbbbikmgabGreat
open Go Go.Fw
def rT(aC:List Int):Option ((List Int)):=
 (app ([]:List Int) aC).bind fun z5=>
 some z5
instance XP:I1 112 t0 u1 rT:=⟨by
 intro aC _ R hF
 refine' en Tryz.func112 (rT.eq_1 ..)
 refine aen (xs:=aC) jO.h aU bQ ad8 (fun WN hn2=>?_)
 refine eQ ?_
 refine nY (b:=WN) (.tmp rfl rfl) (fun hb3=>?_) (fun hb3=>?_)
 have hnil:=hn2 hb3
 replace hF:some []=some R:=by rw[hnil]at hF; simpa[app]using hF
 refine' go
 refine' go⟩
def Pq:List Method->Nat->(List Method)->Option ((List Method))
 |[],k8,c2=>some c2
 |kS::qA,k8,c2=>(rT kS.bg).bind fun eX=>
   (app c2 ([({aD:=kS.aD,bg:=eX,Limit:=kS.Limit,bK:=kS.bK,gW:=kS.gW}:Method)]:List Method)).bind fun z25=>
   Pq qA (k8+1) z25
def Yy(aG:List Method):Option ((List Method)):=
 Pq aG 0 ([]:List Method)
instance ast:I1 113 t26 u3 Yy:=⟨by
 intro _ _ _ hF
 refine' en Tryz.func113 (Yy.eq_1 ..)
 refine' Gb iT []
 refine' ed (q1 3 (tO 127 iT)) 9 [7,8]<;>rw[Pq]at hF<;>refine' go⟩
def Bu(dC:aj):Option (aj):=
 (rT dC.Values).bind fun r3=>
 some ({aD:=dC.aD,Values:=r3}:aj)
instance aJG:I1 225 t6 u6 Bu:=⟨by
 intro _ _ _ hF
 refine' en Tryz.func225 (Bu.eq_1 ..)⟩
def PT:List aj->Nat->(List aj)->Option ((List aj))
 |[],k8,c2=>some c2
 |kS::qA,k8,c2=>(Bu kS).bind fun eX=>
   (app c2 ([eX]:List aj)).bind fun z25=>
   PT qA (k8+1) z25
def Br(aG:List aj):Option ((List aj)):=
 PT aG 0 ([]:List aj)
instance ate:I1 178 t20 u7 Br:=⟨by
 intro _ _ _ hF
 refine' en Tryz.func178 (Br.eq_1 ..)
 refine' Gb dV []
 refine' ed (q1 3 (tO 164 dV)) 9 [7,8]<;>rw[PT]at hF<;>refine' go⟩
theorem ajq{aG:List aj}{aA:Sv}{R:(List aj)}(hF:Br aG=some R):
   Fw.Spec Tryz.prog 178 [aA.v] [aI (ak 164 gZ) aA.v aG] (fun p:Sv×List Nat=>p.1.v) (fun p=>[ah (aa 164 dV) p.2 p.1.v R]):=ate.h hF
def Qz(aT:Source):Option (Source):=
 (Br aT.Facts).bind fun r3=>
 some ({Facts:=r3,Version:=aT.Version}:Source)
instance asK:I1 114 t21 u8 Qz:=⟨by
 intro _ _ _ hF
 have hD:=True.intro
 refine' en Tryz.func114 (Qz.eq_1 ..)
 refine' KD [0,1,3,4,2,5,6] [0,1,3,0,8,31,63] [2,6] mixed ?_
 refine' go⟩
def Yz(aT:aS):Option (Bool):=
 some true
instance aIJ:I1 180 t22 u20 Yz:=⟨by
 intro _ _ _ _ hF
 refine' en Tryz.func180 (Yz.eq_1 ..)⟩
def Bo(ae:ag):Option (ag):=
 (rT ae.Values).bind fun r3=>
 some ({Method:=ae.Method,Values:=r3}:ag)
instance asL:I1 181 t9 u9 Bo:=⟨by
 intro _ _ _ hF
 refine' en Tryz.func181 (Bo.eq_1 ..)⟩
theorem ajc{ae:ag}{bB:Sv}{R:ag}(hF:Bo ae=some R):
   Fw.Spec Tryz.prog 181 [(.agg [(.int .i64 ae.Method),bB.v].toArray)] [aI (ak 3 ax) bB.v ae.Values] (fun p:Sv×List Nat=>(.agg [(.int .i64 R.Method),p.1.v].toArray)) (fun p=>[ah (aa 3 (az ax)) p.2 p.1.v R.Values]):=asL.h hF
def LQ(aT:aS):Option (aS):=
 (Bo aT.ag).bind fun r3=>
 (Br aT.Facts).bind fun r6=>
 some ({ag:=r3,Facts:=r6,At:=aT.At}:aS)
instance aIS:I1 226 t22 u10 LQ:=⟨by
 intro aT _ _ _ hF
 have hD:=True.intro
 refine' en Tryz.func226 (LQ.eq_1 ..)
 refine' KD [0,1,3,4,6,7,2,5,8,9] [0,1,3,0,8,31,0,64,255,511] [2,5,9] mixed ?_
 refine' go
 rename_i r3 p5 _ p8
 refine' dw rfl .no (fun ha=>iy jl.h rfl (vs:=[(.agg [(.int .i64 r3.Method),p5.1.v].toArray),p8.1.v,(.int .i64 aT.At)]) (.cons (EN ha (.tmp rfl rfl) rfl) (.cons (EN ha (.tmp rfl rfl) rfl) (.cons (EN ha (.tmp rfl rfl) rfl) .nil))) (cells:=[(.int .i64 r3.Method),p5.1.v,p8.1.v,(.int .i64 aT.At)]) rfl) ?_
 refine' go⟩
def O3(bG:Cache):List aS->Nat->(List aS)->Option (Cache)
 |[],WO,gD=>some ({Entries:=gD,Age:=bG.Age}:Cache)
 |WP::ae',WO,gD=>((Yz WP).bind fun WB=>
     if WB then (
       (LQ WP).bind fun r60=>
       (app gD ([r60]:List aS)).bind fun z64=>
       some z64)
     else (
       some gD)).bind fun o51=>
   match o51 with
   |ll=>O3 bG ae' (WO+1) ll
def XT(bG:Cache):Option (Cache):=
 O3 bG bG.Entries 0 ([]:List aS)
theorem aiL{bG:Cache}{aA:Sv}{R:Cache}(hF:XT bG=some R):
   Fw.Spec Tryz.prog 179 [(.agg [aA.v,(.int .i64 bG.Age)].toArray),(.func (.func 180) [].toArray [].toArray)] [aI (ak 201 jm) aA.v bG.Entries] (fun p:Sv×List Nat=>(.agg [p.1.v,(.int .i64 R.Age)].toArray)) (fun p=>[ah (aa 201 g_) p.2 p.1.v R.Entries]):=by
 refine' en Tryz.func179 (XT.eq_1 ..)
 refine' aP (iy p_.h rfl (vs:=[(.int .i64 bG.Age)]) (.cons (.tmp rfl rfl) .nil) (cells:=[(.slice none 0 0),(.int .i64 bG.Age)]) rfl) ?_
 refine' go
 rename_i k3
 refine' ed (.mk (β:=(List aS)) (ι:=Sv×List Nat) (fun gD i1=>[]) (fun gD i1=>[aW k3 47 (.agg [i1.1.v,(.int .i64 bG.Age)].toArray),ah (aa 201 g_) i1.2 i1.1.v gD]) [] [pz k3]) 14 [1,4,5,12,13]<;>rw[O3]at hF<;>refine' go
 rename_i i1 _ _ _ _
 refine' cu ((Dq.mk (β:=(List aS)) (ι:=Sv×List Nat) (fun ll i2=>[]) (fun ll i2=>[aW k3 47 (.agg [i2.1.v,(.int .i64 bG.Age)].toArray),ah (aa 201 g_) i2.2 i2.1.v ll]) [] [pz k3]).dr [i1.1.v]) [1,4,5,12,13,14]
instance:dz Tryz.prog 179 (type_of% @aiL):=⟨@aiL⟩
def Me(bG:Cache):Option (Cache):=
 (XT bG).bind fun r3=>
 some r3
instance atf:I1 115 t23 u12 Me:=⟨by
 intro _ _ _ hF
 refine' en Tryz.func115 (Me.eq_1 ..)⟩
def Pb:List ag->Nat->(List ag)->Option ((List ag))
 |[],k8,c2=>some c2
 |kS::qA,k8,c2=>(Bo kS).bind fun eX=>
   (app c2 ([eX]:List ag)).bind fun z25=>
   Pb qA (k8+1) z25
def Yk(aG:List ag):Option ((List ag)):=
 Pb aG 0 ([]:List ag)
instance asb:I1 116 t24 u13 Yk:=⟨by
 intro _ _ _ hF
 refine' en Tryz.func116 (Yk.eq_1 ..)
 refine' ed (q1 3 (tO 85 ji)) 9 [7,8]<;>rw[Pb]at hF<;>refine' go⟩
def PD:List (List Int)->Nat->(List (List Int))->Option ((List (List Int)))
 |[],k8,c2=>some c2
 |kS::qA,k8,c2=>(rT kS).bind fun kR=>
   (app c2 ([kR]:List (List Int))).bind fun z24=>
   PD qA (k8+1) z24
def YV(aG:List (List Int)):Option ((List (List Int))):=
 PD aG 0 ([]:List (List Int))
instance asM:I1 118 A8 Kn YV:=⟨by
 intro _ _ _ hF
 refine' en Tryz.func118 (YV.eq_1 ..)
 refine' ed (q1 3 (tO 22 (aa 3 (az ax)))) 9 [7,8]<;>rw[PD]at hF<;>refine' go⟩
def Ry(mR:bO):Option (bO):=
 (rT mR.Map).bind fun r3=>
 some ({From:=mR.From,To:=mR.To,Map:=r3}:bO)
instance atS:I1 117 t4 u4 Ry:=⟨by
 intro _ _ _ hF
 refine' en Tryz.func117 (Ry.eq_1 ..)⟩
def EB(aF:bU)(r4:(List Int))(r7:(List Method))(fF:Source)(gQ:Cache)(r16:(List ag))(eU:(List Int))(c93:List bO):List (List (List Int))->Nat->(List (List (List Int)))->Option (bU)
 |[],DU,c130=>some (⟨r4,r7,c93,fF,gQ,aF.Now,r16,eU,aF.bI,c130⟩:bU)
 |aqV::Ce,DU,c130=>(YV aqV).bind fun ahH=>
   (app c130 ([ahH]:List (List (List Int)))).bind fun z152=>
   EB aF r4 r7 fF gQ r16 eU c93 Ce (DU+1) z152
def G5(aF:bU)(r4:(List Int))(r7:(List Method))(fF:Source)(gQ:Cache)(r16:(List ag))(eU:(List Int)):List bO->Nat->(List bO)->Option (bU)
 |[],Es,c93=>EB aF r4 r7 fF gQ r16 eU c93 aF.bX 0 ([]:List (List (List Int)))
 |x101::Cf,Es,c93=>(Ry x101).bind fun Vs=>
   (app c93 ([Vs]:List bO)).bind fun z164=>
   G5 aF r4 r7 fF gQ r16 eU Cf (Es+1) z164
def Lm(aF:bU):Option (bU):=
 (rT aF.bA).bind fun r4=>
 (Yy aF.Methods).bind fun r7=>
 (Qz aF.Source).bind fun fF=>
 (Me aF.Cache).bind fun gQ=>
 (Yk aF.bD).bind fun r16=>
 (rT aF.dh).bind fun eU=>
 G5 aF r4 r7 fF gQ r16 eU aF.bV 0 ([]:List bO)
theorem ar7{aF:bU}{aA bB eG f_ iL jq jr iX:Sv}{R:bU}(hF:Lm aF=some R):
   Fw.Spec Tryz.prog 38 [(zg [aA.v,bB.v,eG.v,f_.v,(zi aF.Source.Version),iL.v,(zi aF.Cache.Age),(zi aF.Now),jq.v,jr.v,(zi aF.bI),iX.v])] [bi aA aF.bA,dY bB aF.Methods,wu eG aF.bV,iK f_ aF.Source.Facts,ku iL aF.Cache.Entries,sN jq aF.bD,bi jr aF.dh,aI (ak 79 (ak 22 (ak 3 ax))) iX.v aF.bX] (fun p:Sv×List Nat×Sv×List Nat×Sv×List Nat×Sv×List Nat×Sv×List Nat×Sv×List Nat×Sv×List Nat×Sv×List Nat=>(zg [p.1.v,p.2.2.1.v,p.2.2.2.2.1.v,p.2.2.2.2.2.2.1.v,(zi R.Source.Version),p.2.2.2.2.2.2.2.2.1.v,(zi R.Cache.Age),(zi R.Now),p.2.2.2.2.2.2.2.2.2.2.1.v,p.2.2.2.2.2.2.2.2.2.2.2.2.1.v,(zi R.bI),p.2.2.2.2.2.2.2.2.2.2.2.2.2.2.1.v])) (fun p=>[dW p.2.1 p.1 R.bA,qz p.2.2.2.1 p.2.2.1 R.Methods,qY p.2.2.2.2.2.1 p.2.2.2.2.1 R.bV,ik p.2.2.2.2.2.2.2.1 p.2.2.2.2.2.2.1 R.Source.Facts,jK p.2.2.2.2.2.2.2.2.2.1 p.2.2.2.2.2.2.2.2.1 R.Cache.Entries,oL p.2.2.2.2.2.2.2.2.2.2.2.1 p.2.2.2.2.2.2.2.2.2.2.1 R.bD,dW p.2.2.2.2.2.2.2.2.2.2.2.2.2.1 p.2.2.2.2.2.2.2.2.2.2.2.2.1 R.dh,ah (aa 79 (aa 22 (aa 3 (az ax)))) p.2.2.2.2.2.2.2.2.2.2.2.2.2.2.2 p.2.2.2.2.2.2.2.2.2.2.2.2.2.2.1.v R.bX]):=by
 refine Se 62 Tryz.func38 [.cell 2 50] ?_
 intro H0 F0
 unfold Lm at hF
 refine au ?_
 refine j6 (fun k1=>?_)
 refine gI (fun k2=>?_)
 refine au ?_
 refine iQ [0,1,3,4,6,7,9,10,12,13,14,15,17,18,20,21,23,2,5,8,11,16,19,22,24] [0,1,3,0,8,31,0,64,255,0,512,2047,0,4096,0,16384,53247,0,131072,511999,0,1048576,4194303,0,16777215] [2,5,8,11,16,19,24] mixed (by decide+kernel) ?_
 refine aGi ?_
 refine Ar rfl .no (.t .h) rfl (fun ha hp=>pO (s:=2) (l:=[f_.v,(zi aF.Source.Version)]) ap7.h ap6.h.sz (EN ha (.tmp rfl rfl) rfl) hp.2 rfl (by decide) (aQS rfl) rfl) ?_
 refine du ?_
 refine Ar rfl .no (.t .h) rfl (fun ha hp=>pO (s:=2) (l:=[iL.v,(zi aF.Cache.Age)]) wD.h p_.h.sz (EN ha (.tmp rfl rfl) rfl) hp.2 rfl (by decide) (aQS rfl) rfl) ?_
 refine aGk ?_
 refine jw rfl .no rfl (fun ha=>vW (g:=true) qE.h rfl rfl) (fun k3=>?_)
 refine bnd hF fun r4 hx5 hF=>dx rfl rfl .no (.rd .q3 rfl .nil) (.own .h (fun _ h=>h) .nil) (fun ha=>cK aoA.h (.cons (EN ha (.tmp rfl rfl) rfl) .nil) (XP.h hx5)) (fun p6=>?_)
 refine bnd hF fun r7 Kz hF=>dx rfl rfl .no (.rd .q5 rfl .nil) (.own (.t .h) (fun _ h=>h) .nil) (fun ha=>cK aCC.h (.cons (EN ha (.tmp rfl rfl) rfl) .nil) (ast.h Kz)) (fun p9=>?_)
 refine bnd hF fun fF DR hF=>dx rfl rfl .no (.rd .q8 rfl .nil) (.own .q2 (fun _ h=>h) .nil) (fun ha=>cK aCD.h (.cons (EN ha (.tmp rfl rfl) rfl) .nil) (asK.h DR)) (fun kE=>?_)
 refine bnd hF fun gQ J3 hF=>dx rfl rfl .no (.rd .q10 rfl .nil) (.own .q3 (fun _ h=>h) .nil) (fun ha=>cK aCE.h (.cons (EN ha (.tmp rfl rfl) rfl) .nil) (atf.h J3)) (fun oU=>?_)
 refine bnd hF fun r16 Vm hF=>dx rfl rfl .no (.rd .q12 rfl .nil) (.own .q4 (fun _ h=>h) .nil) (fun ha=>cK aCF.h (.cons (EN ha (.tmp rfl rfl) rfl) .nil) (asb.h Vm)) (fun bZ=>?_)
 refine bnd hF fun eU DN hF=>dx rfl rfl .no (.rd .q14 rfl .nil) (.own .q5 (fun _ h=>h) .nil) (fun ha=>cK aoA.h (.cons (EN ha (.tmp rfl rfl) rfl) .nil) (XP.h DN)) (fun fH=>?_)
 refine dw rfl .no (fun ha=>iy qE.h rfl (vs:=[p6.1.v,p9.1.v,(zg [kE.1.v,(zi fF.Version)]),(zg [oU.1.v,(zi gQ.Age)]),(zi aF.Now),bZ.1.v,fH.1.v,(zi aF.bI)]) (.cons (EN ha (.tmp rfl rfl) rfl) (.cons (EN ha (.tmp rfl rfl) rfl) (.cons (EN ha (.tmp rfl rfl) rfl) (.cons (EN ha (.tmp rfl rfl) rfl) (.cons (EN ha (.tmp rfl rfl) rfl) (.cons (EN ha (.tmp rfl rfl) rfl) (.cons (EN ha (.tmp rfl rfl) rfl) (.cons (EN ha (.tmp rfl rfl) rfl) .nil)))))))) (cells:=[p6.1.v,p9.1.v,(.slice none 0 0),kE.1.v,(zi fF.Version),oU.1.v,(zi gQ.Age),(zi aF.Now),bZ.1.v,fH.1.v,(zi aF.bI),(.slice none 0 0)]) (by kernel_rfl)) ?_
 refine dx rfl rfl .no (.cons .q6 .nil) (.aV rfl .nil) (fun ha=>iO (e':=(zg [p6.1.v,p9.1.v,(.slice none 0 0),kE.1.v,(zi fF.Version),oU.1.v,(zi gQ.Age),(zi aF.Now),bZ.1.v,fH.1.v,(zi aF.bI),(.slice none 0 0)])) (v:=(zg [p6.1.v,p9.1.v,(.slice none 0 0),kE.1.v,(zi fF.Version),oU.1.v,(zi gQ.Age),(zi aF.Now),bZ.1.v,fH.1.v,(zi aF.bI),(.slice none 0 0)])) qE.h.sz (EN ha (.tmp rfl rfl) rfl) (EN ha (.tmp rfl rfl) rfl) rfl rfl rfl rfl rfl) (fun _=>?_)
 refine du ?_
 refine iq ?_
 refine gU (kI (m:=aF.bV.length) (fun m97 f' cs'=>∃(g:Fr)(Es:Nat)(Cf c93:List bO)(Et:Sv)(F95:List Nat),m97=Cf.length/\f'=dm g [(1,(pz k1)),(2,(pz k2)),(3,(pz k3)),(32,eG.v),(33,(zi (aF.bV.length:Int))),(34,(zi (Es:Int)))]/\List.drop Es aF.bV=Cf/\bL cs' [bC k1 50 (zg [aA.v,bB.v,eG.v,f_.v,(zi aF.Source.Version),iL.v,(zi aF.Cache.Age),(zi aF.Now),jq.v,jr.v,(zi aF.bI),iX.v]),bi aA aF.bA,dY bB aF.Methods,wu eG aF.bV,iK f_ aF.Source.Facts,ku iL aF.Cache.Entries,sN jq aF.bD,bi jr aF.dh,aI (ak 79 (ak 22 (ak 3 ax))) iX.v aF.bX,aW k2 50 (.agg ([(.slice none 0 0),(.slice none 0 0),(.slice none 0 0),(.slice none 0 0),(zi 0),(.slice none 0 0),(zi 0),(zi 0),(.slice none 0 0),(.slice none 0 0),(zi 0),(.slice none 0 0)]:List Value).toArray),aW k3 50 (zg [p6.1.v,p9.1.v,Et.v,kE.1.v,(zi fF.Version),oU.1.v,(zi gQ.Age),(zi aF.Now),bZ.1.v,fH.1.v,(zi aF.bI),(.slice none 0 0)]),dW p6.2 p6.1 r4,qz p9.2 p9.1 r7,qY F95 Et c93,ik kE.2 kE.1 fF.Facts,jK oU.2 oU.1 gQ.Entries,oL bZ.2 bZ.1 r16,dW fH.2 fH.1 eU]/\G5 aF r4 r7 fF gQ r16 eU Cf Es c93=some R) ⟨_,0,_,_,⟨none,0,0⟩,[],rfl,df,rfl,(.conv .nil (jJ (Ro:=jX) (E:=129)) (.cons .nil) bT),hF⟩ ?_)
 rintro m97 _ _ ⟨g98,Es,Cf,c93,Et,F95,rfl,rfl,hd102,hE,hF⟩
 refine Kb hE aF.bV (fun aMu=>?_)
 rcases Cf with _|⟨x101,Cf⟩
 · have afU:=dn hd102
   rw[G5]at hF
   refine dO ?_
   refine mQ ?_
   refine afH ?_
   refine gU (kI (m:=aF.bX.length) (fun aqW f' cs'=>∃(g:Fr)(DU:Nat)(Ce c130:List (List (List Int)))(v131:Sv)(ahI:List Nat),aqW=Ce.length/\f'=dm g [(2,(pz k2)),(3,(pz k3)),(47,iX.v),(48,(zi (aF.bX.length:Int))),(49,(zi (DU:Int)))]/\List.drop DU aF.bX=Ce/\bL cs' [aW k2 50 (.agg ([(.slice none 0 0),(.slice none 0 0),(.slice none 0 0),(.slice none 0 0),(zi 0),(.slice none 0 0),(zi 0),(zi 0),(.slice none 0 0),(.slice none 0 0),(zi 0),(.slice none 0 0)]:List Value).toArray),aW k3 50 (zg [p6.1.v,p9.1.v,Et.v,kE.1.v,(zi fF.Version),oU.1.v,(zi gQ.Age),(zi aF.Now),bZ.1.v,fH.1.v,(zi aF.bI),v131.v]),dW p6.2 p6.1 r4,qz p9.2 p9.1 r7,qY F95 Et c93,ik kE.2 kE.1 fF.Facts,jK oU.2 oU.1 gQ.Entries,oL bZ.2 bZ.1 r16,dW fH.2 fH.1 eU,ah (aa 79 (aa 22 (aa 3 (az ax)))) ahI v131.v c130,aI (ak 79 (ak 22 (ak 3 ax))) iX.v aF.bX]/\EB aF r4 r7 fF gQ r16 eU c93 Ce DU c130=some R) ⟨_,0,_,_,⟨none,0,0⟩,[],rfl,df,rfl,(.conv .nil (jJ (Ro:=(aa 22 (aa 3 (az ax)))) (E:=79)) (.cons .nil) bT),hF⟩ ?_)
   rintro aqW _ _ ⟨aP4,DU,Ce,c130,v131,ahI,rfl,rfl,apf,hE,hF⟩
   refine Kb hE aF.bX (fun aMv=>?_)
   rcases Ce with _|⟨aqV,Ce⟩
   · have aDY:=dn apf
     rw[EB]at hF
     refine dO ?_
     refine mQ ?_
     refine lN ?_
     refine As (zg [p6.1.v,p9.1.v,Et.v,kE.1.v,(zi fF.Version),oU.1.v,(zi gQ.Age),(zi aF.Now),bZ.1.v,fH.1.v,(zi aF.bI),v131.v]) ?_
     refine eu ?_
     cases hF
     exact Er (p6.1,p6.2,p9.1,p9.2,Et,F95,kE.1,kE.2,oU.1,oU.2,bZ.1,bZ.2,fH.1,fH.2,v131,ahI)
   obtain⟨aDY,aDZ,aD0⟩:=kH apf
   rw[EB]at hF
   refine dO ?_
   refine mP ?_
   refine fw ?_
   refine Ai aDZ (fun aP5 aP6=>?_)
   refine Tz (R':=(ak 22 (ak 3 ax))) abp.h (.tmp rfl rfl) .h ae4 (fun aP7=>?_)
   refine eu ?_
   refine qP [0,1,2,3,4,5,6,7] [0,1,0,4,12,31,63,127] [3,5,7] mixed (by decide+kernel) ?_
   refine du ?_
   refine dF rfl .no .q3 (fun ha hp=>gy (v:=v131.v) ap4.h (EN ha (.tmp rfl rfl) rfl) hp.2 rfl rfl) ?_
   refine du ?_
   refine bnd hF fun ahH aD1 hF=>dx rfl rfl .no (.rd .h rfl .nil) (.own .q3 (fun _ h=>h) .nil) (fun ha=>cK aCH.h (.cons (EN ha (.tmp rfl rfl) rfl) .nil) (asM.h aD1)) (fun aqX=>?_)
   refine jw rfl .no rfl (fun ha=>gq (g:=true) (len:=1) (parts:=[(0,.tmp 56)]) Aw.h xG.h (.cons (EN ha (.tmp rfl rfl) rfl) .nil) (vs:=[aqX.1.v]) rfl rfl rfl (by intro v hv; simp at hv; rcases hv with rfl<;>rfl)) (fun aP8=>?_)
   refine lQ (.cons .h (.cons .h .nil)) (gu (Ro:=(aa 22 (aa 3 (az ax)))) (E:=79) (F:=(aqX.2++[])) (xs:=([ahH]:List (List (List Int)))) (iV yA fU dS) rfl rfl) ?_
   refine bnd hF fun z152 hx153 hF=>dx rfl rfl .no (.cons .q12 (.cons .h .nil)) (.aV rfl (.aV rfl .nil)) (fun ha=>iU (Ro:=(aa 22 (aa 3 (az ax)))) Aw.h UW xG.h rfl rfl rfl (EN ha (.tmp rfl rfl) rfl) (EN ha (.tmp rfl rfl) rfl) hx153 kJ) (fun ahJ=>?_)
   refine du ?_
   refine dx rfl rfl .no (.cons .q4 .nil) (.aV rfl (.aV rfl .nil)) (fun ha=>iO (e':=(zg [p6.1.v,p9.1.v,Et.v,kE.1.v,(zi fF.Version),oU.1.v,(zi gQ.Age),(zi aF.Now),bZ.1.v,fH.1.v,(zi aF.bI),ahJ.1.v])) ap9.h.sz (EN ha (.tmp rfl rfl) rfl) (EN ha (.tmp rfl rfl) rfl) rfl rfl rfl rfl rfl) (fun _=>?_)
   refine du ?_
   refine dO ?_
   rw[wk DU]
   exact⟨_,lT _,_,DU+1,Ce,_,ahJ.1,ahJ.2,rfl,df,aD0,bT,hF⟩
 obtain⟨afU,hx104,aD2⟩:=kH hd102
 rw[G5]at hF
 refine dO ?_
 refine mP ?_
 refine fw ?_
 refine Ai hx104 (fun aP9 aP_=>?_)
 refine NV (akE x101) akF (fun aHr=>?_)
 refine gI (fun aP'=>?_)
 refine As (zg [(zi x101.From),(zi x101.To),aHr.v]) ?_
 refine au ?_
 refine qP [0,1,2,3,4,5,6,7] [0,1,0,4,12,31,63,127] [3,5,7] mixed (by decide+kernel) ?_
 refine du ?_
 refine dF rfl .no .q13 (fun ha hp=>gy (v:=Et.v) ap'.h (EN ha (.tmp rfl rfl) rfl) hp.2 rfl rfl) ?_
 refine dF rfl .no .h (fun ha hp=>lm aCr.h yL.h.sz rfl (EN ha (.tmp rfl rfl) rfl) hp.2 rfl) ?_
 refine bnd hF fun Vs aD3 hF=>dx rfl rfl .no (.rd (.t .h) rfl .nil) (.aV rfl (.own .q13 (fun _ h=>h) .nil)) (fun ha=>cK aCG.h (.cons (EN ha (.tmp rfl rfl) rfl) .nil) (atS.h aD3)) (fun aqY=>?_)
 refine jw rfl .no rfl (fun ha=>gq (g:=true) (len:=1) (parts:=[(0,.tmp 41)]) F9.h yL.h (.cons (EN ha (.tmp rfl rfl) rfl) .nil) (vs:=[(zg [(zi Vs.From),(zi Vs.To),aqY.1.v])]) rfl rfl rfl (by intro v hv; simp at hv; rcases hv with rfl<;>rfl)) (fun aQa=>?_)
 refine lQ (.cons .h (.cons .h .nil)) (gu (Ro:=jX) (E:=129) (F:=(aqY.2++[])) (xs:=([Vs]:List bO)) (iV TJ fU dS) rfl rfl) ?_
 refine bnd hF fun z164 aD4 hF=>dx rfl rfl .no (.cons (.t (.t (.t (.t (.t (.t (.t (.t (.t (.t (.t (.t (.t (.t (.t (.t (.t .h))))))))))))))))) (.cons .h .nil)) (.aV rfl (.aV rfl (.aV rfl .nil))) (fun ha=>iU (Ro:=jX) F9.h agX yL.h rfl rfl rfl (EN ha (.tmp rfl rfl) rfl) (EN ha (.tmp rfl rfl) rfl) aD4 kJ) (fun ahK=>?_)
 refine du ?_
 refine dx rfl rfl .no (.cons .q14 .nil) (.aV rfl (.aV rfl (.aV rfl .nil))) (fun ha=>iO (e':=(zg [p6.1.v,p9.1.v,ahK.1.v,kE.1.v,(zi fF.Version),oU.1.v,(zi gQ.Age),(zi aF.Now),bZ.1.v,fH.1.v,(zi aF.bI),(.slice none 0 0)])) ap5.h.sz (EN ha (.tmp rfl rfl) rfl) (EN ha (.tmp rfl rfl) rfl) rfl rfl rfl rfl rfl) (fun _=>?_)
 refine du ?_
 refine dO ?_
 rw[wk Es]
 exact⟨_,lT _,_,Es+1,Cf,_,ahK.1,ahK.2,rfl,df,aD2,bT,hF⟩
instance asc:I1 38 t25 u16 Lm:=⟨fun h=>ar7 h⟩
def mG(pJ:Int)(Js:Int)(Jf:Int):Option (Bool):=
 some ((decide ((Js:Int)<=pJ))&&(decide ((pJ:Int)<=Jf)))
instance aKA:I3 128 t1 t1 t1 u20 mG:=⟨by
 intro pJ Js Jf _ hF
 refine' en Tryz.func128 (mG.eq_1 ..)
 refine' zA [(6,(.bool ((decide ((Js:Int)<=pJ))&&(decide ((pJ:Int)<=Jf)))))] [] (fun _=>?_)
 refine' go⟩
def YW(pJ:Int):Option (Bool):=
 (mG pJ 1 3).bind fun r1=>
 some (!r1)
instance aIT:I1 227 t1 u20 YW:=⟨by
 intro _ _ hF
 refine' en Tryz.func227 (YW.eq_1 ..)⟩
def Xv:List Int->Nat->Option (Int)
 |[],k4=>some (-1)
 |x6::dH,k4=>(YW x6).bind fun fu=>
   if fu then (
     some (k4:Int))
   else (
     Xv dH (k4+1))
def XI(aC:List Int):Option (Int):=
 Xv aC 0
theorem aiE{aC:List Int}{aA:Sv}{R:Int}(hF:XI aC=some R):
   Fw.Spec Tryz.prog 239 [aA.v,(.func (.func 227) [].toArray [].toArray)] [aI (ak 3 ax) aA.v aC] (fun _:Unit=>(.int .i64 R)) (fun _=>[]):=by
 refine' en Tryz.func239 (XI.eq_1 ..)
 refine' eP q0 8 [0,1,7]<;>rw[Xv]at hF<;>refine' go
instance:dz Tryz.prog 239 (type_of% @aiE):=⟨@aiE⟩
def OY(aC:List Int):Option (Bool):=
 (XI aC).bind fun r1=>
 some (decide ((0:Int)<=r1))
theorem aix{aC:List Int}{aA:Sv}{R:Bool}(hF:OY aC=some R):
   Fw.Spec Tryz.prog 194 [aA.v,(.func (.func 227) [].toArray [].toArray)] [aI (ak 3 ax) aA.v aC] (fun _:Unit=>(.bool R)) (fun _=>[]):=by
 refine' en Tryz.func194 (OY.eq_1 ..)
instance:dz Tryz.prog 194 (type_of% @aix):=⟨@aix⟩
def Bv(aC:List Int):Option (Bool):=
 ((mG (aC.length:Int) 1 3).bind fun r3=>
   bif r3 then ((OY aC).bind fun r7=>
     some (!r7))
   else (some false)).bind fun o1=>
 match o1 with
 |c10=>some c10
instance aJH:I1 182 t0 u20 Bv:=⟨by
 intro _ _ _ hF
 refine' en Tryz.func182 (Bv.eq_1 ..)
 refine' rc (q1 2 tB) []⟩
def BN(aC:List Int)(TQ:Int):Option (Bool):=
 ((Bv aC).bind fun r3=>
   bif r3 then ((mG TQ 0 (IntKind.i64.wrap ((aC.length:Int)-1))).bind fun r7=>
     some r7)
   else (some false)).bind fun o1=>
 match o1 with
 |c10=>some c10
instance aKB:I2 229 t0 t1 u20 BN:=⟨by
 intro _ _ _ _ hF
 refine' en Tryz.func229 (BN.eq_1 ..)
 refine' rc (q1 4 tB) []⟩
def PU(aG:List Int):List Int->Nat->Option (Bool)
 |[],k4=>some true
 |x6::dH,k4=>(bif (decide ((0:Int)<(k4:Int)))then ((ix aG (IntKind.i64.wrap ((k4:Int)-1))).bind fun sU=>
       some (decide ((x6:Int)<=sU)))
     else (some false)).bind fun wQ=>
   match wQ with
   |c24=>if c24 then (
       some false)
     else (
       PU aG dH (k4+1))
def Q5(aG:List Int):Option (Bool):=
 PU aG aG 0
instance aJd:I1 270 t0 u20 Q5:=⟨by
 intro _ _ _ hF
 refine' en Tryz.func270 (Q5.eq_1 ..)
 refine' eP q0 6 [0,5]<;>rw[PU]at hF<;>refine' go
 refine' qj ?_
 refine' go
 refine' dc (q1 22 tB) [0,5,6]⟩
def PE(jd:Int)(aH:Int):Option (Bool):=
 (mG jd 0 (IntKind.i64.wrap (aH-1))).bind fun r1=>
 some (!r1)
instance aIs:I2 271 t1 t33 u20 PE:=⟨by
 intro _ _ _ _ hF
 refine' en Tryz.func271 (PE.eq_1 ..)⟩
def Xp(aH:Int):List Int->Nat->Option (Int)
 |[],k4=>some (-1)
 |x6::dH,k4=>(PE x6 aH).bind fun fu=>
   if fu then (
     some (k4:Int))
   else (
     Xp aH dH (k4+1))
def XB(aC:List Int)(aH:Int):Option (Int):=
 Xp aH aC 0
instance aIi:I2 239 t0 t34 u0 XB:=⟨by
 intro _ _ _ _ _ hF
 refine' en Tryz.func239 (XB.eq_1 ..)
 refine' eP q0 8 [0,1,7]<;>rw[Xp]at hF<;>refine' go⟩
def OW(aC:List Int)(aH:Int):Option (Bool):=
 (XB aC aH).bind fun r1=>
 some (decide ((0:Int)<=r1))
instance aIg:I2 194 t0 t34 u20 OW:=⟨by
 intro _ _ _ _ _ hF
 refine' en Tryz.func194 (OW.eq_1 ..)⟩
def SF(pJ:Int):Option (Bool):=
 (mG pJ 0 99).bind fun r1=>
 some r1
instance aKC:I1 272 t1 u20 SF:=⟨by
 intro _ _ hF
 refine' en Tryz.func272 (SF.eq_1 ..)⟩
def YA(aF:Method)(aex:Int):Option (Bool):=
 ((Q5 aF.bg).bind fun r5=>
   bif r5 then ((OW aF.bg aex).bind fun r9=>
     bif (!r9)then ((mG aF.Limit 0 9).bind fun gQ=>
       bif gQ then ((SF aF.bK).bind fun fC=>
         bif fC then ((mG aF.gW 1 99).bind fun eX=>
           some eX)
         else (some false))
       else (some false))
     else (some false))
   else (some false)).bind fun o3=>
 match o3 with
 |c24=>some c24
instance aIK:I2 230 t2 t1 u20 YA:=⟨by
 intro _ _ _ _ hF
 refine' en Tryz.func230 (YA.eq_1 ..)
 refine' rc (q1 4 tB) []⟩
def Rz(aC:List Int)(aF:Method):Option (Bool):=
 ((BN aC aF.aD).bind fun r4=>
   bif r4 then ((ix aC aF.aD).bind fun x8=>
     (YA aF x8).bind fun iG=>
     some iG)
   else (some false)).bind fun o2=>
 match o2 with
 |c17=>some c17
instance aJI:I2 185 t0 t2 u20 Rz:=⟨by
 intro _ _ _ _ _ hF
 refine' en Tryz.func185 (Rz.eq_1 ..)
 refine' dc (q1 4 tB) []⟩
def PV(aF:Method)(aH:List Int):Option (Bool):=
 (Rz aH aF).bind fun r2=>
 some (!r2)
theorem ai4{aF:Method}{bB:Sv}{bu:Nat}{aH:List Int}{dB:Sv}{R:Bool}(hF:PV aF aH=some R):
   Fw.Spec Tryz.prog 184 [(.agg [(.int .i64 aF.aD),bB.v,(.int .i64 aF.Limit),(.int .i64 aF.bK),(.int .i64 aF.gW)].toArray),(.pointer (some ⟨bu,0,some 0⟩))] [aI (ak 3 ax) bB.v aF.bg,bC bu 22 dB.v,aI (ak 3 ax) dB.v aH] (fun _:Unit=>(.bool R)) (fun _=>[]):=by
 refine' en Tryz.func184 (PV.eq_1 ..)
instance:dz Tryz.prog 184 (type_of% @ai4):=⟨@ai4⟩
def WW(aH:List Int):List Method->Nat->Option (Int)
 |[],k4=>some (-1)
 |x6::dH,k4=>(PV x6 aH).bind fun r16=>
   if r16 then (
     some (k4:Int))
   else (
     WW aH dH (k4+1))
def WZ(aC:List Method)(aH:List Int):Option (Int):=
 WW aH aC 0
theorem aii{aC:List Method}{aA:Sv}{bu:Nat}{aH:List Int}{dB:Sv}{R:Int}(hF:WZ aC aH=some R):
   Fw.Spec Tryz.prog 228 [aA.v,(.func (.func 184) [].toArray [(.pointer (some ⟨bu,0,some 0⟩))].toArray)] [aI (ak 127 iB) aA.v aC,bC bu 22 dB.v,aI (ak 3 ax) dB.v aH] (fun _:Unit=>(.int .i64 R)) (fun _=>[]):=by
 refine' en Tryz.func228 (WZ.eq_1 ..)
 refine' eP q0 8 [0,1,7]<;>rw[WW]at hF<;>refine' go
instance:dz Tryz.prog 228 (type_of% @aii):=⟨@aii⟩
def OI(aC:List Method)(aH:List Int):Option (Bool):=
 (WZ aC aH).bind fun r1=>
 some (decide ((0:Int)<=r1))
theorem aif{aC:List Method}{aA:Sv}{bu:Nat}{aH:List Int}{dB:Sv}{R:Bool}(hF:OI aC aH=some R):
   Fw.Spec Tryz.prog 183 [aA.v,(.func (.func 184) [].toArray [(.pointer (some ⟨bu,0,some 0⟩))].toArray)] [aI (ak 127 iB) aA.v aC,bC bu 22 dB.v,aI (ak 3 ax) dB.v aH] (fun _:Unit=>(.bool R)) (fun _=>[]):=by
 refine' en Tryz.func183 (OI.eq_1 ..)
instance:dz Tryz.prog 183 (type_of% @aif):=⟨@aif⟩
def EP(aC:List Int)(aG:List Method):Option (Bool):=
 ((Bv aC).bind fun r4=>
   bif r4 then (bif (decide (((aG.length:Int):Int)<=5))then ((OI aG aC).bind fun r9=>
       some (!r9))
     else (some false))
   else (some false)).bind fun o2=>
 match o2 with
 |c12=>some c12
instance aIU:I2 119 t0 t26 u20 EP:=⟨by
 intro _ _ _ _ _ hF
 refine' en Tryz.func119 (EP.eq_1 ..)
 refine' rc (q1 4 tB) []⟩
def Ps(jd:Int)(aH:Int):Option (Bool):=
 (mG jd 0 (IntKind.i64.wrap (aH-1))).bind fun r1=>
 some (!r1)
instance aIr:I2 273 t1 t33 u20 Ps:=⟨by
 intro _ _ _ _ hF
 refine' en Tryz.func273 (Ps.eq_1 ..)⟩
def Xo(aH:Int):List Int->Nat->Option (Int)
 |[],k4=>some (-1)
 |x6::dH,k4=>(Ps x6 aH).bind fun fu=>
   if fu then (
     some (k4:Int))
   else (
     Xo aH dH (k4+1))
def Xt(aC:List Int)(aH:Int):Option (Int):=
 Xo aH aC 0
instance aIh:I2 239 t0 t35 u0 Xt:=⟨by
 intro _ _ _ _ _ hF
 refine' en Tryz.func239 (Xt.eq_1 ..)
 refine' eP q0 8 [0,1,7]<;>rw[Xo]at hF<;>refine' go⟩
def OV(aC:List Int)(aH:Int):Option (Bool):=
 (Xt aC aH).bind fun r1=>
 some (decide ((0:Int)<=r1))
instance aIf:I2 194 t0 t35 u20 OV:=⟨by
 intro _ _ _ _ _ hF
 refine' en Tryz.func194 (OV.eq_1 ..)⟩
def Yl(aG:List Int)(aex:Int):Option (Bool):=
 (OV aG aex).bind fun r2=>
 some (!r2)
instance aIx:I2 232 t0 t1 u20 Yl:=⟨by
 intro _ _ _ _ hF
 refine' en Tryz.func232 (Yl.eq_1 ..)⟩
def SG(aC:List Int)(mR:bO):Option (Bool):=
 ((BN aC mR.From).bind fun r4=>
   bif r4 then ((BN aC mR.To).bind fun r8=>
     bif r8 then ((ix aC mR.To).bind fun uR=>
       bif (((mR.Map.length:Int):Int)==uR)then ((ix aC mR.From).bind fun x19=>
         (Yl mR.Map x19).bind fun iA=>
         some iA)
       else (some false))
     else (some false))
   else (some false)).bind fun o2=>
 match o2 with
 |c28=>some c28
instance aKD:I2 188 t0 t4 u20 SG:=⟨by
 intro _ _ _ _ _ hF
 refine' en Tryz.func188 (SG.eq_1 ..)
 refine' dc (q1 4 tB) []⟩
def QA(mR:bO)(aH:List Int):Option (Bool):=
 (SG aH mR).bind fun r2=>
 some (!r2)
theorem ajr{mR:bO}{eG:Sv}{bu:Nat}{aH:List Int}{dB:Sv}{R:Bool}(hF:QA mR aH=some R):
   Fw.Spec Tryz.prog 187 [(.agg [(.int .i64 mR.From),(.int .i64 mR.To),eG.v].toArray),(.pointer (some ⟨bu,0,some 0⟩))] [aI (ak 3 ax) eG.v mR.Map,bC bu 22 dB.v,aI (ak 3 ax) dB.v aH] (fun _:Unit=>(.bool R)) (fun _=>[]):=by
 refine' en Tryz.func187 (QA.eq_1 ..)
instance:dz Tryz.prog 187 (type_of% @ajr):=⟨@ajr⟩
def Xc(aH:List Int):List bO->Nat->Option (Int)
 |[],k4=>some (-1)
 |x6::dH,k4=>(QA x6 aH).bind fun r16=>
   if r16 then (
     some (k4:Int))
   else (
     Xc aH dH (k4+1))
def Xh(aC:List bO)(aH:List Int):Option (Int):=
 Xc aH aC 0
theorem aiq{aC:List bO}{aA:Sv}{bu:Nat}{aH:List Int}{dB:Sv}{R:Int}(hF:Xh aC aH=some R):
   Fw.Spec Tryz.prog 231 [aA.v,(.func (.func 187) [].toArray [(.pointer (some ⟨bu,0,some 0⟩))].toArray)] [aI (ak 129 qy) aA.v aC,bC bu 22 dB.v,aI (ak 3 ax) dB.v aH] (fun _:Unit=>(.int .i64 R)) (fun _=>[]):=by
 refine' en Tryz.func231 (Xh.eq_1 ..)
 refine' eP q0 8 [0,1,7]<;>rw[Xc]at hF<;>refine' go
instance:dz Tryz.prog 231 (type_of% @aiq):=⟨@aiq⟩
def OP(aC:List bO)(aH:List Int):Option (Bool):=
 (Xh aC aH).bind fun r1=>
 some (decide ((0:Int)<=r1))
theorem aim{aC:List bO}{aA:Sv}{bu:Nat}{aH:List Int}{dB:Sv}{R:Bool}(hF:OP aC aH=some R):
   Fw.Spec Tryz.prog 186 [aA.v,(.func (.func 187) [].toArray [(.pointer (some ⟨bu,0,some 0⟩))].toArray)] [aI (ak 129 qy) aA.v aC,bC bu 22 dB.v,aI (ak 3 ax) dB.v aH] (fun _:Unit=>(.bool R)) (fun _=>[]):=by
 refine' en Tryz.func186 (OP.eq_1 ..)
instance:dz Tryz.prog 186 (type_of% @aim):=⟨@aim⟩
def RA(aC:List Int)(aG:List bO):Option (Bool):=
 ((Bv aC).bind fun r4=>
   bif r4 then (bif (decide (((aG.length:Int):Int)<=4))then ((OP aG aC).bind fun r9=>
       some (!r9))
     else (some false))
   else (some false)).bind fun o2=>
 match o2 with
 |c12=>some c12
instance aJJ:I2 120 t0 t27 u20 RA:=⟨by
 intro _ _ _ _ _ hF
 refine' en Tryz.func120 (RA.eq_1 ..)
 refine' rc (q1 4 tB) []⟩
def IG(pJ:Int):Option (Bool):=
 (mG pJ 0 9).bind fun r1=>
 some r1
instance auL:I1 237 t1 u20 IG:=⟨by
 intro _ _ hF
 refine' en Tryz.func237 (IG.eq_1 ..)⟩
def YB(pJ:Int):Option (Bool):=
 (IG pJ).bind fun r1=>
 some (!r1)
instance aIL:I1 236 t1 u20 YB:=⟨by
 intro _ _ hF
 refine' en Tryz.func236 (YB.eq_1 ..)⟩
def Xu:List Int->Nat->Option (Int)
 |[],k4=>some (-1)
 |x6::dH,k4=>(YB x6).bind fun fu=>
   if fu then (
     some (k4:Int))
   else (
     Xu dH (k4+1))
def XG(aC:List Int):Option (Int):=
 Xu aC 0
theorem aiD{aC:List Int}{aA:Sv}{R:Int}(hF:XG aC=some R):
   Fw.Spec Tryz.prog 239 [aA.v,(.func (.func 236) [].toArray [].toArray)] [aI (ak 3 ax) aA.v aC] (fun _:Unit=>(.int .i64 R)) (fun _=>[]):=by
 refine' en Tryz.func239 (XG.eq_1 ..)
 refine' eP q0 8 [0,1,7]<;>rw[Xu]at hF<;>refine' go
instance:dz Tryz.prog 239 (type_of% @aiD):=⟨@aiD⟩
def OX(aC:List Int):Option (Bool):=
 (XG aC).bind fun r1=>
 some (decide ((0:Int)<=r1))
theorem aiw{aC:List Int}{aA:Sv}{R:Bool}(hF:OX aC=some R):
   Fw.Spec Tryz.prog 194 [aA.v,(.func (.func 236) [].toArray [].toArray)] [aI (ak 3 ax) aA.v aC] (fun _:Unit=>(.bool R)) (fun _=>[]):=by
 refine' en Tryz.func194 (OX.eq_1 ..)
instance:dz Tryz.prog 194 (type_of% @aiw):=⟨@aiw⟩
def Mf(aG:List Int):Option (Bool):=
 (OX aG).bind fun r1=>
 some (!r1)
instance aJe:I1 192 t0 u20 Mf:=⟨by
 intro _ _ _ hF
 refine' en Tryz.func192 (Mf.eq_1 ..)⟩
def SH(aC:List Int)(dC:aj):Option (Bool):=
 ((BN aC dC.aD).bind fun r4=>
   bif r4 then ((ix aC dC.aD).bind fun x8=>
     bif (((dC.Values.length:Int):Int)==x8)then ((Mf dC.Values).bind fun fu=>
       some fu)
     else (some false))
   else (some false)).bind fun o2=>
 match o2 with
 |c18=>some c18
instance aKE:I2 205 t0 t6 u20 SH:=⟨by
 intro _ _ _ _ _ hF
 refine' en Tryz.func205 (SH.eq_1 ..)
 refine' dc (q1 4 tB) []⟩
def ED(aT:Int):Option (Bool):=
 some ((aT:Int)!=aT)
instance aIt:I1 274 t1 u20 ED:=⟨by
 intro _ _ hF
 refine' en Tryz.func274 (ED.eq_1 ..)⟩
def G6(aT:Int)(KG:Int):Option (Int):=
 (ED aT).bind fun r1=>
 (ED KG).bind fun r4=>
 if r1 then (
   if r4 then (
     some 0)
   else (
     some (-1)))
 else (
   if r4 then (
     some 1)
   else (
     if (decide ((aT:Int)<KG))then (
       some (-1))
     else (
       if (decide ((KG:Int)<aT))then (
         some 1)
       else (
         some 0))))
instance aIp:I2 234 t1 t1 u0 G6:=⟨by
 intro _ _ _ hF
 refine' en Tryz.func234 (G6.eq_1 ..)⟩
end Go.Proofs.YtlnefhbbbikmgabGreat
