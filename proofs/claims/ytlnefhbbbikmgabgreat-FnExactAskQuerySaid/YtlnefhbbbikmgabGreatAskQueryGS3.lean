/-
  Functions of the program as Lean functions, and that the calls return what these say. No conditions.
-/
import Derived.Test.YtlnefhbbbikmgabGreatAskQueryGS2
set_option maxRecDepth 100000
set_option maxHeartbeats 4000000
set_option linter.unusedVariables false
namespace Go.Proofs.YtlnefhbbbikmgabGreat
open Go Go.Fw
def PS(aF:Method)(vX:List Int):List aj->Nat->(List aj)->Option ((List aj))
 |[],k9,c3=>some c3
 |jc::r_,k9,c3=>((Nf aF vX jc).bind fun jy=>
     if jy then (
       (xk jc.aD jc.Values).bind fun OA=>
       (app c3 ([OA]:List aj)).bind fun z35=>
       some z35)
     else (
       some c3)).bind fun wS=>
   match wS with
   |c39=>PS aF vX r_ (k9+1) c39
def Md(aF:Method)(vX:List Int)(dM:List aj):Option ((List aj)):=
 PS aF vX dM 0 ([]:List aj)
instance ata:I3 98 t2 t0 t20 u7 Md:=⟨by
 intro _ _ _ _ _ _ _ hF
 refine' en Tryz.func98 (Md.eq_1 ..)
 refine' Gb dV []
 refine' ed (q1 7 (tO 164 dV)) 8 [1,2,3]<;>rw[PS]at hF<;>refine' go
 refine' cu (q1 7 (tO 164 dV)) [1,2,3,8]⟩
def Nq(ae:ag)(aM:ag):Option (Bool):=
 (bif ((ae.Method:Int)==aM.Method)then ((Nn ae.Values aM.Values).bind fun r6=>
     some r6)
   else (some false)).bind fun o3=>
 match o3 with
 |c9=>some c9
instance avm:I2 172 t9 t9 u20 Nq:=⟨by
 intro _ _ _ _ _ hF
 refine' en Tryz.func172 (Nq.eq_1 ..)
 refine' rc (q1 4 tB) []⟩
def Pz(ae:ag):List aS->Nat->Option (Int)
 |[],k6=>some (-1)
 |x8::C9,k6=>(Nq x8.ag ae).bind fun A_=>
   if A_ then (
     some (k6:Int))
   else (
     Pz ae C9 (k6+1))
def YU(bG:Cache)(ae:ag):Option (Int):=
 Pz ae bG.Entries 0
instance asI:I2 99 t23 t9 u0 YU:=⟨by
 intro _ _ _ _ _ hF
 refine' en Tryz.func99 (YU.eq_1 ..)
 refine' eP q0 5 [2,3]<;>rw[Pz]at hF<;>refine' go⟩
def EG(bG:Cache)(ae:ag)(dA:Int)(r5:ag):List aS->Nat->(List aS)->(List aj)->Bool->Option (Cache)
 |[],zb,c203,c206,c208=>if (!c208)then (
     (app c203 ([(⟨r5,c206,dA⟩:aS)]:List aS)).bind fun z222=>
     some (⟨z222,bG.Age⟩:Cache))
   else (
     some (⟨c203,bG.Age⟩:Cache))
 |ahy::Cc,zb,c203,c206,c208=>((Mt ahy).bind fun qG=>
     (Nq qG.ag ae).bind fun aqK=>
     if aqK then (
       some (c203,c208))
     else (
       (bif (!c208)then ((MR ae qG.ag).bind fun aqL=>
           some aqL)
         else (some false)).bind fun ahz=>
       match ahz with
       |Vl=>if Vl then (
           (app c203 ([(⟨r5,c206,dA⟩:aS)]:List aS)).bind fun aqM=>
           (app aqM ([qG]:List aS)).bind fun aqN=>
           some (aqN,true))
         else (
           (app c203 ([qG]:List aS)).bind fun aqO=>
           some (aqO,c208)))).bind fun ahA=>
   match ahA with
   |(y8,xM)=>EG bG ae dA r5 Cc (zb+1) y8 c206 xM
def Iu(bG:Cache)(ae:ag)(dM:List aj)(dA:Int):Option (Cache):=
 (ET ae.Method ae.Values).bind fun r5=>
 (Na dM).bind fun r8=>
 EG bG ae dA r5 bG.Entries 0 ([]:List aS) r8 false
theorem atb{bG:Cache}{aA:Sv}{ae:ag}{bR:Sv}{dM:List aj}{bJ:Sv}{dA:Int}{R:Cache}(hF:Iu bG ae dM dA=some R):
   Fw.Spec Tryz.prog 100 [(zg [aA.v,(zi bG.Age)]),(zg [(zi ae.Method),bR.v]),bJ.v,(zi dA)] [ku aA bG.Entries,bi bR ae.Values,iK bJ dM] (fun p:Sv=>(zg [p.v,(zi R.Age)])) (fun p=>[ku p R.Entries]):=by
 refine Se 72 Tryz.func100 [.cell 8 47] ?_
 intro H0 F0
 unfold Iu at hF
 refine au ?_
 refine j6 (fun k1=>?_)
 refine j6 (fun k2=>?_)
 refine gI (fun k3=>?_)
 refine dO ?_
 refine aP (iy p_.h rfl (vs:=[(zi bG.Age)]) fG (cells:=[(.slice none 0 0),(zi bG.Age)]) rfl) ?_
 refine gI (fun k4=>?_)
 refine As (zg [(.slice none 0 0),(zi bG.Age)]) ?_
 refine lN ?_
 refine bnd hF fun r5 hx6 hF=>iZ (.rd .q5 rfl .nil) (CG (post':=fun p7:Sv×List Nat=>[bi p7.1 r5.Values]) (fun p7=>(.cO .h aX bT)) (cK aqe.h fG (aj1.h hx6))) (fun p7=>?_)
 refine au ?_
 refine bnd hF fun r8 Eo hF=>qM (avi.h Eo) (fun sV=>?_)
 refine au ?_
 refine aP (iy jl.h rfl (vs:=[(zg [(zi r5.Method),p7.1.v]),sV.1.v,(zi dA)]) fG (cells:=[(zi r5.Method),p7.1.v,sV.1.v,(zi dA)]) rfl) ?_
 refine gI (fun k11=>?_)
 refine As (zg [(zi r5.Method),p7.1.v,sV.1.v,(zi dA)]) ?_
 refine kP ?_
 refine gU (kI (m:=bG.Entries.length) (fun aqP f' cs'=>∃(g:Fr)(zb:Nat)(Cc c203:List aS)(c206:List aj)(c208:Bool)(Gq:Sv)(abN:List Nat)(AJ:Sv),aqP=Cc.length/\f'=dm g [(4,(pz k1)),(5,(pz k2)),(8,(pz k3)),(9,(pz k4)),(10,(pz k11)),(11,(.bool c208)),(12,(zi (zb:Int)))]/\List.drop zb bG.Entries=Cc/\bL cs' [bC k1 47 (zg [aA.v,(zi bG.Age)]),ku aA bG.Entries,bC k2 85 (zg [(zi ae.Method),bR.v]),bi bR ae.Values,aW k3 47 (.agg ([(.slice none 0 0),(zi 0)]:List Value).toArray),aW k4 47 (zg [Gq.v,(zi bG.Age)]),afI abN Gq c203,aW k11 201 (zg [(zi r5.Method),p7.1.v,AJ.v,(zi dA)]),bi p7.1 r5.Values,iK AJ c206]/\EG bG ae dA r5 Cc zb c203 c206 c208=some R) ⟨_,0,_,_,_,_,⟨none,0,0⟩,[],sV.1,rfl,df,rfl,(.conv .nil (jJ (Ro:=(az jm)) (E:=201)) (.cons .nil) (.cO .q2 aX bT)),hF⟩ ?_)
 rintro aqP _ _ ⟨aPT,zb,Cc,c203,c206,c208,Gq,abN,AJ,rfl,rfl,aoQ,hE,hF⟩
 refine Kb hE bG.Entries (fun aMq=>?_)
 rcases Cc with _|⟨ahy,Cc⟩
 · have aDC:=dn aoQ
   rw[EG]at hF
   refine kP ?_
   refine mQ ?_
   refine JR ?_
   refine Ci hF (fun aDD hF=>?_) (fun aDD hF=>?_)
   · refine dO ?_
     refine lJ rfl (gq (g:=true) jE.h jl.h fG (vs:=[(zg [(zi r5.Method),p7.1.v,AJ.v,(zi dA)])]) rfl rfl rfl (by intro v hv; simp at hv; rcases hv with rfl<;>rfl)) (fun aPU=>?_)
     refine mo (.cons .h (.rd .q8 rfl (.rd .q9 rfl .nil))) (gu (Ro:=(az jm)) (E:=201) (F:=([]++[])) (xs:=([(⟨r5,c206,dA⟩:aS)]:List aS)) (iV (aau (a:=(⟨r5,c206,dA⟩:aS))) fU dS) rfl rfl) ?_
     refine bnd hF fun z222 aDE hF=>iZ (.cons .q7 (.cons .h .nil)) (iU (Ro:=(az jm)) jE.h NZ jl.h rfl rfl rfl (.tmp rfl rfl) (.tmp rfl rfl) aDE kJ) (fun ahB=>?_)
     refine au ?_
     refine As (zg [ahB.1.v,(zi bG.Age)]) ?_
     refine fw ?_
     refine As (zg [ahB.1.v,(zi bG.Age)]) ?_
     refine eu ?_
     cases hF
     exact iW ahB.1 (.lZ rfl rfl .h rfl wD.h p_.h.sz rfl rfl .nil) rfl (.cO .q2 aX (.sel (.rd .h rfl .nil)))
   refine fw ?_
   refine As (zg [Gq.v,(zi bG.Age)]) ?_
   refine eu ?_
   cases hF
   exact iW Gq (.lZ rfl rfl .h rfl wD.h p_.h.sz rfl rfl .nil) rfl (.cO .q6 aX (.sel (.rd .h rfl .nil)))
 obtain⟨aDC,aDF,aDG⟩:=kH aoQ
 rw[EG]at hF
 refine kP ?_
 refine mP ?_
 refine au ?_
 obtain⟨ahA,az9,aDH⟩:=bind_some hF
 refine pU (fun f' cs'=>∃(y8:List aS)(xM:Bool)(abO:Sv)(ahC:List Nat)(g:Fr),ahA=(y8,xM)/\f'=dm g [(4,(pz k1)),(5,(pz k2)),(8,(pz k3)),(9,(pz k4)),(10,(pz k11)),(11,(.bool xM)),(12,(zi (zb:Int)))]/\bL cs' [bC k1 47 (zg [aA.v,(zi bG.Age)]),ku aA bG.Entries,bC k2 85 (zg [(zi ae.Method),bR.v]),bi bR ae.Values,aW k3 47 (.agg ([(.slice none 0 0),(zi 0)]:List Value).toArray),aW k4 47 (zg [abO.v,(zi bG.Age)]),afI ahC abO y8,aW k11 201 (zg [(zi r5.Method),p7.1.v,AJ.v,(zi dA)]),bi p7.1 r5.Values,iK AJ c206]) ?_ ?_
 · replace hF:=az9
   refine gU (eB (aP (adl (off:=0) azF.h (.tmp rfl rfl)) ?_))
   refine eu ?_
   refine Ai aDF (fun aPV aPW=>?_)
   refine abk (akC ahy) akD (fun aPX=>?_)
   refine bnd hF fun qG afZ hF=>V3 (atF.h afZ) (fun rz=>?_)
   refine gI (fun aqQ=>?_)
   refine As (zg [(zi qG.ag.Method),rz.1.v,rz.2.2.1.v,(zi qG.At)]) ?_
   refine dO ?_
   refine gM .h (fun hp=>pO (s:=2) (l:=[(zi qG.ag.Method),rz.1.v]) abq.h nD.h.sz (.tmp rfl rfl) hp.2 rfl (by decide) (aQS rfl) rfl) ?_
   refine au ?_
   refine bnd hF fun aqK aDI hF=>iZ (.cons (.t .h) (.rd .q8 rfl .nil)) (mH aX (fun _=>.nil) (cK aCL.h fG (avm.h aDI))) (fun _=>?_)
   refine au ?_
   refine Ci hF (fun aDJ hF=>?_) (fun aDJ hF=>?_)
   · refine fw ?_
     cases hF
     exact⟨_,_,Gq,abN,_,rfl,df,bT⟩
   refine eu ?_
   obtain⟨ahz,az_,aDK⟩:=bind_some hF
   refine au ?_
   refine qo (fun f' cs'=>∃(Vl:Bool)(g:Fr),Vl=ahz/\f'=dm g [(4,(pz k1)),(5,(pz k2)),(8,(pz k3)),(9,(pz k4)),(10,(pz k11)),(11,(.bool c208)),(12,(zi (zb:Int))),(13,(pz aqQ)),(50,(.bool Vl))]/\bL cs' [bC k1 47 (zg [aA.v,(zi bG.Age)]),ku aA bG.Entries,bC k2 85 (zg [(zi ae.Method),bR.v]),bi bR ae.Values,aW k3 47 (.agg ([(.slice none 0 0),(zi 0)]:List Value).toArray),aW k4 47 (zg [Gq.v,(zi bG.Age)]),afI abN Gq c203,aW k11 201 (zg [(zi r5.Method),p7.1.v,AJ.v,(zi dA)]),bi p7.1 r5.Values,iK AJ c206,aW aqQ 201 (zg [(zi qG.ag.Method),rz.1.v,rz.2.2.1.v,(zi qG.At)]),dW rz.2.1 rz.1 qG.ag.Values,ik rz.2.2.2 rz.2.2.1 qG.Facts]) ?_ ?_
   · replace hF:=az_
     refine fw ?_
     rcases kQ (!c208)with TW|TW
     · rw[TW]
       try rw[TW]at hF; dsimp only[eZ,eY]at hF
       refine fI ?_
       refine gM (.t .h) (fun hp=>pO (s:=2) (l:=[(zi qG.ag.Method),rz.1.v]) abq.h nD.h.sz (.tmp rfl rfl) hp.2 rfl (by decide) (aQS rfl) rfl) ?_
       refine au ?_
       refine bnd hF fun aqL aDL hF=>iZ (.cons .h (.rd .q8 rfl .nil)) (mH aX (fun _=>.nil) (qR (.rd (.t .h) rfl (.rd .h rfl .nil)) (cK aCJ.h fG (auD.h aDL)))) (fun _=>?_)
       exact jP hF
     rw[TW]
     try rw[TW]at hF; dsimp only[eZ,eY]at hF
     exact jP hF
   rintro _ _ ⟨Vl,aPY,rfl,rfl,hE⟩
   replace hF:=aDK
   try dsimp only at hF
   refine gV hE ?_
   refine Ci hF (fun aDM hF=>?_) (fun aDM hF=>?_)
   · refine dO ?_
     refine lJ rfl (gq (g:=true) jE.h jl.h fG (vs:=[(zg [(zi r5.Method),p7.1.v,AJ.v,(zi dA)])]) rfl rfl rfl (by intro v hv; simp at hv; rcases hv with rfl<;>rfl)) (fun aPZ=>?_)
     refine mo (.cons .h (.rd .q8 rfl (.rd .q9 rfl .nil))) (gu (Ro:=(az jm)) (E:=201) (F:=([]++[])) (xs:=([(⟨r5,c206,dA⟩:aS)]:List aS)) (iV (aau (a:=(⟨r5,c206,dA⟩:aS))) fU dS) rfl rfl) ?_
     refine bnd hF fun aqM aDN hF=>iZ (.cons .q7 (.cons .h .nil)) (iU (Ro:=(az jm)) jE.h NZ jl.h rfl rfl rfl (.tmp rfl rfl) (.tmp rfl rfl) aDN kJ) (fun aHl=>?_)
     refine au ?_
     refine As (zg [aHl.1.v,(zi bG.Age)]) ?_
     refine kP ?_
     refine lJ rfl (gq (g:=true) jE.h jl.h fG (vs:=[(zg [(zi qG.ag.Method),rz.1.v,rz.2.2.1.v,(zi qG.At)])]) rfl rfl rfl (by intro v hv; simp at hv; rcases hv with rfl<;>rfl)) (fun aP0=>?_)
     refine mo (.cons .h (.cons .q11 (.cons .q11 .nil))) (gu (Ro:=g_) (E:=201) (F:=((rz.2.1++rz.2.2.2)++[])) (xs:=([qG]:List aS)) (iV Jo fU dS) rfl rfl) ?_
     refine afg .h aX ?_
     refine bnd hF fun aqN aDO hF=>iZ (.cons .q2 (.rd .h rfl .nil)) (iU (Ro:=(az jm)) jE.h NZ jl.h rfl rfl rfl (.tmp rfl rfl) (.tmp rfl rfl) aDO zX) (fun ahD=>?_)
     refine au ?_
     refine As (zg [ahD.1.v,(zi bG.Age)]) ?_
     refine au ?_
     cases hF
     exact⟨_,_,ahD.1,ahD.2,_,rfl,df,bT⟩
   refine fI ?_
   refine lJ rfl (gq (g:=true) jE.h jl.h fG (vs:=[(zg [(zi qG.ag.Method),rz.1.v,rz.2.2.1.v,(zi qG.At)])]) rfl rfl rfl (by intro v hv; simp at hv; rcases hv with rfl<;>rfl)) (fun aP1=>?_)
   refine mo (.cons .h (.cons .q11 (.cons .q11 .nil))) (gu (Ro:=g_) (E:=201) (F:=((rz.2.1++rz.2.2.2)++[])) (xs:=([qG]:List aS)) (iV Jo fU dS) rfl rfl) ?_
   refine afg .h aX ?_
   refine bnd hF fun aqO hx255 hF=>iZ (.cons .q7 (.rd .h rfl .nil)) (iU (Ro:=(az jm)) jE.h NZ jl.h rfl rfl rfl (.tmp rfl rfl) (.tmp rfl rfl) hx255 zX) (fun ahE=>?_)
   refine au ?_
   refine As (zg [ahE.1.v,(zi bG.Age)]) ?_
   refine au ?_
   cases hF
   exact⟨_,_,ahE.1,ahE.2,_,rfl,df,bT⟩
 rintro _ _ ⟨y8,xM,abO,ahC,aP2,rfl,rfl,hE⟩
 replace hF:=aDH
 try dsimp only at hF
 refine gV hE ?_
 refine fI ?_
 rw[wk zb]
 exact⟨_,lT _,_,zb+1,Cc,_,_,_,abO,ahC,AJ,rfl,df,aDG,bT,hF⟩
instance atP:I4 100 t23 t9 t20 t1 u30 Iu:=⟨fun h=>atb h⟩
end Go.Proofs.YtlnefhbbbikmgabGreat
