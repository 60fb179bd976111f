/-
  Functions of the program as Lean functions, and that the calls return what these say: part 3. No conditions.
-/
import Derived.Test.YtfcjmpkenaiomaaGreatFnAuditsG1
import Derived.KernelRfl
set_option maxRecDepth 100000
set_option maxHeartbeats 1000000
set_option linter.unusedVariables false
namespace Go.Proofs.YtfcjmpkenaiomaaGreat
open Go Go.Fw

def wm(iN:List Int):List (List Int)->Nat->(List (List Int))->Bool->Option ((List (List Int)))
 |[],k22,c15,c18=>if (!c18)then (
     (app ([]:List Int) iN).bind fun z32=>
     (app c15 ([z32]:List (List Int))).bind fun z36=>
     some z36)
   else (
     some c15)
 |x24::ll,k22,c15,c18=>((bif (!c18)then ((LA iN x24).bind fun nV=>
         some nV)
       else (some false)).bind fun o42=>
     match o42 with
     |c51=>if c51 then (
         (app ([]:List Int) iN).bind fun z53=>
         (app c15 ([z53]:List (List Int))).bind fun z57=>
         (app ([]:List Int) x24).bind fun z64=>
         (app z57 ([z64]:List (List Int))).bind fun z68=>
         some (z68,true))
       else (
         (app ([]:List Int) x24).bind fun z75=>
         (app c15 ([z75]:List (List Int))).bind fun z79=>
         some (z79,c18))).bind fun o40=>
   match o40 with
   |(TN,c87)=>wm iN ll (k22+1) TN c87
def DK(ai:List (List Int))(iN:List Int):List (List Int)->Nat->Bool->Option ((List (List Int)))
 |[],k6,c2=>wm iN ai 0 ([]:List (List Int)) c2
 |x8::jO,k6,c2=>(bif c2 then (some true)
     else ((LJ x8 iN).bind fun TL=>
       some TL)).bind fun JR=>
   match JR with
   |lG=>DK ai iN jO (k6+1) lG
def Ia(ai:List (List Int))(iN:List Int):Option ((List (List Int))):=
 DK ai iN ai 0 false
theorem amU{ai:List (List Int)}{ae:Sv}{iN:List Int}{ax:Sv}{R:(List (List Int))}(hF:Ia ai iN=some R):
   Fw.Spec Tryz.prog 192 [ae.v,ax.v] [bC (aD 24 (aD 3 az)) ae.v ai,ah ax iN] (fun p:Sv×List Nat=>p.1.v) (fun p=>[aU (aF 24 (aF 3 (aC az))) p.2 p.1.v R]):=by
 refine Se 65 Tryz.func192 [.tmp 4] ?_
 intro H0 F0
 unfold Ia at hF
 refine bg ?_
 refine dF rfl (bO (g:=true) uO.h pE.h .nil (vs:=[]) rfl rfl rfl (by simp)) (fun k1=>?_)
 refine dP (.cons .h .nil) (bQ (Ro:=(aF 3 (aC az))) (E:=24) (F:=[]) (xs:=([]:List (List Int))) bP rfl rfl) ?_
 refine gB ?_
 refine bi (bT (m:=ai.length) (fun m4 f' cs'=>∃(g:Fr)(k6:Nat)(jO:List (List Int))(c2:Bool),m4=jO.length/\f'=aQ g [(0,ae.v),(1,ax.v),(5,(.slice (some ⟨k1,0,none⟩) 0 1)),(6,(.bool c2)),(7,(zi (k6:Int)))]/\List.drop k6 ai=jO/\aN cs' [bC (aD 24 (aD 3 az)) ae.v ai,ah ax iN,aU (aF 24 (aF 3 (aC az))) (k1::[]) (.slice (some ⟨k1,0,none⟩) 0 1) ([]:List (List Int))]/\DK ai iN jO k6 c2=some R) ⟨_,0,_,_,rfl,aA,rfl,ay,hF⟩ ?_)
 rintro m4 _ _ ⟨g5,k6,jO,c2,rfl,rfl,yT,hE,hF⟩
 refine Kb hE ai (fun aaK=>?_)
 rcases jO with _|⟨x8,jO⟩
 · have hk10:=dn yT
   rw[DK]at hF
   refine bH ?_
   refine dJ ?_
   refine dL ?_
   refine bi (bT (m:=ai.length) (fun m20 f' cs'=>∃(g:Fr)(k22:Nat)(ll c15:List (List Int))(c18:Bool)(v16:Sv)(Yw:List Nat),m20=ll.length/\f'=aQ g [(0,ae.v),(1,ax.v),(5,v16.v),(6,(.bool c18)),(8,(zi (k22:Int)))]/\List.drop k22 ai=ll/\aN cs' [bC (aD 24 (aD 3 az)) ae.v ai,ah ax iN,aU (aF 24 (aF 3 (aC az))) Yw v16.v c15]/\wm iN ll k22 c15 c18=some R) ⟨_,0,_,_,_,⟨(some ⟨k1,0,none⟩),0,1⟩,(k1::[]),rfl,aA,rfl,ay,hF⟩ ?_)
   rintro m20 _ _ ⟨g21,k22,ll,c15,c18,v16,Yw,rfl,rfl,hd25,hE,hF⟩
   refine Kb hE ai (fun ain=>?_)
   rcases ll with _|⟨x24,ll⟩
   · have Rh:=dn hd25
     rw[wm]at hF
     refine bH ?_
     refine dJ ?_
     refine gB ?_
     refine Ci hF (fun Cx hF=>?_) (fun Cx hF=>?_)
     · refine aT ?_
       refine dF rfl (bO (g:=true) dh.h dx.h .nil (vs:=[]) rfl rfl rfl (by simp)) (fun FJ=>?_)
       refine dP (.cons .h .nil) (bQ (Ro:=(aC az)) (E:=3) (F:=[]) (xs:=([]:List Int)) bP rfl rfl) ?_
       refine au ?_
       refine bnd hF fun z32 vv hF=>ed (.cons .h (.rd (.t .h) rfl .nil)) (dV (Ro:=(aC az)) dh.h iQ dx.h rfl rfl rfl (.tmp rfl rfl) (.tmp rfl rfl) vv mg) (fun p34=>?_)
       refine dF rfl (bO (g:=true) uO.h pE.h b_ (vs:=[p34.1.v]) rfl rfl rfl (by intro v hv; simp at hv; rcases hv with rfl<;>rfl)) (fun nk=>?_)
       refine dP (.cons .h (.cons .h .nil)) (bQ (Ro:=(aF 3 (aC az))) (E:=24) (F:=(p34.2++[])) (xs:=([z32]:List (List Int))) (d_ IB bP cK) rfl rfl) ?_
       refine bnd hF fun z36 Sj hF=>ed (.cons .q3 (.cons .h .nil)) (dV (Ro:=(aF 3 (aC az))) uO.h Qd pE.h rfl rfl rfl (.tmp rfl rfl) (.tmp rfl rfl) Sj fw) (fun p38=>?_)
       refine bH ?_
       cases hF
       exact Er (p38.1,p38.2)
     refine bB ?_
     cases hF
     exact Er (v16,Yw)
   obtain⟨Rh,hx27,hd28⟩:=dz hd25
   rw[wm]at hF
   refine bH ?_
   refine dI ?_
   refine au ?_
   obtain⟨o40,auG,ax4⟩:=bind_some hF
   refine iC (fun f' cs'=>∃(TN:List (List Int))(c87:Bool)(v85:Sv)(F86:List Nat)(g:Fr),o40=(TN,c87)/\f'=aQ g [(0,ae.v),(1,ax.v),(5,v85.v),(6,(.bool c87)),(8,(zi (k22:Int)))]/\aN cs' [bC (aD 24 (aD 3 az)) ae.v ai,ah ax iN,aU (aF 24 (aF 3 (aC az))) F86 v85.v TN]) ?_ ?_
   · replace hF:=auG
     refine bi (lX ?_)
     obtain⟨o42,auH,ax5⟩:=bind_some hF
     refine au ?_
     refine eX (fun f' cs'=>∃(c51:Bool)(g:Fr),c51=o42/\f'=aQ g [(0,ae.v),(1,ax.v),(5,v16.v),(6,(.bool c18)),(8,(zi (k22:Int))),(40,(.bool c51))]/\aN cs' [bC (aD 24 (aD 3 az)) ae.v ai,ah ax iN,aU (aF 24 (aF 3 (aC az))) Yw v16.v c15]) ?_ ?_
     · replace hF:=auH
       refine bu ?_
       rcases bE (!c18)with yf|yf
       · rw[yf]
         try rw[yf]at hF; dsimp only[aJ,aI]at hF
         refine bH ?_
         refine Ai hx27 (fun k45 j46=>?_)
         refine au ?_
         refine uL (R':=(aD 3 az)) iA.h (.tmp rfl rfl) .h PS (fun w47=>?_)
         refine au ?_
         refine bnd hF fun nV qR hF=>bD (afS qR) (fun _=>?_)
         exact bJ hF
       rw[yf]
       try rw[yf]at hF; dsimp only[aJ,aI]at hF
       exact bJ hF
     rintro _ _ ⟨c51,g83,rfl,rfl,hE⟩
     replace hF:=ax5
     try dsimp only at hF
     refine bq hE ?_
     refine Ci hF (fun Q8 hF=>?_) (fun Q8 hF=>?_)
     · refine aT ?_
       refine dF rfl (bO (g:=true) dh.h dx.h .nil (vs:=[]) rfl rfl rfl (by simp)) (fun k52=>?_)
       refine dP (.cons .h .nil) (bQ (Ro:=(aC az)) (E:=3) (F:=[]) (xs:=([]:List Int)) bP rfl rfl) ?_
       refine au ?_
       refine bnd hF fun z53 tu hF=>ed (.cons .h (.rd (.t .h) rfl .nil)) (dV (Ro:=(aC az)) dh.h iQ dx.h rfl rfl rfl (.tmp rfl rfl) (.tmp rfl rfl) tu mg) (fun p55=>?_)
       refine dF rfl (bO (g:=true) uO.h pE.h b_ (vs:=[p55.1.v]) rfl rfl rfl (by intro v hv; simp at hv; rcases hv with rfl<;>rfl)) (fun k56=>?_)
       refine dP (.cons .h (.cons .h .nil)) (bQ (Ro:=(aF 3 (aC az))) (E:=24) (F:=(p55.2++[])) (xs:=([z53]:List (List Int))) (d_ IB bP cK) rfl rfl) ?_
       refine bnd hF fun z57 acg hF=>ed (.cons .q3 (.cons .h .nil)) (dV (Ro:=(aF 3 (aC az))) uO.h Qd pE.h rfl rfl rfl (.tmp rfl rfl) (.tmp rfl rfl) acg fw) (fun p59=>?_)
       refine bH ?_
       refine dF rfl (bO (g:=true) dh.h dx.h .nil (vs:=[]) rfl rfl rfl (by simp)) (fun yU=>?_)
       refine dP (.cons .h .nil) (bQ (Ro:=(aC az)) (E:=3) (F:=[]) (xs:=([]:List Int)) bP rfl rfl) ?_
       refine aT ?_
       refine Ai hx27 (fun k61 j62=>?_)
       refine uL (R':=(aD 3 az)) iA.h (.tmp rfl rfl) .h PS (fun w63=>?_)
       refine bnd hF fun z64 Rq hF=>ed (.cons .q2 (.rd .h rfl .nil)) (dV (Ro:=(aC az)) dh.h iQ dx.h rfl rfl rfl (.tmp rfl rfl) (.tmp rfl rfl) Rq mg) (fun p66=>?_)
       refine dF rfl (bO (g:=true) uO.h pE.h b_ (vs:=[p66.1.v]) rfl rfl rfl (by intro v hv; simp at hv; rcases hv with rfl<;>rfl)) (fun k67=>?_)
       refine dP (.cons .h (.cons .h .nil)) (bQ (Ro:=(aF 3 (aC az))) (E:=24) (F:=(p66.2++[])) (xs:=([z64]:List (List Int))) (d_ IB bP cK) rfl rfl) ?_
       refine bnd hF fun z68 abY hF=>ed (.cons .q3 (.cons .h .nil)) (dV (Ro:=(aF 3 (aC az))) uO.h Qd pE.h rfl rfl rfl (.tmp rfl rfl) (.tmp rfl rfl) abY fw) (fun p70=>?_)
       refine aT ?_
       cases hF
       exact⟨_,_,p70.1,p70.2,_,rfl,aA,ay⟩
     refine bu ?_
     refine dF rfl (bO (g:=true) dh.h dx.h .nil (vs:=[]) rfl rfl rfl (by simp)) (fun vP=>?_)
     refine dP (.cons .h .nil) (bQ (Ro:=(aC az)) (E:=3) (F:=[]) (xs:=([]:List Int)) bP rfl rfl) ?_
     refine aT ?_
     refine Ai hx27 (fun k72 j73=>?_)
     refine uL (R':=(aD 3 az)) iA.h (.tmp rfl rfl) .h PS (fun w74=>?_)
     refine bnd hF fun z75 RD hF=>ed (.cons .q2 (.rd .h rfl .nil)) (dV (Ro:=(aC az)) dh.h iQ dx.h rfl rfl rfl (.tmp rfl rfl) (.tmp rfl rfl) RD mg) (fun p77=>?_)
     refine dF rfl (bO (g:=true) uO.h pE.h b_ (vs:=[p77.1.v]) rfl rfl rfl (by intro v hv; simp at hv; rcases hv with rfl<;>rfl)) (fun k78=>?_)
     refine dP (.cons .h (.cons .h .nil)) (bQ (Ro:=(aF 3 (aC az))) (E:=24) (F:=(p77.2++[])) (xs:=([z75]:List (List Int))) (d_ IB bP cK) rfl rfl) ?_
     refine bnd hF fun z79 Rt hF=>ed (.cons .q5 (.cons .h .nil)) (dV (Ro:=(aF 3 (aC az))) uO.h Qd pE.h rfl rfl rfl (.tmp rfl rfl) (.tmp rfl rfl) Rt fw) (fun p81=>?_)
     refine aT ?_
     cases hF
     exact⟨_,_,p81.1,p81.2,_,rfl,aA,ay⟩
   rintro _ _ ⟨TN,c87,v85,F86,g89,rfl,rfl,hE⟩
   replace hF:=ax4
   try dsimp only at hF
   refine bq hE ?_
   refine aY ?_
   rw[wk k22]
   exact⟨_,bX _,_,k22+1,ll,_,_,v85,F86,rfl,aA,hd28,ay,hF⟩
 obtain⟨hk10,kW,mK⟩:=dz yT
 rw[DK]at hF
 refine bH ?_
 refine dI ?_
 refine aT ?_
 obtain⟨JR,aaW,acU⟩:=bind_some hF
 refine au ?_
 refine eX (fun f' cs'=>∃(lG:Bool)(g:Fr),lG=JR/\f'=aQ g [(0,ae.v),(1,ax.v),(5,(.slice (some ⟨k1,0,none⟩) 0 1)),(6,(.bool lG)),(7,(zi (k6:Int)))]/\aN cs' [bC (aD 24 (aD 3 az)) ae.v ai,ah ax iN,aU (aF 24 (aF 3 (aC az))) (k1::[]) (.slice (some ⟨k1,0,none⟩) 0 1) ([]:List (List Int))]) ?_ ?_
 · replace hF:=aaW
   refine aT ?_
   rcases bE c2 with Sk|Sk
   · rw[Sk]
     try rw[Sk]at hF; dsimp only[aJ,aI]at hF
     exact bJ hF
   rw[Sk]
   try rw[Sk]at hF; dsimp only[aJ,aI]at hF
   refine aY ?_
   refine Ai kW (fun k93 j94=>?_)
   refine au ?_
   refine uL (R':=(aD 3 az)) iA.h (.tmp rfl rfl) .h PS (fun w95=>?_)
   refine bu ?_
   refine bnd hF fun TL acV hF=>bD (Zl acV) (fun _=>?_)
   exact bJ hF
 rintro _ _ ⟨lG,ac1,rfl,rfl,hE⟩
 replace hF:=acU
 try dsimp only at hF
 refine bq hE ?_
 refine aY ?_
 rw[wk k6]
 exact⟨_,bX _,_,k6+1,jO,_,rfl,aA,mK,ay,hF⟩
def DL(c3:List (List Int))(iL:bz):List Int->Nat->(List Int)->Option ((List (List Int)))
 |[],k27,c21=>(Ia c3 c21).bind fun TP=>
   some TP
 |x29::lh,k27,c21=>(xq iL x29).bind fun jQ=>
   (app c21 ([jQ]:List Int)).bind fun z48=>
   DL c3 iL lh (k27+1) z48
def GQ(aK:Query):List bz->Nat->(List (List Int))->Option ((List (List Int)))
 |[],k9,c3=>some c3
 |iL::gI,k9,c3=>(DL c3 iL aK.Head 0 ([]:List Int)).bind fun kN=>
   match kN with
   |rC=>GQ aK gI (k9+1) rC
def U6(aK:Query)(ai:List bz):Option ((List (List Int))):=
 GQ aK ai 0 ([]:List (List Int))
theorem amV{aK:Query}{ae aO:Sv}{ai:List bz}{ax:Sv}{R:(List (List Int))}(hF:U6 aK ai=some R):
   Fw.Spec Tryz.prog 175 [(zg [ae.v,aO.v]),ax.v] [ah ae aK.Head,eQ aO aK.Atoms,rO ax ai] (fun p:Sv×List Nat=>p.1.v) (fun p=>[aU (aF 24 (aF 3 (aC az))) p.2 p.1.v R]):=by
 refine Se 41 Tryz.func175 [.tmp 4] ?_
 intro H0 F0
 unfold U6 at hF
 refine au ?_
 refine bN (fun k1=>?_)
 refine bu ?_
 refine dF rfl (bO (g:=true) uO.h pE.h .nil (vs:=[]) rfl rfl rfl (by simp)) (fun k2=>?_)
 refine dP (.cons .h .nil) (bQ (Ro:=(aF 3 (aC az))) (E:=24) (F:=[]) (xs:=([]:List (List Int))) bP rfl rfl) ?_
 refine bB ?_
 refine bi (bT (m:=ai.length) (fun m7 f' cs'=>∃(g:Fr)(k9:Nat)(gI:List bz)(c3:List (List Int))(v4:Sv)(F5:List Nat),m7=gI.length/\f'=aQ g [(1,ax.v),(2,(pz k1)),(5,v4.v),(6,(zi (k9:Int)))]/\List.drop k9 ai=gI/\aN cs' [rO ax ai,aX k1 120 (zg [ae.v,aO.v]),ah ae aK.Head,eQ aO aK.Atoms,aU (aF 24 (aF 3 (aC az))) F5 v4.v c3]/\GQ aK gI k9 c3=some R) ⟨_,0,_,_,⟨(some ⟨k2,0,none⟩),0,1⟩,(k2::[]),rfl,aA,rfl,ay,hF⟩ ?_)
 rintro m7 _ _ ⟨g8,k9,gI,c3,v4,F5,rfl,rfl,mK,hE,hF⟩
 refine Kb hE ai (fun Qh=>?_)
 rcases gI with _|⟨iL,gI⟩
 · have yo:=dn mK
   rw[GQ]at hF
   refine bH ?_
   refine dJ ?_
   refine gB ?_
   cases hF
   exact Er (v4,F5)
 obtain⟨yo,j5,qY⟩:=dz mK
 rw[GQ]at hF
 refine bH ?_
 refine dI ?_
 refine au ?_
 obtain⟨kN,uR,vD⟩:=bind_some hF
 refine iC (fun f' cs'=>∃(rC:List (List Int))(v53:Sv)(JQ:List Nat)(g:Fr),rC=kN/\f'=aQ g [(1,ax.v),(2,(pz k1)),(5,v53.v),(6,(zi (k9:Int)))]/\aN cs' [rO ax ai,aX k1 120 (zg [ae.v,aO.v]),ah ae aK.Head,eQ aO aK.Atoms,aU (aF 24 (aF 3 (aC az))) JQ v53.v rC]) ?_ ?_
 · replace hF:=uR
   refine bi (dY (dF rfl (bO (g:=true) dh.h dx.h .nil (vs:=[]) rfl rfl rfl (by simp)) (fun k20=>?_)))
   refine dP (.cons .h .nil) (bQ (Ro:=(aC az)) (E:=3) (F:=[]) (xs:=([]:List Int)) bP rfl rfl) ?_
   refine bB ?_
   refine bi (bT (m:=aK.Head.length) (fun FI f' cs'=>∃(g:Fr)(k27:Nat)(lh c21:List Int)(v22:Sv)(F23:List Nat),FI=lh.length/\f'=aQ g [(1,ax.v),(2,(pz k1)),(5,v4.v),(6,(zi (k9:Int))),(7,v22.v),(8,(zi (k27:Int)))]/\List.drop k27 aK.Head=lh/\aN cs' [rO ax ai,aX k1 120 (zg [ae.v,aO.v]),ah ae aK.Head,eQ aO aK.Atoms,aU (aF 24 (aF 3 (aC az))) F5 v4.v c3,bI F23 v22 c21]/\DL c3 iL lh k27 c21=some kN) ⟨_,0,_,_,⟨(some ⟨k20,0,none⟩),0,1⟩,(k20::[]),rfl,aA,rfl,ay,hF⟩ ?_)
   rintro FI _ _ ⟨g26,k27,lh,c21,v22,F23,rfl,rfl,zK,hE,hF⟩
   refine Kb hE aK.Head (fun aim=>?_)
   rcases lh with _|⟨x29,lh⟩
   · have hk31:=dn zK
     rw[DL]at hF
     refine dL ?_
     refine dJ ?_
     refine bH ?_
     refine bnd hF fun TP Sj hF=>QZ (.cons .q5 (.cons .q4 .nil)) (jk (pre:=[]) (.cons aG (.cons aG .nil)) (fun _=>(.cons .nil)) (bU asM.h b_ (amU Sj))) (fun p38=>?_)
     refine aT ?_
     cases hF
     exact⟨_,p38.1,p38.2,_,rfl,aA,ay⟩
   obtain⟨hk31,hx32,Ra⟩:=dz zK
   rw[DL]at hF
   refine dL ?_
   refine dI ?_
   refine aT ?_
   refine jf [0,1,2,3,4,5,6,7,8,9,10,11,12,13] [0,0,0,6,14,0,32,0,224,480,1022,2046,4095,8191] [10,12] mixed (by decide+kernel) ?_
   refine dm ?_
   refine Di j5 (fun k39 j40=>?_)
   refine zJ (Ap iL) D_ (fun p41=>?_)
   refine dm ?_
   refine Di hx32 (fun Yf j43=>?_)
   refine Dl dN ?_
   refine bnd hF fun jQ vz hF=>eZ (Ot vz) (fun _=>?_)
   refine iq rfl .no rfl (fun ha=>bO (g:=true) (len:=1) (parts:=[(0,.tmp 34)]) dh.h dx.h (.cons (EN ha (.tmp rfl rfl) rfl) .nil) (vs:=[(zi jQ)]) rfl rfl rfl (by intro v hv; simp at hv; rcases hv with rfl<;>rfl)) (fun TG=>?_)
   refine iR (.cons .h .nil) (bQ (Ro:=(aC az)) (E:=3) (F:=([]++[])) (xs:=([jQ]:List Int)) (d_ (jh (fun _=>rfl)) bP cK) rfl rfl) ?_
   refine bnd hF fun z48 qR hF=>cO rfl rfl .no (.cons .q10 (.cons .h .nil)) (.dep rfl .nil) (fun ha=>dV (Ro:=(aC az)) dh.h iQ dx.h rfl rfl rfl (EN ha (.tmp rfl rfl) rfl) (EN ha (.tmp rfl rfl) rfl) qR fw) (fun p50=>?_)
   refine bR ?_
   refine aY ?_
   rw[wk k27]
   exact⟨_,bX _,_,k27+1,lh,_,p50.1,p50.2,rfl,aA,Ra,ay,hF⟩
 rintro _ _ ⟨rC,v53,JQ,g56,rfl,rfl,hE⟩
 replace hF:=vD
 try dsimp only at hF
 refine bq hE ?_
 refine aY ?_
 rw[wk k9]
 exact⟨_,bX _,_,k9+1,gI,_,v53,JQ,rfl,aA,qY,ay,hF⟩
def Ha(ai:List Method):List Access->Nat->Int->Option (Int)
 |[],k5,c1=>some c1
 |x7::eH,k5,c1=>(((iO x7.Method 0 (IntKind.i64.wrap ((ai.length:Int)-1))).bind fun jM=>
       bif jM then ((ix ai x7.Method).bind fun nK=>
         (iO nK.Cost 0 99).bind fun r32=>
         some r32)
       else (some false)).bind fun o16=>
     match o16 with
     |yZ=>if yZ then (
         (ix ai x7.Method).bind fun x38=>
         some (IntKind.i64.wrap (c1+x38.Cost)))
       else (
         some c1)).bind fun y5=>
   match y5 with
   |c46=>Ha ai eH (k5+1) c46
def Pp(ai:List Method)(lq:List Access):Option (Int):=
 Ha ai lq 0 0
theorem afu{ai:List Method}{ae:Sv}{lq:List Access}{ax:Sv}{R:Int}(hF:Pp ai lq=some R):
   Fw.Spec Tryz.prog 35 [ae.v,ax.v] [bV ae ai,eD ax lq] (fun _:Unit=>(zi R)) (fun _=>[]):=by
 refine Se 46 Tryz.func35 [.tmp 4] ?_
 intro H0 F0
 unfold Pp at hF
 refine ky ?_
 refine bi (bT (m:=lq.length) (fun m3 f' cs'=>∃(g:Fr)(k5:Nat)(eH:List Access)(c1:Int),m3=eH.length/\f'=aQ g [(0,ae.v),(1,ax.v),(5,(zi c1)),(6,(zi (k5:Int)))]/\List.drop k5 lq=eH/\aN cs' [bV ae ai,eD ax lq]/\Ha ai eH k5 c1=some R) ⟨_,0,_,_,rfl,aA,rfl,ay,hF⟩ ?_)
 rintro m3 _ _ ⟨g4,k5,eH,c1,rfl,rfl,nJ,hE,hF⟩
 refine Kb hE lq (fun IP=>?_)
 rcases eH with _|⟨x7,eH⟩
 · have tT:=dn nJ
   rw[Ha]at hF
   refine bH ?_
   refine dJ ?_
   exact ze hF
 obtain⟨tT,jm,jY⟩:=dz nJ
 rw[Ha]at hF
 refine bH ?_
 refine dI ?_
 refine au ?_
 obtain⟨y5,Qo,R9⟩:=bind_some hF
 refine iC (fun f' cs'=>∃(c46:Int)(g:Fr),c46=y5/\f'=aQ g [(0,ae.v),(1,ax.v),(5,(zi c46)),(6,(zi (k5:Int)))]/\aN cs' [bV ae ai,eD ax lq]) ?_ ?_
 · replace hF:=Qo
   refine bi ?_
   obtain⟨o16,aaX,acY⟩:=bind_some hF
   refine au ?_
   refine eX (fun f' cs'=>∃(yZ:Bool)(g:Fr),yZ=o16/\f'=aQ g [(0,ae.v),(1,ax.v),(5,(zi c1)),(6,(zi (k5:Int))),(33,(.bool yZ))]/\aN cs' [bV ae ai,eD ax lq]) ?_ ?_
   · replace hF:=aaX
     refine aT ?_
     refine Ai jm (fun k18 j19=>?_)
     refine au ?_
     refine Al LZ ?_
     refine bu ?_
     refine bnd hF fun jM lv hF=>bD (jR lv) (fun _=>?_)
     refine au ?_
     rcases bE jM with j6|j6
     · rw[j6]
       try rw[j6]at hF; dsimp only[aJ,aI]at hF
       refine bH ?_
       refine Ai jm (fun k24 j25=>?_)
       refine bu ?_
       refine Al LZ ?_
       refine au ?_
       refine zI hF fun nK Xl hx29 hF=>?_
       refine Ai hx29 (fun FL j31=>?_)
       refine bu ?_
       refine Al L6 ?_
       refine au ?_
       refine bnd hF fun r32 vv hF=>bD (jR vv) (fun _=>?_)
       exact bJ hF
     rw[j6]
     try rw[j6]at hF; dsimp only[aJ,aI]at hF
     exact bJ hF
   rintro _ _ ⟨yZ,g45,rfl,rfl,hE⟩
   replace hF:=acY
   try dsimp only at hF
   refine bq hE ?_
   refine Ci hF (fun I9 hF=>?_) (fun I9 hF=>?_)
   · refine aY ?_
     refine Ai jm (fun ny TM=>?_)
     refine au ?_
     refine Al LZ ?_
     refine zI hF fun x38 ajM Jh hF=>?_
     refine Ai Jh (fun Yf j43=>?_)
     refine au ?_
     refine Al L6 ?_
     exact bJ hF
   exact bJ hF
 rintro _ _ ⟨c46,g48,rfl,rfl,hE⟩
 replace hF:=R9
 try dsimp only at hF
 refine bq hE ?_
 refine aY ?_
 rw[wk k5]
 exact⟨_,bX _,_,k5+1,eH,_,rfl,aA,jY,ay,hF⟩
def GR(aB:Atom)(aR:bz):List Int->Nat->(List Int)->Option ((List Int))
 |[],k11,c5=>some c5
 |oq::BF,k11,c5=>(ix aB.Terms oq).bind fun jX=>
   (xq aR jX).bind fun JW=>
   (app c5 ([JW]:List Int)).bind fun z32=>
   GR aB aR BF (k11+1) z32
def ZA(aa:Method)(aB:Atom)(aR:bz):Option ((List Int)):=
 GR aB aR aa.Inputs 0 ([]:List Int)
theorem amW{aa:Method}{aO:Sv}{aB:Atom}{aV:Sv}{aR:bz}{bL dH:Sv}{R:(List Int)}(hF:ZA aa aB aR=some R):
   Fw.Spec Tryz.prog 171 [(zg [(zi aa.Rel),aO.v,(zi aa.Limit),(zi aa.Cost),(zi aa.Quota)]),(zg [(zi aB.Rel),aV.v]),(zg [bL.v,dH.v])] [ah aO aa.Inputs,ah aV aB.Terms,ah bL aR.Vars,ah dH aR.Values] (fun p:Sv×List Nat=>p.1.v) (fun p=>[bI p.2 p.1 R]):=by
 refine Se 32 Tryz.func171 [.tmp 6] ?_
 intro H0 F0
 unfold ZA at hF
 refine au ?_
 refine bN (fun k1=>?_)
 refine bN (fun k2=>?_)
 refine bN (fun k3=>?_)
 refine bu ?_
 refine dF rfl (bO (g:=true) dh.h dx.h .nil (vs:=[]) rfl rfl rfl (by simp)) (fun k4=>?_)
 refine dP (.cons .h .nil) (bQ (Ro:=(aC az)) (E:=3) (F:=[]) (xs:=([]:List Int)) bP rfl rfl) ?_
 refine bB ?_
 refine bi (bT (m:=aa.Inputs.length) (fun m9 f' cs'=>∃(g:Fr)(k11:Nat)(BF c5:List Int)(v6:Sv)(F7:List Nat),m9=BF.length/\f'=aQ g [(3,(pz k1)),(4,(pz k2)),(5,(pz k3)),(7,v6.v),(8,(zi (k11:Int)))]/\List.drop k11 aa.Inputs=BF/\aN cs' [aX k1 57 (zg [(zi aa.Rel),aO.v,(zi aa.Limit),(zi aa.Cost),(zi aa.Quota)]),ah aO aa.Inputs,aX k2 159 (zg [(zi aB.Rel),aV.v]),ah aV aB.Terms,aX k3 183 (zg [bL.v,dH.v]),ah bL aR.Vars,ah dH aR.Values,bI F7 v6 c5]/\GR aB aR BF k11 c5=some R) ⟨_,0,_,_,⟨(some ⟨k4,0,none⟩),0,1⟩,(k4::[]),rfl,aA,rfl,ay,hF⟩ ?_)
 rintro m9 _ _ ⟨g10,k11,BF,c5,v6,F7,rfl,rfl,rT,hE,hF⟩
 refine Kb hE aa.Inputs (fun aAS=>?_)
 rcases BF with _|⟨oq,BF⟩
 · have ax6:=dn rT
   rw[GR]at hF
   refine dL ?_
   refine dJ ?_
   refine gB ?_
   cases hF
   exact Er (v6,F7)
 obtain⟨ax6,hx16,ax7⟩:=dz rT
 rw[GR]at hF
 refine dL ?_
 refine dI ?_
 refine aT ?_
 refine jf [0,1,2,3,4,5,6,7,8,9,10,11,12,13,14] [0,0,0,4,0,16,0,112,240,508,1020,2046,4094,8191,16383] [11,13] mixed (by decide+kernel) ?_
 refine abQ ?_
 refine Di hx16 (fun k20 CZ=>?_)
 refine Dl dN ?_
 refine zI hF fun jX acC hx25 hF=>?_
 refine Di hx25 (fun k26 TH=>?_)
 refine Dl dN ?_
 refine bnd hF fun JW hx29 hF=>eZ (Ot hx29) (fun _=>?_)
 refine iq rfl .no rfl (fun ha=>bO (g:=true) (len:=1) (parts:=[(0,.tmp 28)]) dh.h dx.h (.cons (EN ha (.tmp rfl rfl) rfl) .nil) (vs:=[(zi JW)]) rfl rfl rfl (by intro v hv; simp at hv; rcases hv with rfl<;>rfl)) (fun FJ=>?_)
 refine iR (.cons .h .nil) (bQ (Ro:=(aC az)) (E:=3) (F:=([]++[])) (xs:=([JW]:List Int)) (d_ (jh (fun _=>rfl)) bP cK) rfl rfl) ?_
 refine bnd hF fun z32 vv hF=>cO rfl rfl .no (.cons .q10 (.cons .h .nil)) (.dep rfl .nil) (fun ha=>dV (Ro:=(aC az)) dh.h iQ dx.h rfl rfl rfl (EN ha (.tmp rfl rfl) rfl) (EN ha (.tmp rfl rfl) rfl) vv fw) (fun p34=>?_)
 refine bR ?_
 refine aY ?_
 rw[wk k11]
 exact⟨_,bX _,_,k11+1,BF,_,p34.1,p34.2,rfl,aA,ax7,ay,hF⟩
def Ib(ai:List Method)(aB:Access):Option (Bool):=
 ((iO aB.Method 0 (IntKind.i64.wrap ((ai.length:Int)-1))).bind fun r4=>
   bif r4 then ((ix ai aB.Method).bind fun x8=>
     some (((aB.Values.length:Int):Int)==(x8.Inputs.length:Int)))
   else (some false)).bind fun o2=>
 match o2 with
 |c15=>some c15
theorem Y8{ai:List Method}{ae:Sv}{aB:Access}{aV:Sv}{R:Bool}(hF:Ib ai aB=some R):
   Fw.Spec Tryz.prog 197 [ae.v,(zg [(zi aB.Method),aV.v])] [bV ae ai,ah aV aB.Values] (fun _:Unit=>(.bool R)) (fun _=>[]):=by
 refine Se 24 Tryz.func197 [.tmp 4] ?_
 intro H0 F0
 unfold Ib at hF
 refine au ?_
 refine bN (fun k1=>?_)
 refine aT ?_
 obtain⟨o2,fU,hO3⟩:=bind_some hF
 refine dS [0,1,2,3,4,5,6,7,8,9,10,11,12,13,14,15,16,17,18,19] [0,1,0,4,12,31,63,127,255,511,127,127,2175,7295,15487,31871,64639,131071,262143,524287] [5] mixed (by decide+kernel) ?_
 refine kS (fun f' cs'=>∃(c15:Bool)(g:Fr),c15=o2/\f'=aQ g [(4,(.bool c15))]/\aN cs' []) ?_ ?_
 · replace hF:=fU
   refine sV ?_
   refine bnd hF fun r4 hx5 hF=>eZ (jR hx5) (fun _=>?_)
   refine du ?_
   rcases bE r4 with bn|bn
   · rw[bn]
     try rw[bn]at hF; dsimp only[aJ,aI]at hF
     refine wK ?_
     refine zI hF fun x8 akf kW hF=>?_
     refine Di kW (fun k12 j13=>?_)
     refine du ?_
     refine n_ (R':=(aD 3 az)) iA.h rfl (.on 11 rfl rfl rfl) (.tmp rfl rfl) rfl .h PT (fun w14=>?_)
     exact eu hF
   rw[bn]
   try rw[bn]at hF; dsimp only[aJ,aI]at hF
   exact eu hF
 rintro _ _ ⟨c15,g16,rfl,rfl,hE⟩
 replace hF:=hO3
 try dsimp only at hF
 refine bq hE ?_
 exact ze hF
def Dh(ai:List Method)(aB:Access)(aR:Access)(ny:Nat)(x38:Int):List Int->Nat->Bool->Option (Sum (Bool) (Unit))
 |[],tQ,kJ=>if (!kJ)then (
     some (.inl false))
   else (
     some (.inr ()))
 |Tk::BG,tQ,kJ=>(bif kJ then (some true)
     else ((ix ai aR.Method).bind fun x64=>
       (ix x64.Inputs (tQ:Int)).bind fun x71=>
       (ix ai aB.Method).bind fun x77=>
       (ix x77.Inputs (ny:Int)).bind fun x84=>
       bif ((x71:Int)==x84)then (some ((Tk:Int)==x38))
       else (some false))).bind fun o61=>
   match o61 with
   |TQ=>Dh ai aB aR ny x38 BG (tQ+1) TQ
def FX(ai:List Method)(aB:Access)(aR:Access):List Int->Nat->Option (Bool)
 |[],ny=>some true
 |x38::BH,ny=>((Dh ai aB aR ny x38 aR.Values 0 false):Option (Sum (Bool) (Unit))).bind fun FQ=>
   match FQ with
   | .inl r=>some r
   | .inr _=>FX ai aB aR BH (ny+1)
def NW(ai:List Method)(aB:Access)(aR:Access):Option (Bool):=
 ((Ib ai aB).bind fun r5=>
   bif (!r5)then (some true)
   else ((Ib ai aR).bind fun r9=>
     bif (!r9)then (some true)
     else ((ix ai aB.Method).bind fun oq=>
       (ix ai aR.Method).bind fun Nu=>
       bif ((oq.Rel:Int)!=Nu.Rel)then (some true)
       else ((ix ai aB.Method).bind fun nK=>
         some ((nK.Limit:Int)!=0))))).bind fun o3=>
 match o3 with
 |c32=>if c32 then (
     some false)
   else (
     FX ai aB aR aB.Values 0)
theorem alu{ai:List Method}{ae:Sv}{aB:Access}{aV:Sv}{aR:Access}{dH:Sv}{R:Bool}(hF:NW ai aB aR=some R):
   Fw.Spec Tryz.prog 189 [ae.v,(zg [(zi aB.Method),aV.v]),(zg [(zi aR.Method),dH.v])] [bV ae ai,ah aV aB.Values,ah dH aR.Values] (fun _:Unit=>(.bool R)) (fun _=>[]):=by
 refine Se 95 Tryz.func189 [.tmp 6] ?_
 intro H0 F0
 unfold NW at hF
 refine au ?_
 refine bN (fun k1=>?_)
 refine bN (fun k2=>?_)
 refine bu ?_
 obtain⟨o3,vC,hO4⟩:=bind_some hF
 refine dS [0,1,2,3,4,5,6,7,8,9,10,11,12,13,14,15,16,17,18,19,20,21,22,23,24,25,26,27,28,29,30,31,32,33] [0,0,3,7,15,31,31,127,255,511,1023,2047,2047,6143,16383,32767,65535,2047,2047,264191,919551,1968127,4065279,8388607,16777215,33554431,67108863,67108863,201326591,536870911,1073741823,2147483647,4294967295,8589934591] [2,7] mixed (by decide+kernel) ?_
 refine kS (fun f' cs'=>∃(c32:Bool)(g:Fr),c32=o3/\f'=aQ g [(0,ae.v),(4,(pz k1)),(5,(pz k2)),(43,(.bool c32))]/\aN cs' [bV ae ai,aX k1 45 (zg [(zi aB.Method),aV.v]),ah aV aB.Values,aX k2 45 (zg [(zi aR.Method),dH.v]),ah dH aR.Values]) ?_ ?_
 · replace hF:=vC
   refine bR ?_
   refine bnd hF fun r5 hx6 hF=>eZ (Y8 hx6) (fun _=>?_)
   refine bR ?_
   rcases bE (!r5)with ko|ko
   · rw[ko]
     try rw[ko]at hF; dsimp only[aJ,aI]at hF
     exact eu hF
   rw[ko]
   try rw[ko]at hF; dsimp only[aJ,aI]at hF
   refine bR ?_
   refine bnd hF fun r9 jm hF=>eZ (Y8 jm) (fun _=>?_)
   refine dm ?_
   rcases bE (!r9)with lC|lC
   · rw[lC]
     try rw[lC]at hF; dsimp only[aJ,aI]at hF
     exact eu hF
   rw[lC]
   try rw[lC]at hF; dsimp only[aJ,aI]at hF
   refine dm ?_
   refine zI hF fun oq WZ hx16 hF=>?_
   refine Di hx16 (fun k17 JC=>?_)
   refine du ?_
   refine Dl ahL ?_
   refine dm ?_
   refine zI hF fun Nu ax8 sZ hF=>?_
   refine Di sZ (fun k23 Yj=>?_)
   refine du ?_
   refine Dl ahL ?_
   refine dm ?_
   rcases bE ((oq.Rel:Int)!=Nu.Rel)with Sl|Sl
   · rw[Sl]
     try rw[Sl]at hF; dsimp only[aJ,aI]at hF
     exact eu hF
   rw[Sl]
   try rw[Sl]at hF; dsimp only[aJ,aI]at hF
   refine dm ?_
   refine zI hF fun nK Xl hx29 hF=>?_
   refine Di hx29 (fun FL j31=>?_)
   refine du ?_
   refine Dl PU ?_
   exact eu hF
 rintro _ _ ⟨c32,ac1,rfl,rfl,hE⟩
 replace hF:=hO4
 try dsimp only at hF
 refine bq hE ?_
 refine Ci hF (fun aaP hF=>?_) (fun aaP hF=>?_)
 · exact ze hF
 refine aY ?_
 refine bi (bT (m:=aB.Values.length) (fun z_ f' cs'=>∃(g:Fr)(ny:Nat)(BH:List Int),z_=BH.length/\f'=aQ g [(0,ae.v),(4,(pz k1)),(5,(pz k2)),(7,(zi (ny:Int)))]/\List.drop ny aB.Values=BH/\aN cs' [bV ae ai,aX k1 45 (zg [(zi aB.Method),aV.v]),ah aV aB.Values,aX k2 45 (zg [(zi aR.Method),dH.v]),ah dH aR.Values]/\FX ai aB aR BH ny=some R) ⟨_,0,_,rfl,aA,rfl,ay,hF⟩ ?_)
 rintro z_ _ _ ⟨g35,ny,BH,rfl,rfl,hd39,hE,hF⟩
 refine Kb hE aB.Values (fun aAT=>?_)
 rcases BH with _|⟨x38,BH⟩
 · have ax9:=dn hd39
   rw[FX]at hF
   refine dL ?_
   refine dJ ?_
   exact ze hF
 obtain⟨ax9,Jh,ax_⟩:=dz hd39
 rw[FX]at hF
 refine dL ?_
 refine dI ?_
 refine au ?_
 obtain⟨FQ,aaZ,XM⟩:=bind_some hF
 refine iC (fun f' cs'=>∃(g:Fr),FQ= .inr ()/\f'=aQ g [(0,ae.v),(4,(pz k1)),(5,(pz k2)),(7,(zi (ny:Int)))]/\aN cs' [bV ae ai,aX k1 45 (zg [(zi aB.Method),aV.v]),ah aV aB.Values,aX k2 45 (zg [(zi aR.Method),dH.v]),ah dH aR.Values]) ?_ ?_
 · replace hF:=aaZ
   refine bi (dY (aP (jU (v:=(.bool false)) (.bool _)) ?_))
   refine aY ?_
   refine bi (bT (m:=aR.Values.length) (fun m49 f' cs'=>∃(g:Fr)(tQ:Nat)(BG:List Int)(kJ:Bool),m49=BG.length/\f'=aQ g [(0,ae.v),(4,(pz k1)),(5,(pz k2)),(7,(zi (ny:Int))),(8,(.bool kJ)),(9,(zi (tQ:Int)))]/\List.drop tQ aR.Values=BG/\aN cs' [bV ae ai,aX k1 45 (zg [(zi aB.Method),aV.v]),ah aV aB.Values,aX k2 45 (zg [(zi aR.Method),dH.v]),ah dH aR.Values]/\Dh ai aB aR ny x38 BG tQ kJ=some FQ) ⟨_,0,_,_,rfl,aA,rfl,ay,hF⟩ ?_)
   rintro m49 _ _ ⟨g50,tQ,BG,kJ,rfl,rfl,Xk,hE,hF⟩
   refine Kb hE aR.Values (fun aAU=>?_)
   rcases BG with _|⟨Tk,BG⟩
   · have ax':=dn Xk
     rw[Dh]at hF
     refine dL ?_
     refine dJ ?_
     refine dL ?_
     refine Ci hF (fun aya hF=>?_) (fun aya hF=>?_)
     · refine bg ?_
       cases hF
       replace hF:=XM
       try dsimp only at hF
       exact ze hF
     refine au ?_
     cases hF
     exact⟨_,rfl,aA,ay⟩
   obtain⟨ax',Co,ayb⟩:=dz Xk
   rw[Dh]at hF
   refine dL ?_
   refine dI ?_
   refine aT ?_
   obtain⟨o61,auI,ayc⟩:=bind_some hF
   refine jf [0,1,2,3,4,5,6,7,8,9,10,11,12,13,14,15,16,17,18,19,20,21,22,23,24,25,26,27,28,29,30,31,32,33,34,35] [0,1,3,3,11,31,63,127,3,511,1023,3,3,4099,14339,30723,63491,3,260099,522243,1048575,2097151,4194303,8388607,4194303,33554431,67108863,4194303,138412031,4194303,943718399,2017460223,4294967295,8589934591,17179869183,34359738367] [] mixed (by decide+kernel) ?_
   refine kS (fun f' cs'=>∃(TQ:Bool)(g:Fr),TQ=o61/\f'=aQ g [(0,ae.v),(4,(pz k1)),(5,(pz k2)),(7,(zi (ny:Int))),(8,(.bool TQ)),(9,(zi (tQ:Int)))]/\aN cs' [bV ae ai,aX k1 45 (zg [(zi aB.Method),aV.v]),ah aV aB.Values,aX k2 45 (zg [(zi aR.Method),dH.v]),ah dH aR.Values]) ?_ ?_
   · replace hF:=auI
     refine bR ?_
     rcases bE kJ with Sm|Sm
     · rw[Sm]
       try rw[Sm]at hF; dsimp only[aJ,aI]at hF
       exact eu hF
     rw[Sm]
     try rw[Sm]at hF; dsimp only[aJ,aI]at hF
     refine dm ?_
     refine zI hF fun x64 aDZ Q7 hF=>?_
     refine Di Q7 (fun k68 j69=>?_)
     refine du ?_
     refine n_ (R':=(aD 3 az)) iA.h rfl (.on 59 rfl rfl rfl) (.tmp rfl rfl) rfl .h PT (fun w70=>?_)
     refine du ?_
     refine zI hF fun x71 aD0 aco hF=>?_
     refine Di aco (fun k75 j76=>?_)
     refine Dl dN ?_
     refine dm ?_
     refine zI hF fun x77 aD1 Rt hF=>?_
     refine Di Rt (fun vW j82=>?_)
     refine du ?_
     refine n_ (R':=(aD 3 az)) iA.h rfl (.on 59 rfl rfl rfl) (.tmp rfl rfl) rfl .h PT (fun w83=>?_)
     refine du ?_
     refine zI hF fun x84 aD2 ac6 hF=>?_
     refine Di ac6 (fun k88 j89=>?_)
     refine Dl dN ?_
     refine bR ?_
     rcases bE ((x71:Int)==x84)with Sn|Sn
     · rw[Sn]
       try rw[Sn]at hF; dsimp only[aJ,aI]at hF
       refine dm ?_
       refine Di Co (fun k91 j92=>?_)
       refine Dl dN ?_
       refine dm ?_
       refine Di Jh (fun k93 j94=>?_)
       refine Dl dN ?_
       exact eu hF
     rw[Sn]
     try rw[Sn]at hF; dsimp only[aJ,aI]at hF
     exact eu hF
   rintro _ _ ⟨TQ,g97,rfl,rfl,hE⟩
   replace hF:=ayc
   try dsimp only at hF
   refine bq hE ?_
   refine aY ?_
   rw[wk tQ]
   exact⟨_,bX _,_,tQ+1,BG,_,rfl,aA,ayb,ay,hF⟩
 rintro _ _ ⟨g99,rfl,rfl,hE⟩
 replace hF:=XM
 try dsimp only at hF
 refine bq hE ?_
 refine aY ?_
 rw[wk ny]
 exact⟨_,bX _,_,ny+1,BH,rfl,aA,ax_,ay,hF⟩
def Gf(aR:Access)(x6:Method)(c14:List Fact)(jX:Fact):Nat->Bool->Int->Option ((List Fact))
 |0,_,_=>none
 |JX+1,j_,c34=>if ((decide ((c34:Int)<(x6.Inputs.length:Int)))&&j_)then (
     ((ix x6.Inputs c34).bind fun x47=>
       (iO x47 0 (IntKind.i64.wrap ((jX.Values.length:Int)-1))).bind fun Nt=>
       bif Nt then ((ix x6.Inputs c34).bind fun x63=>
         (ix jX.Values x63).bind fun x69=>
         (ix aR.Values c34).bind fun x75=>
         some ((x69:Int)==x75))
       else (some false)).bind fun FQ=>
     match FQ with
     |TR=>Gf aR x6 c14 jX JX TR (IntKind.i64.wrap (c34+1)))
   else (
     if j_ then (
       (wy jX.Rel jX.Values).bind fun iT=>
       (app c14 ([iT]:List Fact)).bind fun z92=>
       some z92)
     else (
       some c14))
def Gg(aR:Access)(x6:Method):List Fact->Nat->(List Fact)->Option ((List Fact))
 |[],k20,c14=>some c14
 |jX::lm,k20,c14=>(Gf aR x6 c14 jX (((x6.Inputs.length:Int)-0).toNat+2) ((jX.Rel:Int)==x6.Rel) 0).bind fun wY=>
   match wY with
   |wW=>Gg aR x6 lm (k20+1) wW
def Oe(ai:List Method)(bM:List Fact)(aR:Access):Option ((List Fact)):=
 (Ib ai aR).bind fun r3=>
 if (!r3)then (
   some ([]:List Fact))
 else (
   (ix ai aR.Method).bind fun x6=>
   Gg aR x6 bM 0 ([]:List Fact))
theorem alM{ai:List Method}{ae:Sv}{bM:List Fact}{ax:Sv}{aR:Access}{dH:Sv}{R:(List Fact)}(hF:Oe ai bM aR=some R):
   Fw.Spec Tryz.prog 190 [ae.v,ax.v,(zg [(zi aR.Method),dH.v])] [bV ae ai,bG ax bM,ah dH aR.Values] (fun p:Sv×List Nat=>p.1.v) (fun p=>[eG p.2 p.1 R]):=by
 refine Se 96 Tryz.func190 [.tmp 6] ?_
 intro H0 F0
 unfold Oe at hF
 refine au ?_
 refine bN (fun k1=>?_)
 refine bu ?_
 refine dF rfl (bO (g:=true) fH.h dZ.h .nil (vs:=[]) rfl rfl rfl (by simp)) (fun k2=>?_)
 refine dP (.cons .h .nil) (bQ (Ro:=gN) (E:=70) (F:=[]) (xs:=([]:List Fact)) bP rfl rfl) ?_
 refine bB ?_
 refine bnd hF fun r3 hx4 hF=>bD (Y8 hx4) (fun _=>?_)
 refine aT ?_
 refine Ci hF (fun aaY hF=>?_) (fun aaY hF=>?_)
 · refine aY ?_
   cases hF
   exact Er (⟨(some ⟨k2,0,none⟩),0,1⟩,(k2::[]))
 refine aY ?_
 refine zI hF fun x6 hp8 bY hF=>?_
 refine Ai bY (fun k10 j11=>?_)
 refine mX (uf x6) uH (fun oC=>?_)
 refine dX (fun k13=>?_)
 refine As (zg [(zi x6.Rel),oC.v,(zi x6.Limit),(zi x6.Cost),(zi x6.Quota)]) ?_
 refine aY ?_
 refine bi (bT (m:=bM.length) (fun m18 f' cs'=>∃(g:Fr)(k20:Nat)(lm c14:List Fact)(v15:Sv)(y7:List Nat),m18=lm.length/\f'=aQ g [(1,ax.v),(5,(pz k1)),(7,v15.v),(8,(pz k13)),(9,(zi (k20:Int)))]/\List.drop k20 bM=lm/\aN cs' [bG ax bM,aX k1 45 (zg [(zi aR.Method),dH.v]),ah dH aR.Values,eG y7 v15 c14,aW k13 57 (zg [(zi x6.Rel),oC.v,(zi x6.Limit),(zi x6.Cost),(zi x6.Quota)]),ah oC x6.Inputs]/\Gg aR x6 lm k20 c14=some R) ⟨_,0,_,_,⟨(some ⟨k2,0,none⟩),0,1⟩,(k2::[]),rfl,aA,rfl,ay,hF⟩ ?_)
 rintro m18 _ _ ⟨g19,k20,lm,c14,v15,y7,rfl,rfl,EY,hE,hF⟩
 refine Kb hE bM (fun aio=>?_)
 rcases lm with _|⟨jX,lm⟩
 · have Jg:=dn EY
   rw[Gg]at hF
   refine bH ?_
   refine dJ ?_
   refine gB ?_
   cases hF
   exact Er (v15,y7)
 obtain⟨Jg,hx25,x9⟩:=dz EY
 rw[Gg]at hF
 refine bH ?_
 refine dI ?_
 refine au ?_
 obtain⟨wY,Qk,RP⟩:=bind_some hF
 refine iC (fun f' cs'=>∃(wW:List Fact)(Yx:Sv)(F99:List Nat)(g:Fr),wW=wY/\f'=aQ g [(1,ax.v),(5,(pz k1)),(7,Yx.v),(8,(pz k13)),(9,(zi (k20:Int)))]/\aN cs' [bG ax bM,aX k1 45 (zg [(zi aR.Method),dH.v]),ah dH aR.Values,eG F99 Yx wW,aW k13 57 (zg [(zi x6.Rel),oC.v,(zi x6.Limit),(zi x6.Cost),(zi x6.Quota)]),ah oC x6.Inputs]) ?_ ?_
 · replace hF:=Qk
   refine bi (dS [0,1,2,3,4,5,6,7,8] [0,0,3,7,15,0,32,127,255] [] mixed (by decide+kernel) ?_)
   refine bR ?_
   refine Di hx25 (fun FJ Yi=>?_)
   refine du ?_
   refine Dl Bp ?_
   refine du ?_
   refine dM rfl .no .q5 (fun ha hp=>fe (v:=(zi x6.Rel)) pU.h (EN ha (.tmp rfl rfl) rfl) hp.2 rfl rfl) ?_
   refine dm ?_
   refine bg ?_
   refine bi (bT (m:=(((x6.Inputs.length:Int)-0).toNat+2)) (fun JX f' cs'=>∃(g:Fr)(j_:Bool)(c34:Int),f'=aQ g [(1,ax.v),(5,(pz k1)),(7,v15.v),(8,(pz k13)),(9,(zi (k20:Int))),(10,(.bool j_)),(11,(zi c34))]/\aN cs' [bG ax bM,aX k1 45 (zg [(zi aR.Method),dH.v]),ah dH aR.Values,eG y7 v15 c14,aW k13 57 (zg [(zi x6.Rel),oC.v,(zi x6.Limit),(zi x6.Cost),(zi x6.Quota)]),ah oC x6.Inputs]/\Gf aR x6 c14 jX JX j_ c34=some wY) ⟨_,_,_,aA,ay,hF⟩ ?_)
   rintro JX _ _ ⟨g36,j_,c34,rfl,hE,hF⟩
   refine bq hE ?_
   rcases JX with _|JX
   · rw[Gf]at hF
     exact absurd hF (by simp)
   rw[Gf]at hF
   refine aT ?_
   refine eX (fun f' cs'=>∃(g:Fr),f'=aQ g [(1,ax.v),(5,(pz k1)),(7,v15.v),(8,(pz k13)),(9,(zi (k20:Int))),(10,(.bool j_)),(11,(zi c34)),(44,(.bool ((decide ((c34:Int)<(x6.Inputs.length:Int)))&&j_)))]/\aN cs' [bG ax bM,aX k1 45 (zg [(zi aR.Method),dH.v]),ah dH aR.Values,eG y7 v15 c14,aW k13 57 (zg [(zi x6.Rel),oC.v,(zi x6.Limit),(zi x6.Cost),(zi x6.Quota)]),ah oC x6.Inputs]) ?_ ?_
   · refine bB ?_
     rcases bE (decide ((c34:Int)<(x6.Inputs.length:Int)))with yg|yg
     · rw[yg]
       try rw[yg]at hF; dsimp only[aJ,aI]at hF
       refine bg ?_
       exact⟨_,aA,ay⟩
     rw[yg]
     try rw[yg]at hF; dsimp only[aJ,aI]at hF
     refine bu ?_
     exact⟨_,aA,ay⟩
   rintro _ _ ⟨g44,rfl,hE⟩
   refine bq hE ?_
   refine Ci hF (fun ayd hF=>?_) (fun ayd hF=>?_)
   · refine aT ?_
     obtain⟨FQ,aaZ,XM⟩:=bind_some hF
     refine jf [0,1,2,3,4,5,6,7,8,9,10,11,12,13,14,15,16,17,18,19,20,21,22,23,24,25,26,27,28,29,30,31,32,33] [0,1,0,7,15,0,0,96,224,480,992,2016,4095,8191,16383,16383,65535,131071,262143,16383,540671,16383,3686399,7880703,16777215,33554431,16383,67125247,16383,469778431,1006649343,2147483647,4294967295,8589934591] [12] mixed (by decide+kernel) ?_
     refine kS (fun f' cs'=>∃(TR:Bool)(g:Fr),TR=FQ/\f'=aQ g [(1,ax.v),(5,(pz k1)),(7,v15.v),(8,(pz k13)),(9,(zi (k20:Int))),(10,(.bool TR)),(11,(zi c34))]/\aN cs' [bG ax bM,aX k1 45 (zg [(zi aR.Method),dH.v]),ah dH aR.Values,eG y7 v15 c14,aW k13 57 (zg [(zi x6.Rel),oC.v,(zi x6.Limit),(zi x6.Cost),(zi x6.Quota)]),ah oC x6.Inputs]) ?_ ?_
     · replace hF:=aaZ
       refine du ?_
       refine dM rfl .no .q4 (fun ha hp=>fe (v:=oC.v) iA.h (EN ha (.tmp rfl rfl) rfl) hp.2 rfl rfl) ?_
       refine du ?_
       refine zI hF fun x47 aD3 MQ hF=>?_
       refine Di MQ (fun tQ j52=>?_)
       refine Dl dN ?_
       refine bR ?_
       refine Di hx25 (fun k53 j54=>?_)
       refine du ?_
       refine n_ (R':=(aD 3 az)) iA.h rfl .no (.tmp rfl rfl) rfl .h Ey (fun w55=>?_)
       refine bR ?_
       refine bnd hF fun Nt RS hF=>eZ (jR RS) (fun _=>?_)
       refine du ?_
       rcases bE Nt with Sq|Sq
       · rw[Sq]
         try rw[Sq]at hF; dsimp only[aJ,aI]at hF
         refine bR ?_
         refine Di hx25 (fun yU j61=>?_)
         refine du ?_
         refine n_ (R':=(aD 3 az)) iA.h rfl (.on 60 rfl rfl rfl) (.tmp rfl rfl) rfl .h Ey (fun w62=>?_)
         refine du ?_
         refine dM rfl (.on 60 rfl rfl rfl) .q9 (fun ha hp=>fe (v:=oC.v) iA.h (EN ha (.tmp rfl rfl) rfl) hp.2 rfl rfl) ?_
         refine du ?_
         refine zI hF fun x63 aD4 acr hF=>?_
         refine Di acr (fun k67 j68=>?_)
         refine Dl dN ?_
         refine zI hF fun x69 axc Rs hF=>?_
         refine Di Rs (fun k73 j74=>?_)
         refine Dl dN ?_
         refine dm ?_
         refine zI hF fun x75 aD5 ac7 hF=>?_
         refine Di ac7 (fun k79 j80=>?_)
         refine Dl dN ?_
         exact eu hF
       rw[Sq]
       try rw[Sq]at hF; dsimp only[aJ,aI]at hF
       exact eu hF
     rintro _ _ ⟨TR,g82,rfl,rfl,hE⟩
     replace hF:=XM
     try dsimp only at hF
     refine bq hE ?_
     refine aY ?_
     exact⟨JX,bX _,_,_,_,aA,ay,hF⟩
   refine bH ?_
   refine Ci hF (fun aye hF=>?_) (fun aye hF=>?_)
   · refine jf [0,1,2,3,4,5,6,7,8,9,10,11,12,13,14] [0,0,0,6,14,30,0,0,192,448,960,2046,4094,8191,16383] [11,13] mixed (by decide+kernel) ?_
     refine dm ?_
     refine Di hx25 (fun k83 j84=>?_)
     refine du ?_
     refine Dl Bp ?_
     refine bR ?_
     refine Di hx25 (fun k85 j86=>?_)
     refine du ?_
     refine n_ (R':=(aD 3 az)) iA.h rfl .no (.tmp rfl rfl) rfl .h Ey (fun w87=>?_)
     refine bnd hF fun iT ac8 hF=>qw (Eg ac8) (fun fE=>?_)
     refine iq rfl .no rfl (fun ha=>bO (g:=true) (len:=1) (parts:=[(0,.tmp 92)]) fH.h dZ.h (.cons (EN ha (.tmp rfl rfl) rfl) .nil) (vs:=[(zg [(zi iT.Rel),fE.1.v])]) rfl rfl rfl (by intro v hv; simp at hv; rcases hv with rfl<;>rfl)) (fun k91=>?_)
     refine iR (.cons .h (.cons .h .nil)) (bQ (Ro:=gN) (E:=70) (F:=(fE.2++[])) (xs:=([iT]:List Fact)) (d_ xR bP cK) rfl rfl) ?_
     refine bnd hF fun z92 hx93 hF=>cO rfl rfl .no (.cons .q7 (.cons .h .nil)) (.dep rfl .nil) (fun ha=>dV (Ro:=gN) fH.h xS dZ.h rfl rfl rfl (EN ha (.tmp rfl rfl) rfl) (EN ha (.tmp rfl rfl) rfl) hx93 fw) (fun JV=>?_)
     refine bR ?_
     cases hF
     exact⟨_,JV.1,JV.2,_,rfl,aA,ay⟩
   refine au ?_
   cases hF
   exact⟨_,v15,y7,_,rfl,aA,ay⟩
 rintro _ _ ⟨wW,Yx,F99,ac1,rfl,rfl,hE⟩
 replace hF:=RP
 try dsimp only at hF
 refine bq hE ?_
 refine aY ?_
 rw[wk k20]
 exact⟨_,bX _,_,k20+1,lm,_,Yx,F99,rfl,aA,x9,ay,hF⟩
def FV(ai:List Method)(ak:Cache)(aR:Access)(ek:Int):List cB->Nat->Option ((List Fact)×Bool)
 |[],k24=>some (([]:List Fact),false)
 |nK::BI,k24=>((K7 ak nK ek).bind fun vY=>
     bif vY then ((NW ai nK.Access aR).bind fun wT=>
       some wT)
     else (some false)).bind fun JY=>
   match JY with
   |c49=>if c49 then (
       (Oe ai nK.Facts aR).bind fun vT=>
       some (vT,true))
     else (
       FV ai ak aR ek BI (k24+1))
def NP(ag:List Int)(ai:List Method)(ak:Cache)(aR:Access)(ek:Int):Option ((List Fact)×Bool):=
 ((Ih ag ai ak).bind fun r5=>
   bif (!r5)then (some true)
   else ((Av ag ai aR).bind fun r9=>
     bif (!r9)then (some true)
     else ((ix ai aR.Method).bind fun oq=>
       some ((oq.Limit:Int)!=0)))).bind fun o3=>
 match o3 with
 |c19=>if c19 then (
     some (([]:List Fact),false))
   else (
     FV ai ak aR ek ak.Entries 0)
theorem alg{ag:List Int}{ae:Sv}{ai:List Method}{ax:Sv}{ak:Cache}{bL:Sv}{aR:Access}{vH:Sv}{ek:Int}{R:(List Fact)×Bool}(hF:NP ag ai ak aR ek=some R):
   Fw.Spec Tryz.prog 172 [ae.v,ax.v,(zg [bL.v,(zi ak.Age)]),(zg [(zi aR.Method),vH.v]),(zi ek)] [ah ae ag,bV ax ai,dK bL ak.Entries,ah vH aR.Values] (fun p:Sv×List Nat=>(.tuple [p.1.v,(.bool R.2)].toArray)) (fun p=>[eG p.2 p.1 R.1]):=by
 refine Se 71 Tryz.func172 [.tmp 10,.tmp 11] ?_
 intro H0 F0
 unfold NP at hF
 refine au ?_
 refine bN (fun k1=>?_)
 refine bN (fun k2=>?_)
 refine bg ?_
 obtain⟨o3,vC,hO4⟩:=bind_some hF
 refine au ?_
 refine eX (fun f' cs'=>∃(c19:Bool)(g:Fr),c19=o3/\f'=aQ g [(1,ax.v),(4,(zi ek)),(7,(pz k1)),(8,(pz k2)),(33,(.bool c19))]/\aN cs' [bV ax ai,aX k1 32 (zg [bL.v,(zi ak.Age)]),dK bL ak.Entries,aX k2 45 (zg [(zi aR.Method),vH.v]),ah vH aR.Values]) ?_ ?_
 · replace hF:=vC
   refine bu ?_
   refine bnd hF fun r5 hx6 hF=>bD (Zb hx6) (fun _=>?_)
   refine aT ?_
   rcases bE (!r5)with ko|ko
   · rw[ko]
     try rw[ko]at hF; dsimp only[aJ,aI]at hF
     exact bJ hF
   rw[ko]
   try rw[ko]at hF; dsimp only[aJ,aI]at hF
   refine bH ?_
   refine bnd hF fun r9 jm hF=>bD (UG jm) (fun _=>?_)
   refine bg ?_
   rcases bE (!r9)with lC|lC
   · rw[lC]
     try rw[lC]at hF; dsimp only[aJ,aI]at hF
     exact bJ hF
   rw[lC]
   try rw[lC]at hF; dsimp only[aJ,aI]at hF
   refine bH ?_
   refine zI hF fun oq WZ hx16 hF=>?_
   refine Ai hx16 (fun k17 JC=>?_)
   refine bu ?_
   refine Al PU ?_
   exact bJ hF
 rintro _ _ ⟨c19,g60,rfl,rfl,hE⟩
 replace hF:=hO4
 try dsimp only at hF
 refine bq hE ?_
 refine Ci hF (fun ayf hF=>?_) (fun ayf hF=>?_)
 · refine au ?_
   refine dF rfl (bO (g:=true) fH.h dZ.h .nil (vs:=[]) rfl rfl rfl (by simp)) (fun k20=>?_)
   refine dP (.cons .h .nil) (bQ (Ro:=gN) (E:=70) (F:=[]) (xs:=([]:List Fact)) bP rfl rfl) ?_
   refine bg ?_
   cases hF
   exact Er (⟨(some ⟨k20,0,none⟩),0,1⟩,(k20::[]))
 refine aY ?_
 refine bi (bT (m:=ak.Entries.length) (fun m22 f' cs'=>∃(g:Fr)(k24:Nat)(BI:List cB),m22=BI.length/\f'=aQ g [(1,ax.v),(4,(zi ek)),(7,(pz k1)),(8,(pz k2)),(12,(zi (k24:Int)))]/\List.drop k24 ak.Entries=BI/\aN cs' [bV ax ai,aX k1 32 (zg [bL.v,(zi ak.Age)]),dK bL ak.Entries,aX k2 45 (zg [(zi aR.Method),vH.v]),ah vH aR.Values]/\FV ai ak aR ek BI k24=some R) ⟨_,0,_,rfl,aA,rfl,ay,hF⟩ ?_)
 rintro m22 _ _ ⟨g23,k24,BI,rfl,rfl,hd27,hE,hF⟩
 refine Kb hE ak.Entries (fun aAV=>?_)
 rcases BI with _|⟨nK,BI⟩
 · have ayg:=dn hd27
   rw[FV]at hF
   refine dL ?_
   refine dJ ?_
   refine aY ?_
   refine dF rfl (bO (g:=true) fH.h dZ.h .nil (vs:=[]) rfl rfl rfl (by simp)) (fun wS=>?_)
   refine dP (.cons .h .nil) (bQ (Ro:=gN) (E:=70) (F:=[]) (xs:=([]:List Fact)) bP rfl rfl) ?_
   refine bg ?_
   cases hF
   exact Er (⟨(some ⟨wS,0,none⟩),0,1⟩,(wS::[]))
 obtain⟨ayg,hx29,zK⟩:=dz hd27
 rw[FV]at hF
 refine dL ?_
 refine dI ?_
 refine aT ?_
 obtain⟨JY,aa0,ac9⟩:=bind_some hF
 refine dS [0,1,2,3,4,5,6,7,8,9,10,11,12,13,14,15,16,17,18] [0,0,2,0,14,30,0,127,255,511,511,1535,511,7679,15871,32255,511,131071,262143] [7,17] mixed (by decide+kernel) ?_
 refine kS (fun f' cs'=>∃(c49:Bool)(g:Fr),c49=JY/\f'=aQ g [(1,ax.v),(4,(zi ek)),(7,(pz k1)),(8,(pz k2)),(12,(zi (k24:Int))),(60,(.bool c49))]/\aN cs' [bV ax ai,aX k1 32 (zg [bL.v,(zi ak.Age)]),dK bL ak.Entries,aX k2 45 (zg [(zi aR.Method),vH.v]),ah vH aR.Values]) ?_ ?_
 · replace hF:=aa0
   refine nQ ?_
   refine Di hx29 (fun ny TM=>?_)
   refine zJ (wu nK) xk (fun p38=>?_)
   refine du ?_
   refine bnd hF fun vY tq hF=>eZ (ae9 tq) (fun _=>?_)
   refine du ?_
   rcases bE vY with qV|qV
   · rw[qV]
     try rw[qV]at hF; dsimp only[aJ,aI]at hF
     refine nQ ?_
     refine Di hx29 (fun Yu j44=>?_)
     refine du ?_
     refine jP (Pj nK) Va (fun p45=>?_)
     refine du ?_
     refine bnd hF fun wT Cw hF=>eZ (alu Cw) (fun _=>?_)
     exact eu hF
   rw[qV]
   try rw[qV]at hF; dsimp only[aJ,aI]at hF
   exact eu hF
 rintro _ _ ⟨c49,g58,rfl,rfl,hE⟩
 replace hF:=ac9
 try dsimp only at hF
 refine bq hE ?_
 refine Ci hF (fun CB hF=>?_) (fun CB hF=>?_)
 · refine dS [0,1,2,3,4,5,6,7,8,9,10] [0,0,2,0,14,30,62,0,255,511,1023] [8] mixed (by decide+kernel) ?_
   refine nQ ?_
   refine Di hx29 (fun Yn Yo=>?_)
   refine du ?_
   refine n_ (R':=(aD 70 mI)) xQ.h rfl .no (.tmp rfl rfl) rfl .h ahM (fun w52=>?_)
   refine du ?_
   refine bnd hF fun vT tu hF=>qw (alM tu) (fun p55=>?_)
   refine dm ?_
   refine au ?_
   cases hF
   exact Er (p55.1,p55.2)
 refine bB ?_
 rw[wk k24]
 exact⟨_,bX _,_,k24+1,BI,rfl,aA,zK,ay,hF⟩
def Gu(aa:Method)(kP:List Int):List Fact->Nat->(List Fact)->Option ((List Fact))
 |[],k9,c3=>some c3
 |iL::gI,k9,c3=>((LB aa kP iL).bind fun tV=>
     if tV then (
       (wy iL.Rel iL.Values).bind fun FO=>
       (app c3 ([FO]:List Fact)).bind fun z35=>
       some z35)
     else (
       some c3)).bind fun kN=>
   match kN with
   |kI=>Gu aa kP gI (k9+1) kI
def Ee(aa:Method)(kP:List Int)(bM:List Fact):Option ((List Fact)):=
 Gu aa kP bM 0 ([]:List Fact)
theorem YY{aa:Method}{aO:Sv}{kP:List Int}{ax:Sv}{bM:List Fact}{bL:Sv}{R:(List Fact)}(hF:Ee aa kP bM=some R):
   Fw.Spec Tryz.prog 32 [(zg [(zi aa.Rel),aO.v,(zi aa.Limit),(zi aa.Cost),(zi aa.Quota)]),ax.v,bL.v] [ah aO aa.Inputs,ah ax kP,bG bL bM] (fun p:Sv×List Nat=>p.1.v) (fun p=>[eG p.2 p.1 R]):=by
 refine Se 38 Tryz.func32 [.tmp 6] ?_
 intro H0 F0
 unfold Ee at hF
 refine au ?_
 refine bN (fun k1=>?_)
 refine bu ?_
 refine dF rfl (bO (g:=true) fH.h dZ.h .nil (vs:=[]) rfl rfl rfl (by simp)) (fun k2=>?_)
 refine dP (.cons .h .nil) (bQ (Ro:=gN) (E:=70) (F:=[]) (xs:=([]:List Fact)) bP rfl rfl) ?_
 refine bB ?_
 refine bi (bT (m:=bM.length) (fun m7 f' cs'=>∃(g:Fr)(k9:Nat)(gI c3:List Fact)(v4:Sv)(F5:List Nat),m7=gI.length/\f'=aQ g [(1,ax.v),(2,bL.v),(3,(pz k1)),(7,v4.v),(8,(zi (k9:Int)))]/\List.drop k9 bM=gI/\aN cs' [ah ax kP,bG bL bM,aX k1 57 (zg [(zi aa.Rel),aO.v,(zi aa.Limit),(zi aa.Cost),(zi aa.Quota)]),ah aO aa.Inputs,eG F5 v4 c3]/\Gu aa kP gI k9 c3=some R) ⟨_,0,_,_,⟨(some ⟨k2,0,none⟩),0,1⟩,(k2::[]),rfl,aA,rfl,ay,hF⟩ ?_)
 rintro m7 _ _ ⟨g8,k9,gI,c3,v4,F5,rfl,rfl,mK,hE,hF⟩
 refine Kb hE bM (fun Qh=>?_)
 rcases gI with _|⟨iL,gI⟩
 · have yo:=dn mK
   rw[Gu]at hF
   refine bH ?_
   refine dJ ?_
   refine gB ?_
   cases hF
   exact Er (v4,F5)
 obtain⟨yo,j5,qY⟩:=dz mK
 rw[Gu]at hF
 refine bH ?_
 refine dI ?_
 refine au ?_
 obtain⟨kN,uR,vD⟩:=bind_some hF
 refine iC (fun f' cs'=>∃(kI:List Fact)(v40:Sv)(JZ:List Nat)(g:Fr),kI=kN/\f'=aQ g [(1,ax.v),(2,bL.v),(3,(pz k1)),(7,v40.v),(8,(zi (k9:Int)))]/\aN cs' [ah ax kP,bG bL bM,aX k1 57 (zg [(zi aa.Rel),aO.v,(zi aa.Limit),(zi aa.Cost),(zi aa.Quota)]),ah aO aa.Inputs,eG JZ v40 kI]) ?_ ?_
 · replace hF:=uR
   refine bi (dS [0,1,2,3,4,5,6] [0,0,0,0,12,28,63] [6] mixed (by decide+kernel) ?_)
   refine nQ ?_
   refine Di j5 (fun k20 CZ=>?_)
   refine jP (lU iL) mf (fun zZ=>?_)
   refine bnd hF fun tV hx24 hF=>eZ (afT hx24) (fun _=>?_)
   refine du ?_
   refine Ci hF (fun I8 hF=>?_) (fun I8 hF=>?_)
   · refine jf [0,1,2,3,4,5,6,7,8,9,10,11,12,13,14] [0,0,0,6,14,30,0,0,192,448,960,2046,4094,8191,16383] [11,13] mixed (by decide+kernel) ?_
     refine dm ?_
     refine Di j5 (fun k26 TH=>?_)
     refine du ?_
     refine Dl Bp ?_
     refine bR ?_
     refine Di j5 (fun k28 Yl=>?_)
     refine du ?_
     refine n_ (R':=(aD 3 az)) iA.h rfl .no (.tmp rfl rfl) rfl .h Ey (fun w30=>?_)
     refine bnd hF fun FO hx32 hF=>qw (Eg hx32) (fun p33=>?_)
     refine iq rfl .no rfl (fun ha=>bO (g:=true) (len:=1) (parts:=[(0,.tmp 34)]) fH.h dZ.h (.cons (EN ha (.tmp rfl rfl) rfl) .nil) (vs:=[(zg [(zi FO.Rel),p33.1.v])]) rfl rfl rfl (by intro v hv; simp at hv; rcases hv with rfl<;>rfl)) (fun k34=>?_)
     refine iR (.cons .h (.cons .h .nil)) (bQ (Ro:=gN) (E:=70) (F:=(p33.2++[])) (xs:=([FO]:List Fact)) (d_ xR bP cK) rfl rfl) ?_
     refine bnd hF fun z35 I_ hF=>cO rfl rfl .no (.cons .q10 (.cons .h .nil)) (.dep rfl .nil) (fun ha=>dV (Ro:=gN) fH.h xS dZ.h rfl rfl rfl (EN ha (.tmp rfl rfl) rfl) (EN ha (.tmp rfl rfl) rfl) I_ fw) (fun p37=>?_)
     refine bR ?_
     cases hF
     exact⟨_,p37.1,p37.2,_,rfl,aA,ay⟩
   refine au ?_
   cases hF
   exact⟨_,v4,F5,_,rfl,aA,ay⟩
 rintro _ _ ⟨kI,v40,JZ,g43,rfl,rfl,hE⟩
 replace hF:=vD
 try dsimp only at hF
 refine bq hE ?_
 refine aY ?_
 rw[wk k9]
 exact⟨_,bX _,_,k9+1,gI,_,v40,JZ,rfl,aA,qY,ay,hF⟩
def zh(aB:Access)(aR:Access):Option (Bool):=
 (bif ((aB.Method:Int)==aR.Method)then ((LJ aB.Values aR.Values).bind fun r6=>
     some r6)
   else (some false)).bind fun o3=>
 match o3 with
 |c9=>some c9
theorem UX{aB:Access}{aO:Sv}{aR:Access}{aV:Sv}{R:Bool}(hF:zh aB aR=some R):
   Fw.Spec Tryz.prog 30 [(zg [(zi aB.Method),aO.v]),(zg [(zi aR.Method),aV.v])] [ah aO aB.Values,ah aV aR.Values] (fun _:Unit=>(.bool R)) (fun _=>[]):=by
 refine Se 17 Tryz.func30 [.tmp 4] ?_
 intro H0 F0
 unfold zh at hF
 refine au ?_
 refine bN (fun k1=>?_)
 refine bN (fun k2=>?_)
 refine aT ?_
 obtain⟨o3,vC,hO4⟩:=bind_some hF
 refine au ?_
 refine eX (fun f' cs'=>∃(c9:Bool)(g:Fr),c9=o3/\f'=aQ g [(4,(.bool c9))]/\aN cs' []) ?_ ?_
 · replace hF:=vC
   refine bB ?_
   rcases bE ((aB.Method:Int)==aR.Method)with hg5|hg5
   · rw[hg5]
     try rw[hg5]at hF; dsimp only[aJ,aI]at hF
     refine gB ?_
     refine bnd hF fun r6 hx7 hF=>bD (Zl hx7) (fun _=>?_)
     exact bJ hF
   rw[hg5]
   try rw[hg5]at hF; dsimp only[aJ,aI]at hF
   exact bJ hF
 rintro _ _ ⟨c9,g10,rfl,rfl,hE⟩
 replace hF:=hO4
 try dsimp only at hF
 refine bq hE ?_
 exact ze hF
def y9(aB:Access):List cB->Nat->Option (Int)
 |[],k6=>some (-1)
 |x8::jO,k6=>(zh x8.Access aB).bind fun ng=>
   if ng then (
     some (k6:Int))
   else (
     y9 aB jO (k6+1))
def KO(ak:Cache)(aB:Access):Option (Int):=
 y9 aB ak.Entries 0
theorem aeA{ak:Cache}{ae:Sv}{aB:Access}{aV:Sv}{R:Int}(hF:KO ak aB=some R):
   Fw.Spec Tryz.prog 22 [(zg [ae.v,(zi ak.Age)]),(zg [(zi aB.Method),aV.v])] [dK ae ak.Entries,ah aV aB.Values] (fun _:Unit=>(zi R)) (fun _=>[]):=by
 refine Se 22 Tryz.func22 [.tmp 4] ?_
 intro H0 F0
 unfold KO at hF
 refine au ?_
 refine bN (fun k1=>?_)
 refine bN (fun k2=>?_)
 refine bB ?_
 refine bi (bT (m:=ak.Entries.length) (fun m4 f' cs'=>∃(g:Fr)(k6:Nat)(jO:List cB),m4=jO.length/\f'=aQ g [(2,(pz k1)),(3,(pz k2)),(5,(zi (k6:Int)))]/\List.drop k6 ak.Entries=jO/\aN cs' [aX k1 32 (zg [ae.v,(zi ak.Age)]),dK ae ak.Entries,aX k2 45 (zg [(zi aB.Method),aV.v]),ah aV aB.Values]/\y9 aB jO k6=some R) ⟨_,0,_,rfl,aA,rfl,ay,hF⟩ ?_)
 rintro m4 _ _ ⟨g5,k6,jO,rfl,rfl,yT,hE,hF⟩
 refine Kb hE ak.Entries (fun aaK=>?_)
 rcases jO with _|⟨x8,jO⟩
 · have hk10:=dn yT
   rw[y9]at hF
   refine dL ?_
   refine dJ ?_
   exact ze hF
 obtain⟨hk10,kW,mK⟩:=dz yT
 rw[y9]at hF
 refine dL ?_
 refine dI ?_
 refine aT ?_
 refine dS [0,1,2,3,4,5,6,7] [0,1,0,7,15,31,0,127] [7] mixed (by decide+kernel) ?_
 refine dm ?_
 refine Di kW (fun k15 Ym=>?_)
 refine du ?_
 refine jP (Pj x8) Va (fun m_=>?_)
 refine du ?_
 refine bnd hF fun ng kM hF=>eZ (UX kM) (fun _=>?_)
 refine du ?_
 refine Ci hF (fun ve hF=>?_) (fun ve hF=>?_)
 · exact ze hF
 refine bB ?_
 rw[wk k6]
 exact⟨_,bX _,_,k6+1,jO,rfl,aA,mK,ay,hF⟩
def DN(ak:Cache)(aB:Access)(ek:Int)(r5:Access):List cB->Nat->(List cB)->(List Fact)->Bool->Option (Cache)
 |[],vE,c203,c206,c208=>if (!c208)then (
     (app c203 ([(⟨r5,c206,ek⟩:cB)]:List cB)).bind fun z222=>
     some (⟨z222,ak.Age⟩:Cache))
   else (
     some (⟨c203,ak.Age⟩:Cache))
 |ac_::Bh,vE,c203,c206,c208=>((H6 ac_).bind fun pJ=>
     (zh pJ.Access aB).bind fun akg=>
     if akg then (
       some (c203,c208))
     else (
       (bif (!c208)then ((Li aB pJ.Access).bind fun akh=>
           some akh)
         else (some false)).bind fun ac'=>
       match ac' with
       |Sr=>if Sr then (
           (app c203 ([(⟨r5,c206,ek⟩:cB)]:List cB)).bind fun aki=>
           (app aki ([pJ]:List cB)).bind fun akj=>
           some (akj,true))
         else (
           (app c203 ([pJ]:List cB)).bind fun akk=>
           some (akk,c208)))).bind fun ada=>
   match ada with
   |(wO,vF)=>DN ak aB ek r5 Bh (vE+1) wO c206 vF
def O4(ak:Cache)(aB:Access)(bM:List Fact)(ek:Int):Option (Cache):=
 (Au aB.Method aB.Values).bind fun r5=>
 (Lv bM).bind fun r8=>
 DN ak aB ek r5 ak.Entries 0 ([]:List cB) r8 false
theorem amX{ak:Cache}{ae:Sv}{aB:Access}{aV:Sv}{bM:List Fact}{bL:Sv}{ek:Int}{R:Cache}(hF:O4 ak aB bM ek=some R):
   Fw.Spec Tryz.prog 173 [(zg [ae.v,(zi ak.Age)]),(zg [(zi aB.Method),aV.v]),bL.v,(zi ek)] [dK ae ak.Entries,ah aV aB.Values,bG bL bM] (fun p:Sv=>(zg [p.v,(zi R.Age)])) (fun p=>[dK p R.Entries]):=by
 refine Se 72 Tryz.func173 [.cell 8 32] ?_
 intro H0 F0
 unfold O4 at hF
 refine au ?_
 refine bN (fun k1=>?_)
 refine bN (fun k2=>?_)
 refine dX (fun k3=>?_)
 refine bg ?_
 refine aP (iB oL.h rfl (vs:=[(zi ak.Age)]) b_ (cells:=[(.slice none 0 0),(zi ak.Age)]) rfl) ?_
 refine dX (fun k4=>?_)
 refine As (zg [(.slice none 0 0),(zi ak.Age)]) ?_
 refine bB ?_
 refine bnd hF fun r5 hx6 hF=>ed (.rd .q5 rfl .nil) (Ex (post':=fun p7:Sv×List Nat=>[ah p7.1 r5.Values]) (fun p7=>(.frz .h aG ay)) (bU aje.h b_ (N_ hx6))) (fun p7=>?_)
 refine au ?_
 refine bnd hF fun r8 bY hF=>gy (Zj bY) (fun gH=>?_)
 refine au ?_
 refine aP (iB qj.h rfl (vs:=[(zg [(zi r5.Method),p7.1.v]),gH.1.v,(zi ek)]) b_ (cells:=[(zi r5.Method),p7.1.v,gH.1.v,(zi ek)]) rfl) ?_
 refine dX (fun k11=>?_)
 refine As (zg [(zi r5.Method),p7.1.v,gH.1.v,(zi ek)]) ?_
 refine dL ?_
 refine bi (bT (m:=ak.Entries.length) (fun akl f' cs'=>∃(g:Fr)(vE:Nat)(Bh c203:List cB)(c206:List Fact)(c208:Bool)(Fs:Sv)(XN:List Nat)(zQ:Sv),akl=Bh.length/\f'=aQ g [(4,(pz k1)),(5,(pz k2)),(8,(pz k3)),(9,(pz k4)),(10,(pz k11)),(11,(.bool c208)),(12,(zi (vE:Int)))]/\List.drop vE ak.Entries=Bh/\aN cs' [aX k1 32 (zg [ae.v,(zi ak.Age)]),dK ae ak.Entries,aX k2 45 (zg [(zi aB.Method),aV.v]),ah aV aB.Values,aW k3 32 (zg [(.slice none 0 0),(zi 0)]),aW k4 32 (zg [Fs.v,(zi ak.Age)]),abS XN Fs c203,aW k11 47 (zg [(zi r5.Method),p7.1.v,zQ.v,(zi ek)]),ah p7.1 r5.Values,bG zQ c206]/\DN ak aB ek r5 Bh vE c203 c206 c208=some R) ⟨_,0,_,_,_,_,⟨none,0,0⟩,[],gH.1,rfl,aA,rfl,(.conv .nil (gT (Ro:=(aC oK)) (E:=47)) (.cons .nil) (.frz .q2 aG ay)),hF⟩ ?_)
 rintro akl _ _ ⟨aD6,vE,Bh,c203,c206,c208,Fs,XN,zQ,rfl,rfl,aix,hE,hF⟩
 refine Kb hE ak.Entries (fun azx=>?_)
 rcases Bh with _|⟨ac_,Bh⟩
 · have auJ:=dn aix
   rw[DN]at hF
   refine dL ?_
   refine dJ ?_
   refine gB ?_
   refine Ci hF (fun auK hF=>?_) (fun auK hF=>?_)
   · refine bg ?_
     refine dF rfl (bO (g:=true) uw.h qj.h b_ (vs:=[(zg [(zi r5.Method),p7.1.v,zQ.v,(zi ek)])]) rfl rfl rfl (by intro v hv; simp at hv; rcases hv with rfl<;>rfl)) (fun aD7=>?_)
     refine dP (.cons .h (.rd .q8 rfl (.rd .q9 rfl .nil))) (bQ (Ro:=(aC oK)) (E:=47) (F:=([]++[])) (xs:=([(⟨r5,c206,ek⟩:cB)]:List cB)) (d_ (ajk (a:=(⟨r5,c206,ek⟩:cB))) bP cK) rfl rfl) ?_
     refine bnd hF fun z222 Ql hF=>ed (.cons .q7 (.cons .h .nil)) (dV (Ro:=(aC oK)) uw.h MK qj.h rfl rfl rfl (.tmp rfl rfl) (.tmp rfl rfl) Ql fw) (fun adb=>?_)
     refine au ?_
     refine As (zg [adb.1.v,(zi ak.Age)]) ?_
     refine bu ?_
     refine As (zg [adb.1.v,(zi ak.Age)]) ?_
     refine aT ?_
     cases hF
     exact gQ adb.1 (.cellA rfl rfl .h rfl uu.h oL.h.sz rfl rfl .nil) rfl (.frz .q2 aG (.sel (.rd .h rfl .nil)))
   refine bu ?_
   refine As (zg [Fs.v,(zi ak.Age)]) ?_
   refine aT ?_
   cases hF
   exact gQ Fs (.cellA rfl rfl .h rfl uu.h oL.h.sz rfl rfl .nil) rfl (.frz .q6 aG (.sel (.rd .h rfl .nil)))
 obtain⟨auJ,auL,auM⟩:=dz aix
 rw[DN]at hF
 refine dL ?_
 refine dI ?_
 refine au ?_
 obtain⟨ada,aql,auN⟩:=bind_some hF
 refine iC (fun f' cs'=>∃(wO:List cB)(vF:Bool)(CL:Sv)(MZ:List Nat)(g:Fr),ada=(wO,vF)/\f'=aQ g [(4,(pz k1)),(5,(pz k2)),(8,(pz k3)),(9,(pz k4)),(10,(pz k11)),(11,(.bool vF)),(12,(zi (vE:Int)))]/\aN cs' [aX k1 32 (zg [ae.v,(zi ak.Age)]),dK ae ak.Entries,aX k2 45 (zg [(zi aB.Method),aV.v]),ah aV aB.Values,aW k3 32 (zg [(.slice none 0 0),(zi 0)]),aW k4 32 (zg [CL.v,(zi ak.Age)]),abS MZ CL wO,aW k11 47 (zg [(zi r5.Method),p7.1.v,zQ.v,(zi ek)]),ah p7.1 r5.Values,bG zQ c206]) ?_ ?_
 · replace hF:=aql
   refine bi (dY (aP (iY (off:=0) VL.h (.tmp rfl rfl)) ?_))
   refine aT ?_
   refine Ai auL (fun aD8 aD9=>?_)
   refine xO (wu ac_) xk (fun aD_=>?_)
   refine bnd hF fun pJ auO hF=>zV (Y7 auO) (fun qm=>?_)
   refine dX (fun akm=>?_)
   refine As (zg [(zi pJ.Access.Method),qm.1.v,qm.2.2.1.v,(zi pJ.At)]) ?_
   refine bg ?_
   refine fo .h (fun hp=>j3 (s:=2) (l:=[(zi pJ.Access.Method),qm.1.v]) u_.h kr.h.sz (.tmp rfl rfl) hp.2 rfl (by decide) (Nat.le_of_ble_eq_true rfl) rfl) ?_
   refine au ?_
   refine bnd hF fun akg auP hF=>ed (.cons (.t .h) (.rd .q8 rfl .nil)) (jT aG (fun _=>.nil) (bU awq.h b_ (UX auP))) (fun _=>?_)
   refine au ?_
   refine Ci hF (fun auQ hF=>?_) (fun auQ hF=>?_)
   · refine bu ?_
     cases hF
     exact⟨_,_,Fs,XN,_,rfl,aA,ay⟩
   refine aT ?_
   obtain⟨ac',aqm,auR⟩:=bind_some hF
   refine au ?_
   refine eX (fun f' cs'=>∃(Sr:Bool)(g:Fr),Sr=ac'/\f'=aQ g [(4,(pz k1)),(5,(pz k2)),(8,(pz k3)),(9,(pz k4)),(10,(pz k11)),(11,(.bool c208)),(12,(zi (vE:Int))),(13,(pz akm)),(50,(.bool Sr))]/\aN cs' [aX k1 32 (zg [ae.v,(zi ak.Age)]),dK ae ak.Entries,aX k2 45 (zg [(zi aB.Method),aV.v]),ah aV aB.Values,aW k3 32 (zg [(.slice none 0 0),(zi 0)]),aW k4 32 (zg [Fs.v,(zi ak.Age)]),abS XN Fs c203,aW k11 47 (zg [(zi r5.Method),p7.1.v,zQ.v,(zi ek)]),ah p7.1 r5.Values,bG zQ c206,aW akm 47 (zg [(zi pJ.Access.Method),qm.1.v,qm.2.2.1.v,(zi pJ.At)]),bI qm.2.1 qm.1 pJ.Access.Values,eG qm.2.2.2 qm.2.2.1 pJ.Facts]) ?_ ?_
   · replace hF:=aqm
     refine bu ?_
     rcases bE (!c208)with Qr|Qr
     · rw[Qr]
       try rw[Qr]at hF; dsimp only[aJ,aI]at hF
       refine aY ?_
       refine fo (.t .h) (fun hp=>j3 (s:=2) (l:=[(zi pJ.Access.Method),qm.1.v]) u_.h kr.h.sz (.tmp rfl rfl) hp.2 rfl (by decide) (Nat.le_of_ble_eq_true rfl) rfl) ?_
       refine au ?_
       refine bnd hF fun akh auS hF=>ed (.cons .h (.rd .q8 rfl .nil)) (jT aG (fun _=>.nil) (iV (.rd (.t .h) rfl (.rd .h rfl .nil)) (bU asv.h b_ (afr auS)))) (fun _=>?_)
       exact bJ hF
     rw[Qr]
     try rw[Qr]at hF; dsimp only[aJ,aI]at hF
     exact bJ hF
   rintro _ _ ⟨Sr,aD',rfl,rfl,hE⟩
   replace hF:=auR
   try dsimp only at hF
   refine bq hE ?_
   refine Ci hF (fun auT hF=>?_) (fun auT hF=>?_)
   · refine bg ?_
     refine dF rfl (bO (g:=true) uw.h qj.h b_ (vs:=[(zg [(zi r5.Method),p7.1.v,zQ.v,(zi ek)])]) rfl rfl rfl (by intro v hv; simp at hv; rcases hv with rfl<;>rfl)) (fun aEa=>?_)
     refine dP (.cons .h (.rd .q8 rfl (.rd .q9 rfl .nil))) (bQ (Ro:=(aC oK)) (E:=47) (F:=([]++[])) (xs:=([(⟨r5,c206,ek⟩:cB)]:List cB)) (d_ (ajk (a:=(⟨r5,c206,ek⟩:cB))) bP cK) rfl rfl) ?_
     refine bnd hF fun aki auU hF=>ed (.cons .q7 (.cons .h .nil)) (dV (Ro:=(aC oK)) uw.h MK qj.h rfl rfl rfl (.tmp rfl rfl) (.tmp rfl rfl) auU fw) (fun ayh=>?_)
     refine au ?_
     refine As (zg [ayh.1.v,(zi ak.Age)]) ?_
     refine dL ?_
     refine dF rfl (bO (g:=true) uw.h qj.h b_ (vs:=[(zg [(zi pJ.Access.Method),qm.1.v,qm.2.2.1.v,(zi pJ.At)])]) rfl rfl rfl (by intro v hv; simp at hv; rcases hv with rfl<;>rfl)) (fun aEb=>?_)
     refine dP (.cons .h (.cons .q11 (.cons .q11 .nil))) (bQ (Ro:=qM) (E:=47) (F:=((qm.2.1++qm.2.2.2)++[])) (xs:=([pJ]:List cB)) (d_ WS bP cK) rfl rfl) ?_
     refine ah4 .h aG ?_
     refine bnd hF fun akj auV hF=>ed (.cons .q2 (.rd .h rfl .nil)) (dV (Ro:=(aC oK)) uw.h MK qj.h rfl rfl rfl (.tmp rfl rfl) (.tmp rfl rfl) auV mg) (fun adc=>?_)
     refine au ?_
     refine As (zg [adc.1.v,(zi ak.Age)]) ?_
     refine au ?_
     cases hF
     exact⟨_,_,adc.1,adc.2,_,rfl,aA,ay⟩
   refine aY ?_
   refine dF rfl (bO (g:=true) uw.h qj.h b_ (vs:=[(zg [(zi pJ.Access.Method),qm.1.v,qm.2.2.1.v,(zi pJ.At)])]) rfl rfl rfl (by intro v hv; simp at hv; rcases hv with rfl<;>rfl)) (fun aEc=>?_)
   refine dP (.cons .h (.cons .q11 (.cons .q11 .nil))) (bQ (Ro:=qM) (E:=47) (F:=((qm.2.1++qm.2.2.2)++[])) (xs:=([pJ]:List cB)) (d_ WS bP cK) rfl rfl) ?_
   refine ah4 .h aG ?_
   refine bnd hF fun akk hx255 hF=>ed (.cons .q7 (.rd .h rfl .nil)) (dV (Ro:=(aC oK)) uw.h MK qj.h rfl rfl rfl (.tmp rfl rfl) (.tmp rfl rfl) hx255 mg) (fun ade=>?_)
   refine au ?_
   refine As (zg [ade.1.v,(zi ak.Age)]) ?_
   refine au ?_
   cases hF
   exact⟨_,_,ade.1,ade.2,_,rfl,aA,ay⟩
 rintro _ _ ⟨wO,vF,CL,MZ,axD,rfl,rfl,hE⟩
 replace hF:=auN
 try dsimp only at hF
 refine bq hE ?_
 refine aY ?_
 rw[wk vE]
 exact⟨_,bX _,_,vE+1,Bh,_,_,_,CL,MZ,zQ,rfl,aA,auM,ay,hF⟩
def Dt(jw:Atom)(mF:List bz)(lK:bz)(mG:(List Fact))(ui:List Access)(zt:Cache):List Fact->Nat->(List Fact)->Option ((List Access)×(List Fact)×(List cB)×Int×(List bz))
 |[],BX,EF=>(Ay ([lK]:List bz) jw mG).bind fun aiy=>
   (app mF aiy).bind fun aiz=>
   some (ui,EF,zt.Entries,zt.Age,aiz)
 |V_::AQ,BX,EF=>(xn EF V_).bind fun aiA=>
   Dt jw mF lK mG ui zt AQ (BX+1) aiA
def Du(jw:Atom)(mU:List cB)(nO:Int)(mF:List bz)(lK:bz)(mG:(List Fact))(ui:List Access):List Fact->Nat->(List Fact)->Option ((List Access)×(List Fact)×(List cB)×Int×(List bz))
 |[],BZ,EG=>(Ay ([lK]:List bz) jw mG).bind fun aiB=>
   (app mF aiB).bind fun aiC=>
   some (ui,EG,mU,nO,aiC)
 |Wd::AR,BZ,EG=>(xn EG Wd).bind fun aiD=>
   Du jw mU nO mF lK mG ui AR (BZ+1) aiD
def Dv(jw:Atom)(uS:List Access)(mU:List cB)(nO:Int)(mF:List bz)(lK:bz)(uT:(List Fact)×Bool):List Fact->Nat->(List Fact)->Option ((List Access)×(List Fact)×(List cB)×Int×(List bz))
 |[],B_,EH=>(Ay ([lK]:List bz) jw uT.1).bind fun aiE=>
   (app mF aiE).bind fun aiF=>
   some (uS,EH,mU,nO,aiF)
 |We::AU,B_,EH=>(xn EH We).bind fun aiG=>
   Dv jw uS mU nO mF lK uT AU (B_+1) aiG
def Gn(ag:List Int)(ai:List Method)(bM:List Fact)(ek:Int)(og:Step)(jw:Atom):List bz->Nat->(List Access)->(List Fact)->(List cB)->Int->(List bz)->Option ((List Access)×(List Fact)×(List cB)×Int×(List bz))
 |[],uj,uS,zu,mU,nO,mF=>some (uS,zu,mU,nO,mF)
 |lK::AV,uj,uS,zu,mU,nO,mF=>((ix ai og.Method).bind fun Wh=>
     (ZA Wh jw lK).bind fun zw=>
     (NP ag ai (⟨mU,nO⟩:Cache) (⟨og.Method,zw⟩:Access) ek).bind fun uT=>
     if (!uT.2)then (
       (ix ai og.Method).bind fun aa1=>
       (Ee aa1 zw bM).bind fun mG=>
       (app uS ([(⟨og.Method,zw⟩:Access)]:List Access)).bind fun ui=>
       (bif (decide (((mU.length:Int):Int)<100))then (some true)
         else ((KO (⟨mU,nO⟩:Cache) (⟨og.Method,zw⟩:Access)).bind fun aiH=>
           some (decide ((0:Int)<=aiH)))).bind fun aa2=>
       match aa2 with
       |Qs=>if Qs then (
           (O4 (⟨mU,nO⟩:Cache) (⟨og.Method,zw⟩:Access) mG ek).bind fun zt=>
           Dt jw mF lK mG ui zt mG 0 zu)
         else (
           Du jw mU nO mF lK mG ui mG 0 zu))
     else (
       Dv jw uS mU nO mF lK uT uT.1 0 zu)).bind fun Md=>
   match Md with
   |(Qt,Qu,Qv,Qw,Qx)=>Gn ag ai bM ek og jw AV (uj+1) Qt Qu Qv Qw Qx
def Dx(ag:List Int)(ai:List Method)(aK:Query)(bM:List Fact)(ek:Int):List Step->Nat->(List Access)->(List Fact)->(List cB)->Int->(List bz)->Option (Run×Cache)
 |[],rP,Cb,IQ,IR,Ce,qI=>(U6 aK qI).bind fun aiI=>
   (Pp ai Cb).bind fun Qy=>
   some ((⟨aiI,Cb,IQ,Qy⟩:Run),(⟨IR,Ce⟩:Cache))
 |og::AX,rP,Cb,IQ,IR,Ce,qI=>((ix aK.Atoms og.Atom).bind fun jw=>
     Gn ag ai bM ek og jw qI 0 Cb IQ IR Ce ([]:List bz)).bind fun Wi=>
   match Wi with
   |(Qz,QA,QB,QC,QD)=>Dx ag ai aK bM ek AX (rP+1) Qz QA QB QC QD
def OI(ag:List Int)(ai:List Method)(aK:Query)(dW:List Step)(bM:List Fact)(ak:Cache)(ek:Int):Option (Run×Cache):=
 (Pk ak).bind fun r6=>
 ((Po ag ai aK dW).bind fun dC=>
   bif (!dC)then (some true)
   else ((Vb ai dW).bind fun r16=>
     bif (!r16)then (some true)
     else ((H9 ag bM).bind fun jM=>
       bif (!jM)then (some true)
       else ((Ih ag ai ak).bind fun CY=>
         bif (!CY)then (some true)
         else ((iO ek 0 10000).bind fun JW=>
           some (!JW)))))).bind fun o10=>
 match o10 with
 |c31=>if c31 then (
     some ((⟨[],[],[],0⟩:Run),r6))
   else (
     Dx ag ai aK bM ek dW 0 ([]:List Access) ([]:List Fact) r6.Entries r6.Age ([(⟨[],[]⟩:bz)]:List bz))
theorem amo{ag:List Int}{ae:Sv}{ai:List Method}{ax:Sv}{aK:Query}{bL dH:Sv}{dW:List Step}{ic:Sv}{bM:List Fact}{kG:Sv}{ak:Cache}{akn:Sv}{ek:Int}{R:Run×Cache}(hF:OI ag ai aK dW bM ak ek=some R):
   Fw.Spec Tryz.prog 139 [ae.v,ax.v,(zg [bL.v,dH.v]),ic.v,kG.v,(zg [akn.v,(zi ak.Age)]),(zi ek)] [ah ae ag,bV ax ai,ah bL aK.Head,eQ dH aK.Atoms,iF ic dW,bG kG bM,dK akn ak.Entries] (fun p:Sv×List Nat×Sv×Sv×List Nat×Sv=>(.tuple [(zg [p.1.v,p.2.2.1.v,p.2.2.2.1.v,(zi R.1.Cost)]),(zg [p.2.2.2.2.2.v,(zi R.2.Age)])].toArray)) (fun p=>[aU (aF 24 (aF 3 (aC az))) p.2.1 p.1.v R.1.Answers,eD p.2.2.1 R.1.Log,eG p.2.2.2.2.1 p.2.2.2.1 R.1.Got,dK p.2.2.2.2.2 R.2.Entries]):=by
 refine Se 183 Tryz.func139 [.cell 14 154,.cell 15 32] ?_
 intro H0 F0
 unfold OI at hF
 refine au ?_
 refine bN (fun k1=>?_)
 refine bN (fun k2=>?_)
 refine dX (fun k3=>?_)
 refine dX (fun k4=>?_)
 refine aT ?_
 refine aP (iB IM.h rfl (vs:=[]) .nil (cells:=[(.slice none 0 0),(.slice none 0 0),(.slice none 0 0),(zi 0)]) rfl) ?_
 refine dX (fun k5=>?_)
 refine As (zg [(.slice none 0 0),(.slice none 0 0),(.slice none 0 0),(zi 0)]) ?_
 refine bu ?_
 refine bnd hF fun r6 hx7 hF=>gy (afq hx7) (fun p8=>?_)
 refine dX (fun k9=>?_)
 refine As (zg [p8.1.v,(zi r6.Age)]) ?_
 refine aT ?_
 obtain⟨o10,auW,ayi⟩:=bind_some hF
 refine au ?_
 refine eX (fun f' cs'=>∃(c31:Bool)(g:Fr),c31=o10/\f'=aQ g [(0,ae.v),(1,ax.v),(3,ic.v),(4,kG.v),(6,(zi ek)),(9,(pz k1)),(14,(pz k3)),(15,(pz k4)),(16,(pz k5)),(17,(pz k9)),(59,(.bool c31))]/\aN cs' [ah ae ag,bV ax ai,iF ic dW,bG kG bM,aX k1 120 (zg [bL.v,dH.v]),ah bL aK.Head,eQ dH aK.Atoms,aW k3 154 (zg [(.slice none 0 0),(.slice none 0 0),(.slice none 0 0),(zi 0)]),aW k4 32 (zg [(.slice none 0 0),(zi 0)]),aW k5 154 (zg [(.slice none 0 0),(.slice none 0 0),(.slice none 0 0),(zi 0)]),aW k9 32 (zg [p8.1.v,(zi r6.Age)]),ol p8.2 p8.1 r6.Entries]) ?_ ?_
 · replace hF:=auW
   refine bg ?_
   refine bnd hF fun dC iH hF=>bD (anw iH) (fun _=>?_)
   refine aT ?_
   rcases bE (!dC)with jo|jo
   · rw[jo]
     try rw[jo]at hF; dsimp only[aJ,aI]at hF
     exact bJ hF
   rw[jo]
   try rw[jo]at hF; dsimp only[aJ,aI]at hF
   refine aY ?_
   refine bnd hF fun r16 jF hF=>bD (anx jF) (fun _=>?_)
   refine bg ?_
   rcases bE (!r16)with iK|iK
   · rw[iK]
     try rw[iK]at hF; dsimp only[aJ,aI]at hF
     exact bJ hF
   rw[iK]
   try rw[iK]at hF; dsimp only[aJ,aI]at hF
   refine aY ?_
   refine bnd hF fun jM lv hF=>bD (UF lv) (fun _=>?_)
   refine bg ?_
   rcases bE (!jM)with j6|j6
   · rw[j6]
     try rw[j6]at hF; dsimp only[aJ,aI]at hF
     exact bJ hF
   rw[j6]
   try rw[j6]at hF; dsimp only[aJ,aI]at hF
   refine bH ?_
   refine bnd hF fun CY hx25 hF=>bD (Zb hx25) (fun _=>?_)
   refine bg ?_
   rcases bE (!CY)with Su|Su
   · rw[Su]
     try rw[Su]at hF; dsimp only[aJ,aI]at hF
     exact bJ hF
   rw[Su]
   try rw[Su]at hF; dsimp only[aJ,aI]at hF
   refine bu ?_
   refine bnd hF fun JW hx29 hF=>bD (jR hx29) (fun _=>?_)
   exact bJ hF
 rintro _ _ ⟨c31,aAW,rfl,rfl,hE⟩
 replace hF:=ayi
 try dsimp only at hF
 refine bq hE ?_
 refine Ci hF (fun aqn hF=>?_) (fun aqn hF=>?_)
 · refine dS [0,1,2,3] [0,0,1,7] [2,3] mixed (by decide+kernel) ?_
   refine dM rfl .no .q9 (fun ha hp=>h_ V7.h IM.h.sz rfl (EN ha (.tmp rfl rfl) rfl) hp.2 rfl) ?_
   refine dM rfl .no .q10 (fun ha hp=>h_ uu.h oL.h.sz rfl (EN ha (.tmp rfl rfl) rfl) hp.2 rfl) ?_
   refine cO rfl rfl .no (.cons .q7 .nil) (.own .q9 (fun _ h=>h) (.dep rfl .nil)) (fun ha=>gz (e':=(zg [(.slice none 0 0),(.slice none 0 0),(.slice none 0 0),(zi 0)])) (v:=(zg [(.slice none 0 0),(.slice none 0 0),(.slice none 0 0),(zi 0)])) IM.h.sz (EN ha (.tmp rfl rfl) rfl) (EN ha (.tmp rfl rfl) rfl) rfl rfl rfl rfl rfl) (fun _=>?_)
   refine cO rfl rfl .no (.cons .q8 .nil) (.dep rfl (.dep rfl .nil)) (fun ha=>gz (e':=(zg [p8.1.v,(zi r6.Age)])) (v:=(zg [p8.1.v,(zi r6.Age)])) oL.h.sz (EN ha (.tmp rfl rfl) rfl) (EN ha (.tmp rfl rfl) rfl) rfl rfl rfl rfl rfl) (fun _=>?_)
   refine du ?_
   refine au ?_
   cases hF
   exact gQ (⟨none,0,0⟩,[],⟨none,0,0⟩,⟨none,0,0⟩,[],p8.1) (.cellA rfl rfl (.t .h) rfl V7.h IM.h.sz rfl rfl (.cellA rfl rfl .h rfl uu.h oL.h.sz rfl rfl .nil)) rfl (.conv .nil (gT (Ro:=(aF 3 (aC az))) (E:=24)) (.cons .nil) (.conv .nil (PM (R:=qN) (E:=45)) (.cons .nil) (.conv .nil (gT (Ro:=gN) (E:=70)) (.cons .nil) (.frz .q14 aG (.sel (.cons .q3 (.rd .q2 rfl (.cons (.t .h) (.rd .h rfl .nil)))))))))
 refine aT ?_
 refine aP (iB iI.h rfl (vs:=[]) .nil (cells:=[(.slice none 0 0),(.slice none 0 0)]) rfl) ?_
 refine dF rfl (bO (g:=true) wD.h iI.h b_ (vs:=[(.agg ([(.slice none 0 0),(.slice none 0 0)]:List Value).toArray)]) rfl rfl rfl (by intro v hv; simp at hv; rcases hv with rfl<;>rfl)) (fun Tv=>?_)
 iterate 2 refine LX .nil (gT (Ro:=(aC az)) (E:=3)) cK ?_
 refine dP (.cons .q2 (.cons (.t .h) (.cons .h .nil))) (bQ (Ro:=rM) (E:=183) (F:=(([]++[])++[])) (xs:=([(⟨[],[]⟩:bz)]:List bz)) (d_ (aaC (v0:=⟨none,0,0⟩) (v1:=⟨none,0,0⟩) (a:=(⟨[],[]⟩:bz))) bP cK) rfl rfl) ?_
 refine bB ?_
 refine bi (bT (m:=dW.length) (fun aiJ f' cs'=>∃(g:Fr)(rP:Nat)(AX:List Step)(Cb:List Access)(IQ:List Fact)(IR:List cB)(Ce:Int)(qI:List bz)(zy:Sv)(aa3:List Nat)(Cf:Sv)(Wj:List Nat)(IU rQ:Sv)(aiK:List Nat),aiJ=AX.length/\f'=aQ g [(0,ae.v),(1,ax.v),(3,ic.v),(4,kG.v),(6,(zi ek)),(9,(pz k1)),(14,(pz k3)),(15,(pz k4)),(16,(pz k5)),(17,(pz k9)),(18,rQ.v),(19,(zi (rP:Int)))]/\List.drop rP dW=AX/\aN cs' [ah ae ag,bV ax ai,iF ic dW,bG kG bM,aX k1 120 (zg [bL.v,dH.v]),ah bL aK.Head,eQ dH aK.Atoms,aW k3 154 (zg [(.slice none 0 0),(.slice none 0 0),(.slice none 0 0),(zi 0)]),aW k4 32 (zg [(.slice none 0 0),(zi 0)]),aW k5 154 (zg [(.slice none 0 0),zy.v,Cf.v,(zi 0)]),ER aa3 zy Cb,eG Wj Cf IQ,aW k9 32 (zg [IU.v,(zi Ce)]),dK IU IR,sS aiK rQ qI]/\Dx ag ai aK bM ek AX rP Cb IQ IR Ce qI=some R) ⟨_,0,_,_,_,_,_,_,⟨none,0,0⟩,[],⟨none,0,0⟩,[],p8.1,⟨(some ⟨Tv,0,none⟩),1,1⟩,(Tv::(([]++[])++[])),rfl,aA,rfl,(.conv .nil (gT (Ro:=(aC qN)) (E:=45)) (.cons .nil) (.conv .nil (gT (Ro:=gN) (E:=70)) (.cons .nil) (.frz .q14 aG ay))),hF⟩ ?_)
 rintro aiJ _ _ ⟨aAX,rP,AX,Cb,IQ,IR,Ce,qI,zy,aa3,Cf,Wj,IU,rQ,aiK,rfl,rfl,ahN,hE,hF⟩
 refine Kb hE dW (fun ay5=>?_)
 rcases AX with _|⟨og,AX⟩
 · have aqo:=dn ahN
   rw[Dx]at hF
   refine bH ?_
   refine dJ ?_
   refine bH ?_
   refine bnd hF fun aiI aqp hF=>uq (.cons .q14 (.rd .q5 rfl (.rd .q6 rfl .nil))) (jT aG (fun _=>(.cons .nil)) (iV (.rd (.t .h) rfl (.rd .q2 rfl (.rd .h rfl .nil))) (bU asL.h b_ (@amV aK bL dH qI rQ _ aqp)))) (fun Me=>?_)
   refine au ?_
   refine As (zg [Me.1.v,zy.v,Cf.v,(zi 0)]) ?_
   refine aY ?_
   refine bnd hF fun Qy aqr hF=>ed (.cons .q12 (.rd .q4 rfl .nil)) (jT aG (fun _=>.nil) (iV (.rd (.t .h) rfl (.rd .h rfl .nil)) (bU awm.h b_ (@afu ai ax Cb zy _ aqr)))) (fun _=>?_)
   refine au ?_
   refine As (zg [Me.1.v,zy.v,Cf.v,(zi Qy)]) ?_
   refine au ?_
   refine dS [0,1,2,3] [0,0,1,7] [2,3] mixed (by decide+kernel) ?_
   refine dM rfl .no .h (fun ha hp=>h_ V7.h IM.h.sz rfl (EN ha (.tmp rfl rfl) rfl) hp.2 rfl) ?_
   refine dM rfl .no .q14 (fun ha hp=>h_ uu.h oL.h.sz rfl (EN ha (.tmp rfl rfl) rfl) hp.2 rfl) ?_
   refine cO rfl rfl .no (.cons .q11 .nil) (.own .q13 (fun _ h=>h) (.dep rfl .nil)) (fun ha=>gz (e':=(zg [Me.1.v,zy.v,Cf.v,(zi Qy)])) (v:=(zg [Me.1.v,zy.v,Cf.v,(zi Qy)])) IM.h.sz (EN ha (.tmp rfl rfl) rfl) (EN ha (.tmp rfl rfl) rfl) rfl rfl rfl rfl rfl) (fun _=>?_)
   refine cO rfl rfl .no (.cons .q12 .nil) (.dep rfl (.dep rfl .nil)) (fun ha=>gz (e':=(zg [IU.v,(zi Ce)])) (v:=(zg [IU.v,(zi Ce)])) oL.h.sz (EN ha (.tmp rfl rfl) rfl) (EN ha (.tmp rfl rfl) rfl) rfl rfl rfl rfl rfl) (fun _=>?_)
   refine du ?_
   refine au ?_
   cases hF
   exact gQ (Me.1,Me.2,zy,Cf,Wj,IU) (.cellA rfl rfl (.t .h) rfl V7.h IM.h.sz rfl rfl (.cellA rfl rfl .h rfl uu.h oL.h.sz rfl rfl .nil)) rfl (.frz .q3 aG (.sel (.cons .q5 (.rd .h rfl (.cons .q12 (.rd .q13 rfl .nil))))))
 obtain⟨aqo,aao,aqs⟩:=dz ahN
 rw[Dx]at hF
 refine bH ?_
 refine dI ?_
 refine au ?_
 obtain⟨Wi,aps,aqt⟩:=bind_some hF
 refine iC (fun f' cs'=>∃(Qz:List Access)(QA:List Fact)(QB:List cB)(QC:Int)(QD:List bz)(Wl:Sv)(aa4:List Nat)(Wm:Sv)(aa5:List Nat)(Wn Wo:Sv)(aa6:List Nat)(g:Fr),Wi=(Qz,QA,QB,QC,QD)/\f'=aQ g [(0,ae.v),(1,ax.v),(3,ic.v),(4,kG.v),(6,(zi ek)),(9,(pz k1)),(14,(pz k3)),(15,(pz k4)),(16,(pz k5)),(17,(pz k9)),(18,Wo.v),(19,(zi (rP:Int)))]/\aN cs' [ah ae ag,bV ax ai,iF ic dW,bG kG bM,aX k1 120 (zg [bL.v,dH.v]),ah bL aK.Head,eQ dH aK.Atoms,aW k3 154 (zg [(.slice none 0 0),(.slice none 0 0),(.slice none 0 0),(zi 0)]),aW k4 32 (zg [(.slice none 0 0),(zi 0)]),aW k5 154 (zg [(.slice none 0 0),Wl.v,Wm.v,(zi 0)]),ER aa4 Wl Qz,eG aa5 Wm QA,aW k9 32 (zg [Wn.v,(zi QC)]),dK Wn QB,sS aa6 Wo QD]) ?_ ?_
 · replace hF:=aps
   refine bi (dY (dF rfl (bO (g:=true) wD.h iI.h .nil (vs:=[]) rfl rfl rfl (by simp)) (fun aiL=>?_)))
   refine dP (.cons .h .nil) (bQ (Ro:=rM) (E:=183) (F:=[]) (xs:=([]:List bz)) bP rfl rfl) ?_
   refine aT ?_
   refine dS [0,1,2,3,4,5,6,7,8,9,10] [0,1,0,0,12,28,60,127,255,0,1023] [10] mixed (by decide+kernel) ?_
   refine nQ ?_
   refine Di aao (fun aAY aAZ=>?_)
   refine du ?_
   refine Dl Iz ?_
   refine zI hF fun jw azy aqu hF=>?_
   refine Di aqu (fun aA0 aA1=>?_)
   refine jP (D9 jw) Hl (fun qf=>?_)
   refine iq rfl .no rfl (fun ha=>sF (g:=true) qG.h rfl rfl) (fun wE=>?_)
   refine cO rfl rfl .no (.cons .h .nil) (.dep rfl .nil) (fun ha=>gz (e':=(zg [(zi jw.Rel),qf.v])) (v:=(zg [(zi jw.Rel),qf.v])) qG.h.sz (EN ha (.tmp rfl rfl) rfl) (EN ha (.tmp rfl rfl) rfl) rfl rfl rfl rfl rfl) (fun _=>?_)
   refine du ?_
   refine bg ?_
   refine bi (iD (.t (.t (.t (.t (.t (.t (.t (.t (.t (.t (.t (.t (.t (.t (.t (.t (.t (.t (.t .h))))))))))))))))))) aG ?_)
   refine bT (m:=qI.length) (fun aiM f' cs'=>∃(g:Fr)(uj:Nat)(AV:List bz)(uS:List Access)(zu:List Fact)(mU:List cB)(nO:Int)(mF:List bz)(EI:Sv)(QE:List Nat)(zz:Sv)(IV:List Nat)(wF wG:Sv)(IW:List Nat),aiM=AV.length/\f'=aQ g [(0,ae.v),(1,ax.v),(3,ic.v),(4,kG.v),(6,(zi ek)),(9,(pz k1)),(14,(pz k3)),(15,(pz k4)),(16,(pz k5)),(17,(pz k9)),(18,rQ.v),(19,(zi (rP:Int))),(20,wG.v),(21,(pz wE)),(22,(zi (uj:Int)))]/\List.drop uj qI=AV/\aN cs' [ah ae ag,bV ax ai,iF ic dW,bG kG bM,aX k1 120 (zg [bL.v,dH.v]),ah bL aK.Head,eQ dH aK.Atoms,aW k3 154 (zg [(.slice none 0 0),(.slice none 0 0),(.slice none 0 0),(zi 0)]),aW k4 32 (zg [(.slice none 0 0),(zi 0)]),aW k5 154 (zg [(.slice none 0 0),EI.v,zz.v,(zi 0)]),ER QE EI uS,eG IV zz zu,aW k9 32 (zg [wF.v,(zi nO)]),dK wF mU,rO rQ qI,sS IW wG mF,aW wE 159 (zg [(zi jw.Rel),qf.v]),ah qf jw.Terms]/\Gn ag ai bM ek og jw AV uj uS zu mU nO mF=some Wi) ⟨_,0,_,_,_,_,_,_,zy,aa3,Cf,Wj,IU,⟨(some ⟨aiL,0,none⟩),0,1⟩,(aiL::[]),rfl,aA,rfl,ay,hF⟩ ?_
   rintro aiM _ _ ⟨aA2,uj,AV,uS,zu,mU,nO,mF,EI,QE,zz,IV,wF,wG,IW,rfl,rfl,ahO,hE,hF⟩
   refine Kb hE qI (fun ay6=>?_)
   rcases AV with _|⟨lK,AV⟩
   · have aqv:=dn ahO
     rw[Gn]at hF
     refine bH ?_
     refine dJ ?_
     refine dL ?_
     cases hF
     exact⟨_,_,_,_,_,EI,QE,zz,IV,wF,wG,IW,_,rfl,aA,ay⟩
   obtain⟨aqv,VM,aqw⟩:=dz ahO
   rw[Gn]at hF
   refine bH ?_
   refine dI ?_
   refine au ?_
   obtain⟨Md,apt,aqx⟩:=bind_some hF
   refine iC (fun f' cs'=>∃(Qt:List Access)(Qu:List Fact)(Qv:List cB)(Qw:Int)(Qx:List bz)(Wp:Sv)(aa7:List Nat)(Wq:Sv)(aa8:List Nat)(Ws Wu:Sv)(aa9:List Nat)(g:Fr),Md=(Qt,Qu,Qv,Qw,Qx)/\f'=aQ g [(0,ae.v),(1,ax.v),(3,ic.v),(4,kG.v),(6,(zi ek)),(9,(pz k1)),(14,(pz k3)),(15,(pz k4)),(16,(pz k5)),(17,(pz k9)),(18,rQ.v),(19,(zi (rP:Int))),(20,Wu.v),(21,(pz wE)),(22,(zi (uj:Int)))]/\aN cs' [ah ae ag,bV ax ai,iF ic dW,bG kG bM,aX k1 120 (zg [bL.v,dH.v]),ah bL aK.Head,eQ dH aK.Atoms,aW k3 154 (zg [(.slice none 0 0),(.slice none 0 0),(.slice none 0 0),(zi 0)]),aW k4 32 (zg [(.slice none 0 0),(zi 0)]),aW k5 154 (zg [(.slice none 0 0),Wp.v,Wq.v,(zi 0)]),ER aa7 Wp Qt,eG aa8 Wq Qu,aW k9 32 (zg [Ws.v,(zi Qw)]),dK Ws Qv,rO rQ qI,sS aa9 Wu Qx,aW wE 159 (zg [(zi jw.Rel),qf.v]),ah qf jw.Terms]) ?_ ?_
   · replace hF:=apt
     refine bi (dS [0,1,2,3,4,5,6,7,8,9,10,11,12,13,14,15,16,17,20,18,19,21] [0,0,3,7,15,0,0,0,192,448,960,2016,4064,0,0,0,49152,114688,262112,524287,0,2097151] [18,21] mixed (by decide+kernel) ?_)
     refine bR ?_
     refine Di aao (fun aA3 aA4=>?_)
     refine du ?_
     refine Dl A7 ?_
     refine dm ?_
     refine Di aao (fun aA5 aA6=>?_)
     refine du ?_
     refine Dl A7 ?_
     refine zI hF fun Wh azz aqy hF=>?_
     refine Di aqy (fun aA7 aA8=>?_)
     refine jP (uf Wh) uH (fun auX=>?_)
     refine dM rfl .no (.t (.t (.t (.t (.t (.t (.t (.t (.t (.t (.t (.t (.t (.t (.t (.t (.t (.t (.t (.t .h)))))))))))))))))))) (fun ha hp=>h_ VX.h qG.h.sz rfl (EN ha (.tmp rfl rfl) rfl) hp.2 rfl) ?_
     refine bR ?_
     refine Di VM (fun aA9 aA_=>?_)
     refine zJ (Ap lK) D_ (fun aiN=>?_)
     refine iq rfl .no rfl (fun ha=>sF (g:=true) kr.h rfl rfl) (fun aiO=>?_)
     refine bnd hF fun zw aqz hF=>cO rfl rfl .no (.rd .q4 rfl (.rd (.t (.t (.t (.t (.t (.t (.t (.t (.t (.t (.t (.t (.t (.t (.t (.t (.t (.t (.t (.t (.t (.t (.t (.t (.t .h))))))))))))))))))))))))) rfl (.rd (.t .h) rfl (.rd .q2 rfl .nil)))) (.own .h (fun _ h=>h) (.dep rfl .nil)) (fun ha=>Ex (post':=fun xD:Sv×List Nat=>[ah xD.1 zw]) (fun xD=>(.frz .h aG ay)) (bU asN.h (.cons (EN ha (.tmp rfl rfl) rfl) (.cons (EN ha (.tmp rfl rfl) rfl) (.cons (EN ha (.tmp rfl rfl) rfl) .nil))) (@amW Wh auX jw qf lK aiN.1 aiN.2 _ aqz))) (fun xD=>?_)
     refine bW rfl .no (fun ha=>iB kr.h rfl (vs:=[(zi og.Method),xD.1.v]) (.cons (EN ha (.tmp rfl rfl) rfl) (.cons (EN ha (.tmp rfl rfl) rfl) .nil)) (cells:=[(zi og.Method),xD.1.v]) rfl) ?_
     refine cO rfl rfl .no (.cons (.t .h) .nil) (.dep rfl (.dep rfl .nil)) (fun ha=>gz (e':=(zg [(zi og.Method),xD.1.v])) (v:=(zg [(zi og.Method),xD.1.v])) kr.h.sz (EN ha (.tmp rfl rfl) rfl) (EN ha (.tmp rfl rfl) rfl) rfl rfl rfl rfl rfl) (fun _=>?_)
     refine du ?_
     refine bB ?_
     refine bnd hF fun uT aqA hF=>gy (alg aqA) (fun aa_=>?_)
     refine au ?_
     refine zx ?_
     refine zx ?_
     refine dL ?_
     refine Ci hF (fun aqB hF=>?_) (fun aqB hF=>?_)
     · refine dS [0,1,2,3,4,5,6,7,8,9] [0,0,2,7,15,0,32,0,255,511] [8] mixed (by decide+kernel) ?_
       refine bR ?_
       refine dM rfl .no (.t .h) (fun ha hp=>fe (v:=(zi og.Method)) pU.h (EN ha (.tmp rfl rfl) rfl) hp.2 rfl rfl) ?_
       refine zI hF fun aa1 azA aqC hF=>?_
       refine Di aqC (fun aA' aBa=>?_)
       refine jP (uf aa1) uH (fun aBb=>?_)
       refine du ?_
       refine dM rfl .no .q3 (fun ha hp=>fe (v:=xD.1.v) iA.h (EN ha (.tmp rfl rfl) rfl) hp.2 rfl rfl) ?_
       refine du ?_
       refine bnd hF fun mG aqD hF=>qw (YY aqD) (fun Cg=>?_)
       refine bR ?_
       refine bg ?_
       refine dF rfl (bO (g:=true) pF.h kr.h b_ (vs:=[(zg [(zi og.Method),xD.1.v])]) rfl rfl rfl (by intro v hv; simp at hv; rcases hv with rfl<;>rfl)) (fun aBc=>?_)
       refine dP (.cons .h (.rd .q5 rfl .nil)) (bQ (Ro:=(aC qN)) (E:=45) (F:=([]++[])) (xs:=([(⟨og.Method,zw⟩:Access)]:List Access)) (d_ (awr (a:=(⟨og.Method,zw⟩:Access))) bP cK) rfl rfl) ?_
       refine bnd hF fun ui aqE hF=>ed (.cons (.t (.t (.t (.t (.t (.t (.t (.t (.t (.t (.t (.t (.t (.t (.t (.t (.t (.t (.t (.t (.t (.t (.t (.t .h)))))))))))))))))))))))) (.cons .h .nil)) (dV (Ro:=(aC qN)) pF.h Q3 kr.h rfl rfl rfl (.tmp rfl rfl) (.tmp rfl rfl) aqE fw) (fun rR=>?_)
       refine au ?_
       refine As (zg [(.slice none 0 0),rR.1.v,zz.v,(zi 0)]) ?_
       refine au ?_
       obtain⟨aa2,apu,aqF⟩:=bind_some hF
       refine au ?_
       refine eX (fun f' cs'=>∃(Qs:Bool)(g:Fr),Qs=aa2/\f'=aQ g [(0,ae.v),(1,ax.v),(3,ic.v),(4,kG.v),(6,(zi ek)),(9,(pz k1)),(14,(pz k3)),(15,(pz k4)),(16,(pz k5)),(17,(pz k9)),(18,rQ.v),(19,(zi (rP:Int))),(20,wG.v),(21,(pz wE)),(22,(zi (uj:Int))),(23,(pz aiO)),(24,Cg.1.v),(141,(.bool Qs))]/\aN cs' [ah ae ag,bV ax ai,iF ic dW,bG kG bM,aX k1 120 (zg [bL.v,dH.v]),ah bL aK.Head,eQ dH aK.Atoms,aW k3 154 (zg [(.slice none 0 0),(.slice none 0 0),(.slice none 0 0),(zi 0)]),aW k4 32 (zg [(.slice none 0 0),(zi 0)]),aW k5 154 (zg [(.slice none 0 0),rR.1.v,zz.v,(zi 0)]),ER rR.2 rR.1 ui,eG IV zz zu,aW k9 32 (zg [wF.v,(zi nO)]),dK wF mU,rO rQ qI,sS IW wG mF,aW wE 159 (zg [(zi jw.Rel),qf.v]),ah qf jw.Terms,aW aiO 45 (zg [(zi og.Method),xD.1.v]),ah xD.1 zw,eG Cg.2 Cg.1 mG]) ?_ ?_
       · replace hF:=apu
         refine aY ?_
         rcases bE (decide (((mU.length:Int):Int)<100))with PW|PW
         · rw[PW]
           try rw[PW]at hF; dsimp only[aJ,aI]at hF
           exact bJ hF
         rw[PW]
         try rw[PW]at hF; dsimp only[aJ,aI]at hF
         refine aY ?_
         refine bnd hF fun aiH aqG hF=>bD (aeA aqG) (fun _=>?_)
         exact bJ hF
       rintro _ _ ⟨Qs,aBd,rfl,rfl,hE⟩
       replace hF:=aqF
       try dsimp only at hF
       refine bq hE ?_
       refine Ci hF (fun aqH hF=>?_) (fun aqH hF=>?_)
       · refine iD (.t (.t (.t (.t (.t (.t (.t (.t (.t (.t (.t (.t (.t (.t (.t (.t (.t (.t (.t (.t .h)))))))))))))))))))) aG ?_
         refine aY ?_
         refine bnd hF fun zt aqI hF=>gy (amX aqI) (fun Wv=>?_)
         refine As (zg [Wv.v,(zi zt.Age)]) ?_
         refine aY ?_
         refine bi (bT (m:=mG.length) (fun aiP f' cs'=>∃(g:Fr)(BX:Nat)(AQ EF:List Fact)(Mf:Sv)(aa':List Nat),aiP=AQ.length/\f'=aQ g [(0,ae.v),(1,ax.v),(3,ic.v),(4,kG.v),(6,(zi ek)),(9,(pz k1)),(14,(pz k3)),(15,(pz k4)),(16,(pz k5)),(17,(pz k9)),(18,rQ.v),(19,(zi (rP:Int))),(20,wG.v),(21,(pz wE)),(22,(zi (uj:Int))),(24,Cg.1.v),(26,(zi (BX:Int)))]/\List.drop BX mG=AQ/\aN cs' [ah ae ag,bV ax ai,iF ic dW,bG kG bM,aX k1 120 (zg [bL.v,dH.v]),ah bL aK.Head,eQ dH aK.Atoms,aW k3 154 (zg [(.slice none 0 0),(.slice none 0 0),(.slice none 0 0),(zi 0)]),aW k4 32 (zg [(.slice none 0 0),(zi 0)]),aW k5 154 (zg [(.slice none 0 0),rR.1.v,Mf.v,(zi 0)]),ER rR.2 rR.1 ui,eG aa' Mf EF,aW k9 32 (zg [Wv.v,(zi zt.Age)]),dK Wv zt.Entries,rO rQ qI,sS IW wG mF,aW wE 159 (zg [(zi jw.Rel),qf.v]),ah qf jw.Terms,bG Cg.1 mG]/\Dt jw mF lK mG ui zt AQ BX EF=some Md) ⟨_,0,_,_,zz,IV,rfl,aA,rfl,ay,hF⟩ ?_)
         rintro aiP _ _ ⟨aBe,BX,AQ,EF,Mf,aa',rfl,rfl,ahP,hE,hF⟩
         refine Kb hE mG (fun ay7=>?_)
         rcases AQ with _|⟨V_,AQ⟩
         · have aqJ:=dn ahP
           rw[Dt]at hF
           refine bH ?_
           refine dJ ?_
           refine bg ?_
           refine jf [0,1,2,3,4,5,6,7,8,9,10] [0,0,0,6,14,30,0,0,254,511,1023] [8,9] mixed (by decide+kernel) ?_
           refine dm ?_
           refine Di VM (fun aBf aBg=>?_)
           refine zJ (Ap lK) D_ (fun aiQ=>?_)
           refine iq rfl .no rfl (fun ha=>bO (g:=true) (len:=1) (parts:=[(0,.tmp 165)]) wD.h iI.h (.cons (EN ha (.tmp rfl rfl) rfl) .nil) (vs:=[(zg [aiQ.1.v,aiQ.2.v])]) rfl rfl rfl (by intro v hv; simp at hv; rcases hv with rfl<;>rfl)) (fun auY=>?_)
           refine iR (.cons .h (.rd .h rfl (.rd (.t .h) rfl .nil))) (bQ (Ro:=(aC BS)) (E:=183) (F:=([]++[])) (xs:=([lK]:List bz)) (d_ aaE bP cK) rfl rfl) ?_
           refine dM rfl .no (.t (.t (.t (.t (.t (.t (.t (.t (.t (.t (.t (.t (.t (.t (.t (.t (.t (.t (.t (.t .h)))))))))))))))))))) (fun ha hp=>h_ VX.h qG.h.sz rfl (EN ha (.tmp rfl rfl) rfl) hp.2 rfl) ?_
           refine du ?_
           refine bnd hF fun aiy aqK hF=>oV rfl rfl .no (.cons .h (.rd (.t (.t (.t (.t (.t (.t (.t (.t (.t (.t (.t (.t (.t (.t (.t (.t (.t (.t (.t (.t .h)))))))))))))))))))) rfl (.rd (.t (.t (.t (.t (.t (.t (.t (.t (.t (.t (.t (.t (.t (.t (.t (.t (.t (.t (.t (.t (.t .h))))))))))))))))))))) rfl .nil))) (.dep rfl (.dep rfl .nil)) (fun ha=>jT aG (fun _=>(.cons .nil)) (bU V5.h (.cons (EN ha (.tmp rfl rfl) rfl) (.cons (EN ha (.tmp rfl rfl) rfl) (.cons (EN ha (.tmp rfl rfl) rfl) .nil))) (@UI ([lK]:List bz) (⟨(some ⟨auY,0,none⟩),1,1⟩) jw qf mG Cg.1 _ aqK))) (fun aBh=>?_)
           refine bnd hF fun aiz aqL hF=>cO rfl rfl .no (.cons (.t (.t (.t (.t (.t (.t (.t (.t (.t (.t (.t (.t (.t (.t (.t (.t (.t (.t (.t (.t .h)))))))))))))))))))) (.cons (.t .h) .nil)) (.dep rfl (.dep rfl .nil)) (fun ha=>dV (Ro:=rM) wD.h V6 iI.h rfl rfl rfl (EN ha (.tmp rfl rfl) rfl) (EN ha (.tmp rfl rfl) rfl) aqL fw) (fun aiR=>?_)
           refine bR ?_
           cases hF
           exact⟨_,_,_,_,_,rR.1,rR.2,Mf,aa',Wv,aiR.1,aiR.2,_,rfl,aA,ay⟩
         obtain⟨aqJ,aqM,aqN⟩:=dz ahP
         rw[Dt]at hF
         refine bH ?_
         refine dI ?_
         refine aT ?_
         refine jf [0,1,2,3,4,5,6,7,8] [0,1,0,0,12,28,63,127,255] [6,8] mixed (by decide+kernel) ?_
         refine du ?_
         refine dM rfl .no .q9 (fun ha hp=>fe (v:=Mf.v) xQ.h (EN ha (.tmp rfl rfl) rfl) hp.2 rfl rfl) ?_
         refine bR ?_
         refine Di aqM (fun aBi aBj=>?_)
         refine jP (lU V_) mf (fun auZ=>?_)
         refine bnd hF fun aiA aqO hF=>oV rfl rfl .no (.cons .q13 (.rd .h rfl .nil)) (.dep rfl .nil) (fun ha=>jT aG (fun _=>(.cons .nil)) (bU Q5.h (.cons (EN ha (.tmp rfl rfl) rfl) (.cons (EN ha (.tmp rfl rfl) rfl) .nil)) (@KM EF Mf V_ auZ _ aqO))) (fun aba=>?_)
         refine du ?_
         refine cO rfl rfl .no (.cons .q13 .nil) (.dep rfl .nil) (fun ha=>gz (e':=(zg [(.slice none 0 0),rR.1.v,aba.1.v,(zi 0)])) WY.h.sz (EN ha (.tmp rfl rfl) rfl) (EN ha (.tmp rfl rfl) rfl) rfl rfl rfl rfl rfl) (fun _=>?_)
         refine du ?_
         refine aY ?_
         rw[wk BX]
         exact⟨_,bX _,_,BX+1,AQ,_,aba.1,aba.2,rfl,aA,aqN,ay,hF⟩
       refine aY ?_
       refine bi (iD (.t (.t (.t (.t (.t (.t (.t (.t (.t (.t (.t (.t (.t (.t (.t (.t (.t (.t (.t (.t .h)))))))))))))))))))) aG ?_)
       refine bT (m:=mG.length) (fun aiS f' cs'=>∃(g:Fr)(BZ:Nat)(AR EG:List Fact)(Mg:Sv)(abb:List Nat),aiS=AR.length/\f'=aQ g [(0,ae.v),(1,ax.v),(3,ic.v),(4,kG.v),(6,(zi ek)),(9,(pz k1)),(14,(pz k3)),(15,(pz k4)),(16,(pz k5)),(17,(pz k9)),(18,rQ.v),(19,(zi (rP:Int))),(20,wG.v),(21,(pz wE)),(22,(zi (uj:Int))),(24,Cg.1.v),(26,(zi (BZ:Int)))]/\List.drop BZ mG=AR/\aN cs' [ah ae ag,bV ax ai,iF ic dW,bG kG bM,aX k1 120 (zg [bL.v,dH.v]),ah bL aK.Head,eQ dH aK.Atoms,aW k3 154 (zg [(.slice none 0 0),(.slice none 0 0),(.slice none 0 0),(zi 0)]),aW k4 32 (zg [(.slice none 0 0),(zi 0)]),aW k5 154 (zg [(.slice none 0 0),rR.1.v,Mg.v,(zi 0)]),ER rR.2 rR.1 ui,eG abb Mg EG,aW k9 32 (zg [wF.v,(zi nO)]),dK wF mU,rO rQ qI,sS IW wG mF,aW wE 159 (zg [(zi jw.Rel),qf.v]),ah qf jw.Terms,bG Cg.1 mG]/\Du jw mU nO mF lK mG ui AR BZ EG=some Md) ⟨_,0,_,_,zz,IV,rfl,aA,rfl,ay,hF⟩ ?_
       rintro aiS _ _ ⟨aBk,BZ,AR,EG,Mg,abb,rfl,rfl,ahQ,hE,hF⟩
       refine Kb hE mG (fun ay8=>?_)
       rcases AR with _|⟨Wd,AR⟩
       · have aqP:=dn ahQ
         rw[Du]at hF
         refine bH ?_
         refine dJ ?_
         refine bg ?_
         refine jf [0,1,2,3,4,5,6,7,8,9,10] [0,0,0,6,14,30,0,0,254,511,1023] [8,9] mixed (by decide+kernel) ?_
         refine dm ?_
         refine Di VM (fun aBl aBm=>?_)
         refine zJ (Ap lK) D_ (fun aiT=>?_)
         refine iq rfl .no rfl (fun ha=>bO (g:=true) (len:=1) (parts:=[(0,.tmp 165)]) wD.h iI.h (.cons (EN ha (.tmp rfl rfl) rfl) .nil) (vs:=[(zg [aiT.1.v,aiT.2.v])]) rfl rfl rfl (by intro v hv; simp at hv; rcases hv with rfl<;>rfl)) (fun au0=>?_)
         refine iR (.cons .h (.rd .h rfl (.rd (.t .h) rfl .nil))) (bQ (Ro:=(aC BS)) (E:=183) (F:=([]++[])) (xs:=([lK]:List bz)) (d_ aaE bP cK) rfl rfl) ?_
         refine dM rfl .no (.t (.t (.t (.t (.t (.t (.t (.t (.t (.t (.t (.t (.t (.t (.t (.t (.t (.t (.t (.t .h)))))))))))))))))))) (fun ha hp=>h_ VX.h qG.h.sz rfl (EN ha (.tmp rfl rfl) rfl) hp.2 rfl) ?_
         refine du ?_
         refine bnd hF fun aiB aqQ hF=>oV rfl rfl .no (.cons .h (.rd (.t (.t (.t (.t (.t (.t (.t (.t (.t (.t (.t (.t (.t (.t (.t (.t (.t (.t (.t (.t .h)))))))))))))))))))) rfl (.rd (.t (.t (.t (.t (.t (.t (.t (.t (.t (.t (.t (.t (.t (.t (.t (.t (.t (.t (.t (.t (.t .h))))))))))))))))))))) rfl .nil))) (.dep rfl (.dep rfl .nil)) (fun ha=>jT aG (fun _=>(.cons .nil)) (bU V5.h (.cons (EN ha (.tmp rfl rfl) rfl) (.cons (EN ha (.tmp rfl rfl) rfl) (.cons (EN ha (.tmp rfl rfl) rfl) .nil))) (@UI ([lK]:List bz) (⟨(some ⟨au0,0,none⟩),1,1⟩) jw qf mG Cg.1 _ aqQ))) (fun aBn=>?_)
         refine bnd hF fun aiC aqR hF=>cO rfl rfl .no (.cons (.t (.t (.t (.t (.t (.t (.t (.t (.t (.t (.t (.t (.t (.t (.t (.t (.t (.t (.t (.t .h)))))))))))))))))))) (.cons (.t .h) .nil)) (.dep rfl (.dep rfl .nil)) (fun ha=>dV (Ro:=rM) wD.h V6 iI.h rfl rfl rfl (EN ha (.tmp rfl rfl) rfl) (EN ha (.tmp rfl rfl) rfl) aqR fw) (fun aiU=>?_)
         refine bR ?_
         cases hF
         exact⟨_,_,_,_,_,rR.1,rR.2,Mg,abb,wF,aiU.1,aiU.2,_,rfl,aA,ay⟩
       obtain⟨aqP,aqS,aqT⟩:=dz ahQ
       rw[Du]at hF
       refine bH ?_
       refine dI ?_
       refine aT ?_
       refine jf [0,1,2,3,4,5,6,7,8] [0,1,0,0,12,28,63,127,255] [6,8] mixed (by decide+kernel) ?_
       refine du ?_
       refine dM rfl .no .q9 (fun ha hp=>fe (v:=Mg.v) xQ.h (EN ha (.tmp rfl rfl) rfl) hp.2 rfl rfl) ?_
       refine bR ?_
       refine Di aqS (fun aBo aBp=>?_)
       refine jP (lU Wd) mf (fun au1=>?_)
       refine bnd hF fun aiD aqU hF=>oV rfl rfl .no (.cons .q13 (.rd .h rfl .nil)) (.dep rfl .nil) (fun ha=>jT aG (fun _=>(.cons .nil)) (bU Q5.h (.cons (EN ha (.tmp rfl rfl) rfl) (.cons (EN ha (.tmp rfl rfl) rfl) .nil)) (@KM EG Mg Wd au1 _ aqU))) (fun abd=>?_)
       refine du ?_
       refine cO rfl rfl .no (.cons .q13 .nil) (.dep rfl .nil) (fun ha=>gz (e':=(zg [(.slice none 0 0),rR.1.v,abd.1.v,(zi 0)])) WY.h.sz (EN ha (.tmp rfl rfl) rfl) (EN ha (.tmp rfl rfl) rfl) rfl rfl rfl rfl rfl) (fun _=>?_)
       refine du ?_
       refine aY ?_
       rw[wk BZ]
       exact⟨_,bX _,_,BZ+1,AR,_,abd.1,abd.2,rfl,aA,aqT,ay,hF⟩
     refine aY ?_
     refine bi (iD .h aG ?_)
     refine bT (m:=uT.1.length) (fun aiV f' cs'=>∃(g:Fr)(B_:Nat)(AU EH:List Fact)(Mh:Sv)(abe:List Nat),aiV=AU.length/\f'=aQ g [(0,ae.v),(1,ax.v),(3,ic.v),(4,kG.v),(6,(zi ek)),(9,(pz k1)),(14,(pz k3)),(15,(pz k4)),(16,(pz k5)),(17,(pz k9)),(18,rQ.v),(19,(zi (rP:Int))),(20,wG.v),(21,(pz wE)),(22,(zi (uj:Int))),(24,aa_.1.v),(26,(zi (B_:Int)))]/\List.drop B_ uT.1=AU/\aN cs' [ah ae ag,bV ax ai,iF ic dW,bG kG bM,aX k1 120 (zg [bL.v,dH.v]),ah bL aK.Head,eQ dH aK.Atoms,aW k3 154 (zg [(.slice none 0 0),(.slice none 0 0),(.slice none 0 0),(zi 0)]),aW k4 32 (zg [(.slice none 0 0),(zi 0)]),aW k5 154 (zg [(.slice none 0 0),EI.v,Mh.v,(zi 0)]),ER QE EI uS,eG abe Mh EH,aW k9 32 (zg [wF.v,(zi nO)]),dK wF mU,rO rQ qI,sS IW wG mF,aW wE 159 (zg [(zi jw.Rel),qf.v]),ah qf jw.Terms,bG aa_.1 uT.1]/\Dv jw uS mU nO mF lK uT AU B_ EH=some Md) ⟨_,0,_,_,zz,IV,rfl,aA,rfl,ay,hF⟩ ?_
     rintro aiV _ _ ⟨aBq,B_,AU,EH,Mh,abe,rfl,rfl,ahR,hE,hF⟩
     refine Kb hE uT.1 (fun ay9=>?_)
     rcases AU with _|⟨We,AU⟩
     · have aqV:=dn ahR
       rw[Dv]at hF
       refine bH ?_
       refine dJ ?_
       refine bg ?_
       refine jf [0,1,2,3,4,5,6,7,8,9,10] [0,0,0,6,14,30,0,0,254,511,1023] [8,9] mixed (by decide+kernel) ?_
       refine dm ?_
       refine Di VM (fun aBr aBs=>?_)
       refine zJ (Ap lK) D_ (fun aiW=>?_)
       refine iq rfl .no rfl (fun ha=>bO (g:=true) (len:=1) (parts:=[(0,.tmp 165)]) wD.h iI.h (.cons (EN ha (.tmp rfl rfl) rfl) .nil) (vs:=[(zg [aiW.1.v,aiW.2.v])]) rfl rfl rfl (by intro v hv; simp at hv; rcases hv with rfl<;>rfl)) (fun au2=>?_)
       refine iR (.cons .h (.rd .h rfl (.rd (.t .h) rfl .nil))) (bQ (Ro:=(aC BS)) (E:=183) (F:=([]++[])) (xs:=([lK]:List bz)) (d_ aaE bP cK) rfl rfl) ?_
       refine dM rfl .no (.t (.t (.t (.t (.t (.t (.t (.t (.t (.t (.t (.t (.t (.t (.t (.t (.t (.t (.t (.t .h)))))))))))))))))))) (fun ha hp=>h_ VX.h qG.h.sz rfl (EN ha (.tmp rfl rfl) rfl) hp.2 rfl) ?_
       refine du ?_
       refine bnd hF fun aiE aqW hF=>oV rfl rfl .no (.cons .h (.rd (.t (.t (.t (.t (.t (.t (.t (.t (.t (.t (.t (.t (.t (.t (.t (.t (.t (.t (.t (.t .h)))))))))))))))))))) rfl (.rd (.t (.t (.t (.t (.t (.t (.t (.t (.t (.t (.t (.t (.t (.t (.t (.t (.t (.t (.t (.t (.t .h))))))))))))))))))))) rfl .nil))) (.dep rfl (.dep rfl .nil)) (fun ha=>jT aG (fun _=>(.cons .nil)) (bU V5.h (.cons (EN ha (.tmp rfl rfl) rfl) (.cons (EN ha (.tmp rfl rfl) rfl) (.cons (EN ha (.tmp rfl rfl) rfl) .nil))) (@UI ([lK]:List bz) (⟨(some ⟨au2,0,none⟩),1,1⟩) jw qf uT.1 aa_.1 _ aqW))) (fun aBt=>?_)
       refine bnd hF fun aiF aqX hF=>cO rfl rfl .no (.cons (.t (.t (.t (.t (.t (.t (.t (.t (.t (.t (.t (.t (.t (.t (.t (.t (.t (.t (.t (.t .h)))))))))))))))))))) (.cons (.t .h) .nil)) (.dep rfl (.dep rfl .nil)) (fun ha=>dV (Ro:=rM) wD.h V6 iI.h rfl rfl rfl (EN ha (.tmp rfl rfl) rfl) (EN ha (.tmp rfl rfl) rfl) aqX fw) (fun aiX=>?_)
       refine bR ?_
       cases hF
       exact⟨_,_,_,_,_,EI,QE,Mh,abe,wF,aiX.1,aiX.2,_,rfl,aA,ay⟩
     obtain⟨aqV,aqY,aqZ⟩:=dz ahR
     rw[Dv]at hF
     refine bH ?_
     refine dI ?_
     refine aT ?_
     refine jf [0,1,2,3,4,5,6,7,8] [0,1,0,0,12,28,63,127,255] [6,8] mixed (by decide+kernel) ?_
     refine du ?_
     refine dM rfl .no .q9 (fun ha hp=>fe (v:=Mh.v) xQ.h (EN ha (.tmp rfl rfl) rfl) hp.2 rfl rfl) ?_
     refine bR ?_
     refine Di aqY (fun aBu aBv=>?_)
     refine jP (lU We) mf (fun au3=>?_)
     refine bnd hF fun aiG aq0 hF=>oV rfl rfl .no (.cons .q13 (.rd .h rfl .nil)) (.dep rfl .nil) (fun ha=>jT aG (fun _=>(.cons .nil)) (bU Q5.h (.cons (EN ha (.tmp rfl rfl) rfl) (.cons (EN ha (.tmp rfl rfl) rfl) .nil)) (@KM EH Mh We au3 _ aq0))) (fun abf=>?_)
     refine du ?_
     refine cO rfl rfl .no (.cons .q13 .nil) (.dep rfl .nil) (fun ha=>gz (e':=(zg [(.slice none 0 0),EI.v,abf.1.v,(zi 0)])) WY.h.sz (EN ha (.tmp rfl rfl) rfl) (EN ha (.tmp rfl rfl) rfl) rfl rfl rfl rfl rfl) (fun _=>?_)
     refine du ?_
     refine aY ?_
     rw[wk B_]
     exact⟨_,bX _,_,B_+1,AU,_,abf.1,abf.2,rfl,aA,aqZ,ay,hF⟩
   rintro _ _ ⟨Qt,Qu,Qv,Qw,Qx,Wp,aa7,Wq,aa8,Ws,Wu,aa9,aBw,rfl,rfl,hE⟩
   replace hF:=aqx
   try dsimp only at hF
   refine bq hE ?_
   refine aY ?_
   rw[wk uj]
   exact⟨_,bX _,_,uj+1,AV,_,_,_,_,_,Wp,aa7,Wq,aa8,Ws,Wu,aa9,rfl,aA,aqw,ay,hF⟩
 rintro _ _ ⟨Qz,QA,QB,QC,QD,Wl,aa4,Wm,aa5,Wn,Wo,aa6,aBx,rfl,rfl,hE⟩
 replace hF:=aqt
 try dsimp only at hF
 refine bq hE ?_
 refine aY ?_
 rw[wk rP]
 exact⟨_,bX _,_,rP+1,AX,_,_,_,_,_,Wl,aa4,Wm,aa5,Wn,Wo,aa6,rfl,aA,aqs,ay,hF⟩
def DR(aa:aZ)(r4:aZ)(gV:Run×Cache):List Access->Nat->(List Access)->(List Int)->Option (aZ×Bool)
 |[],C_,nW,J2=>(OE gV.1.Answers).bind fun r83=>
   (app r4.Results ([r83]:List (List (List Int)))).bind fun z87=>
   some ((⟨r4.Schema,r4.Methods,r4.Rules,r4.Source,gV.2,r4.Now,nW,J2,(IntKind.i64.wrap (aa.Spent+gV.1.Cost)),z87⟩:aZ),true)
 |x76::BJ,C_,nW,J2=>(Au x76.Method x76.Values).bind fun JU=>
   (app nW ([JU]:List Access)).bind fun z99=>
   (app J2 ([aa.Now]:List Int)).bind fun ako=>
   DR aa r4 gV BJ (C_+1) z99 ako
def Az(fuel:Nat)(aa:aZ)(aK:Query):Option (aZ×Bool):=
 (AB aa).bind fun r4=>
 ((qC aa).bind fun lS=>
   bif (!lS)then (some true)
   else ((zf aa.Schema aK).bind fun jW=>
     bif (!jW)then (some true)
     else (bif (decide ((500:Int)<(aa.Log.length:Int)))then (some true)
       else (bif (decide ((900000:Int)<aa.Spent))then (some true)
         else (some (decide ((100:Int)<=(aa.Results.length:Int)))))))).bind fun o8=>
 match o8 with
 |c20=>if c20 then (
     some (r4,false))
   else (
     (NV fuel aa.Schema aa.Methods aK).bind fun oD=>
     if (!oD.2)then (
       some (r4,false))
     else (
       (OI aa.Schema aa.Methods oD.1.Query oD.1.Steps aa.Source.Facts aa.Cache aa.Now).bind fun gV=>
       if (decide ((1000:Int)<(IntKind.i64.wrap ((aa.Log.length:Int)+(gV.1.Log.length:Int)))))then (
         some (r4,false))
       else (
         DR aa r4 gV gV.1.Log 0 r4.Log r4.Times)))
theorem UJ{fuel:Nat}{aa:aZ}{ae aO cu dA dw dB dE dG:Sv}{aK:Query}{ax aV:Sv}{R:aZ×Bool}(hF:Az fuel aa aK=some R):
   Fw.Spec Tryz.prog 101 [(zg [ae.v,aO.v,cu.v,dA.v,(zi aa.Source.Version),dw.v,(zi aa.Cache.Age),(zi aa.Now),dB.v,dE.v,(zi aa.Spent),dG.v]),(zg [ax.v,aV.v])] [ah ae aa.Schema,bV aO aa.Methods,eY cu aa.Rules,bG dA aa.Source.Facts,dK dw aa.Cache.Entries,eD dB aa.Log,ah dE aa.Times,bC (aD 152 (aD 24 (aD 3 az))) dG.v aa.Results,ah ax aK.Head,eQ aV aK.Atoms] (fun p:Sv×List Nat×Sv×List Nat×Sv×List Nat×Sv×List Nat×Sv×Sv×List Nat×Sv×List Nat×Sv×List Nat=>(.tuple [(zg [p.1.v,p.2.2.1.v,p.2.2.2.2.1.v,p.2.2.2.2.2.2.1.v,(zi R.1.Source.Version),p.2.2.2.2.2.2.2.2.1.v,(zi R.1.Cache.Age),(zi R.1.Now),p.2.2.2.2.2.2.2.2.2.1.v,p.2.2.2.2.2.2.2.2.2.2.2.1.v,(zi R.1.Spent),p.2.2.2.2.2.2.2.2.2.2.2.2.2.1.v]),(.bool R.2)].toArray)) (fun p=>[bI p.2.1 p.1 R.1.Schema,nC p.2.2.2.1 p.2.2.1 R.1.Methods,mi p.2.2.2.2.2.1 p.2.2.2.2.1 R.1.Rules,eG p.2.2.2.2.2.2.2.1 p.2.2.2.2.2.2.1 R.1.Source.Facts,dK p.2.2.2.2.2.2.2.2.1 R.1.Cache.Entries,kF p.2.2.2.2.2.2.2.2.2.2.1 p.2.2.2.2.2.2.2.2.2.1 R.1.Log,bI p.2.2.2.2.2.2.2.2.2.2.2.2.1 p.2.2.2.2.2.2.2.2.2.2.2.1 R.1.Times,aU (aF 152 (aF 24 (aF 3 (aC az)))) p.2.2.2.2.2.2.2.2.2.2.2.2.2.2 p.2.2.2.2.2.2.2.2.2.2.2.2.2.1.v R.1.Results]):=by
 refine Se 131 Tryz.func101 [.cell 4 36,.tmp 5] ?_
 intro H0 F0
 unfold Az at hF
 refine au ?_
 refine bN (fun k1=>?_)
 refine bN (fun k2=>?_)
 refine dX (fun k3=>?_)
 refine bg ?_
 refine bnd hF fun r4 hx5 hF=>Ti (Oq hx5) (fun p6=>?_)
 refine dX (fun k7=>?_)
 refine As (zg [p6.1.v,p6.2.2.1.v,p6.2.2.2.2.1.v,p6.2.2.2.2.2.2.1.v,(zi r4.Source.Version),p6.2.2.2.2.2.2.2.2.1.v,(zi r4.Cache.Age),(zi r4.Now),p6.2.2.2.2.2.2.2.2.2.2.1.v,p6.2.2.2.2.2.2.2.2.2.2.2.2.1.v,(zi r4.Spent),p6.2.2.2.2.2.2.2.2.2.2.2.2.2.2.1.v]) ?_
 refine aT ?_
 obtain⟨o8,Jb,JL⟩:=bind_some hF
 refine au ?_
 refine eX (fun f' cs'=>∃(c20:Bool)(g:Fr),c20=o8/\f'=aQ g [(2,(pz k1)),(3,(pz k2)),(4,(pz k3)),(6,(pz k7)),(40,(.bool c20))]/\aN cs' [aX k1 36 (zg [ae.v,aO.v,cu.v,dA.v,(zi aa.Source.Version),dw.v,(zi aa.Cache.Age),(zi aa.Now),dB.v,dE.v,(zi aa.Spent),dG.v]),ah ae aa.Schema,bV aO aa.Methods,eY cu aa.Rules,bG dA aa.Source.Facts,dK dw aa.Cache.Entries,eD dB aa.Log,ah dE aa.Times,bC (aD 152 (aD 24 (aD 3 az))) dG.v aa.Results,aX k2 120 (zg [ax.v,aV.v]),ah ax aK.Head,eQ aV aK.Atoms,aW k3 36 (.agg ([(.slice none 0 0),(.slice none 0 0),(.slice none 0 0),(.slice none 0 0),(zi 0),(.slice none 0 0),(zi 0),(zi 0),(.slice none 0 0),(.slice none 0 0),(zi 0),(.slice none 0 0)]:List Value).toArray),aW k7 36 (zg [p6.1.v,p6.2.2.1.v,p6.2.2.2.2.1.v,p6.2.2.2.2.2.2.1.v,(zi r4.Source.Version),p6.2.2.2.2.2.2.2.2.1.v,(zi r4.Cache.Age),(zi r4.Now),p6.2.2.2.2.2.2.2.2.2.2.1.v,p6.2.2.2.2.2.2.2.2.2.2.2.2.1.v,(zi r4.Spent),p6.2.2.2.2.2.2.2.2.2.2.2.2.2.2.1.v]),bI p6.2.1 p6.1 r4.Schema,nC p6.2.2.2.1 p6.2.2.1 r4.Methods,mi p6.2.2.2.2.2.1 p6.2.2.2.2.1 r4.Rules,eG p6.2.2.2.2.2.2.2.1 p6.2.2.2.2.2.2.1 r4.Source.Facts,ol p6.2.2.2.2.2.2.2.2.2.1 p6.2.2.2.2.2.2.2.2.1 r4.Cache.Entries,kF p6.2.2.2.2.2.2.2.2.2.2.2.1 p6.2.2.2.2.2.2.2.2.2.2.1 r4.Log,bI p6.2.2.2.2.2.2.2.2.2.2.2.2.2.1 p6.2.2.2.2.2.2.2.2.2.2.2.2.1 r4.Times,aU (aF 152 (aF 24 (aF 3 (aC az)))) p6.2.2.2.2.2.2.2.2.2.2.2.2.2.2.2 p6.2.2.2.2.2.2.2.2.2.2.2.2.2.2.1.v r4.Results]) ?_ ?_
 · replace hF:=Jb
   refine au ?_
   refine bnd hF fun lS kW hF=>bD (uG kW) (fun _=>?_)
   refine aT ?_
   rcases bE (!lS)with jr|jr
   · rw[jr]
     try rw[jr]at hF; dsimp only[aJ,aI]at hF
     exact bJ hF
   rw[jr]
   try rw[jr]at hF; dsimp only[aJ,aI]at hF
   refine bH ?_
   refine bnd hF fun jW kz hF=>bD (KN kz) (fun _=>?_)
   refine bg ?_
   rcases bE (!jW)with lw|lw
   · rw[lw]
     try rw[lw]at hF; dsimp only[aJ,aI]at hF
     exact bJ hF
   rw[lw]
   try rw[lw]at hF; dsimp only[aJ,aI]at hF
   refine ky ?_
   rcases bE (decide ((500:Int)<(aa.Log.length:Int)))with jq|jq
   · rw[jq]
     try rw[jq]at hF; dsimp only[aJ,aI]at hF
     exact bJ hF
   rw[jq]
   try rw[jq]at hF; dsimp only[aJ,aI]at hF
   refine dL ?_
   rcases bE (decide ((900000:Int)<aa.Spent))with iK|iK
   · rw[iK]
     try rw[iK]at hF; dsimp only[aJ,aI]at hF
     exact bJ hF
   rw[iK]
   try rw[iK]at hF; dsimp only[aJ,aI]at hF
   exact bJ hF
 rintro _ _ ⟨c20,ayj,rfl,rfl,hE⟩
 replace hF:=JL
 try dsimp only at hF
 refine bq hE ?_
 refine Ci hF (fun au4 hF=>?_) (fun au4 hF=>?_)
 · refine aT ?_
   refine As (zg [p6.1.v,p6.2.2.1.v,p6.2.2.2.2.1.v,p6.2.2.2.2.2.2.1.v,(zi r4.Source.Version),p6.2.2.2.2.2.2.2.2.1.v,(zi r4.Cache.Age),(zi r4.Now),p6.2.2.2.2.2.2.2.2.2.2.1.v,p6.2.2.2.2.2.2.2.2.2.2.2.2.1.v,(zi r4.Spent),p6.2.2.2.2.2.2.2.2.2.2.2.2.2.2.1.v]) ?_
   refine bu ?_
   cases hF
   exact gQ (p6.1,p6.2.1,p6.2.2.1,p6.2.2.2.1,p6.2.2.2.2.1,p6.2.2.2.2.2.1,p6.2.2.2.2.2.2.1,p6.2.2.2.2.2.2.2.1,p6.2.2.2.2.2.2.2.2.1,p6.2.2.2.2.2.2.2.2.2.2.1,p6.2.2.2.2.2.2.2.2.2.2.2.1,p6.2.2.2.2.2.2.2.2.2.2.2.2.1,p6.2.2.2.2.2.2.2.2.2.2.2.2.2.1,p6.2.2.2.2.2.2.2.2.2.2.2.2.2.2.1,p6.2.2.2.2.2.2.2.2.2.2.2.2.2.2.2) (.cellA rfl rfl .h rfl jl.h fG.h.sz rfl rfl (.tmp rfl rfl .nil)) rfl (.frz (.t (.t (.t (.t (.t (.t (.t (.t (.t (.t (.t (.t (.t (.t (.t (.t (.t (.t .h)))))))))))))))))) aG (.sel (.cons (.t (.t (.t (.t (.t (.t (.t (.t (.t (.t (.t (.t (.t (.t (.t .h))))))))))))))) (.cons (.t (.t (.t (.t (.t (.t (.t (.t (.t (.t (.t (.t (.t (.t (.t .h))))))))))))))) (.cons (.t (.t (.t (.t (.t (.t (.t (.t (.t (.t (.t (.t (.t (.t (.t .h))))))))))))))) (.cons (.t (.t (.t (.t (.t (.t (.t (.t (.t (.t (.t (.t (.t (.t (.t .h))))))))))))))) (.rd .h rfl (.cons (.t (.t (.t (.t (.t (.t (.t (.t (.t (.t (.t (.t (.t (.t (.t .h))))))))))))))) (.cons (.t (.t (.t (.t (.t (.t (.t (.t (.t (.t (.t (.t (.t (.t (.t .h))))))))))))))) (.cons (.t (.t (.t (.t (.t (.t (.t (.t (.t (.t (.t (.t (.t (.t (.t .h))))))))))))))) .nil))))))))))
 refine bH ?_
 refine bnd hF fun oD sZ hF=>Cx3 (als sZ) (fun oO=>?_)
 refine au ?_
 refine zx ?_
 refine zx ?_
 refine dX (fun k24=>?_)
 refine As (zg [oO.1.v,oO.2.2.1.v,oO.2.2.2.2.v,(zi oD.1.Cost)]) ?_
 refine bH ?_
 refine Ci hF (fun au5 hF=>?_) (fun au5 hF=>?_)
 · refine aT ?_
   refine As (zg [p6.1.v,p6.2.2.1.v,p6.2.2.2.2.1.v,p6.2.2.2.2.2.2.1.v,(zi r4.Source.Version),p6.2.2.2.2.2.2.2.2.1.v,(zi r4.Cache.Age),(zi r4.Now),p6.2.2.2.2.2.2.2.2.2.2.1.v,p6.2.2.2.2.2.2.2.2.2.2.2.2.1.v,(zi r4.Spent),p6.2.2.2.2.2.2.2.2.2.2.2.2.2.2.1.v]) ?_
   refine bu ?_
   cases hF
   exact gQ (p6.1,p6.2.1,p6.2.2.1,p6.2.2.2.1,p6.2.2.2.2.1,p6.2.2.2.2.2.1,p6.2.2.2.2.2.2.1,p6.2.2.2.2.2.2.2.1,p6.2.2.2.2.2.2.2.2.1,p6.2.2.2.2.2.2.2.2.2.2.1,p6.2.2.2.2.2.2.2.2.2.2.2.1,p6.2.2.2.2.2.2.2.2.2.2.2.2.1,p6.2.2.2.2.2.2.2.2.2.2.2.2.2.1,p6.2.2.2.2.2.2.2.2.2.2.2.2.2.2.1,p6.2.2.2.2.2.2.2.2.2.2.2.2.2.2.2) (.cellA rfl rfl .h rfl jl.h fG.h.sz rfl rfl (.tmp rfl rfl .nil)) rfl (.frz (.t (.t (.t (.t (.t (.t (.t (.t (.t (.t (.t (.t (.t (.t (.t (.t (.t (.t (.t (.t (.t (.t .h)))))))))))))))))))))) aG (.sel (.cons (.t (.t (.t (.t (.t (.t (.t (.t (.t (.t (.t (.t (.t (.t (.t (.t (.t (.t (.t .h))))))))))))))))))) (.cons (.t (.t (.t (.t (.t (.t (.t (.t (.t (.t (.t (.t (.t (.t (.t (.t (.t (.t (.t .h))))))))))))))))))) (.cons (.t (.t (.t (.t (.t (.t (.t (.t (.t (.t (.t (.t (.t (.t (.t (.t (.t (.t (.t .h))))))))))))))))))) (.cons (.t (.t (.t (.t (.t (.t (.t (.t (.t (.t (.t (.t (.t (.t (.t (.t (.t (.t (.t .h))))))))))))))))))) (.rd .h rfl (.cons (.t (.t (.t (.t (.t (.t (.t (.t (.t (.t (.t (.t (.t (.t (.t (.t (.t (.t (.t .h))))))))))))))))))) (.cons (.t (.t (.t (.t (.t (.t (.t (.t (.t (.t (.t (.t (.t (.t (.t (.t (.t (.t (.t .h))))))))))))))))))) (.cons (.t (.t (.t (.t (.t (.t (.t (.t (.t (.t (.t (.t (.t (.t (.t (.t (.t (.t (.t .h))))))))))))))))))) .nil))))))))))
 refine au ?_
 refine iD (.t .h) aG ?_
 refine iD .q2 aG ?_
 refine bB ?_
 refine fo .q2 (fun hp=>j3 (s:=2) (l:=[oO.1.v,oO.2.2.1.v]) asx.h IL.h.sz (.tmp rfl rfl) hp.2 rfl (by decide) (Nat.le_of_ble_eq_true rfl) rfl) ?_
 refine bB ?_
 refine fo .q4 (fun hp=>j3 (s:=2) (l:=[dw.v,(zi aa.Cache.Age)]) uu.h oL.h.sz (.tmp rfl rfl) hp.2 rfl (by decide) (Nat.le_of_ble_eq_true rfl) rfl) ?_
 refine aT ?_
 refine bnd hF fun gV nE hF=>Cx4 (amo nE) (fun p27=>?_)
 refine au ?_
 refine zx ?_
 refine zx ?_
 refine dX (fun k28=>?_)
 refine dX (fun si=>?_)
 refine As (zg [p27.1.v,p27.2.2.1.v,p27.2.2.2.1.v,(zi gV.1.Cost)]) ?_
 refine As (zg [p27.2.2.2.2.2.v,(zi gV.2.Age)]) ?_
 refine EE ?_
 refine Ci hF (fun aaO hF=>?_) (fun aaO hF=>?_)
 · refine aT ?_
   refine As (zg [p6.1.v,p6.2.2.1.v,p6.2.2.2.2.1.v,p6.2.2.2.2.2.2.1.v,(zi r4.Source.Version),p6.2.2.2.2.2.2.2.2.1.v,(zi r4.Cache.Age),(zi r4.Now),p6.2.2.2.2.2.2.2.2.2.2.1.v,p6.2.2.2.2.2.2.2.2.2.2.2.2.1.v,(zi r4.Spent),p6.2.2.2.2.2.2.2.2.2.2.2.2.2.2.1.v]) ?_
   refine bu ?_
   cases hF
   exact gQ (p6.1,p6.2.1,p6.2.2.1,p6.2.2.2.1,p6.2.2.2.2.1,p6.2.2.2.2.2.1,p6.2.2.2.2.2.2.1,p6.2.2.2.2.2.2.2.1,p6.2.2.2.2.2.2.2.2.1,p6.2.2.2.2.2.2.2.2.2.2.1,p6.2.2.2.2.2.2.2.2.2.2.2.1,p6.2.2.2.2.2.2.2.2.2.2.2.2.1,p6.2.2.2.2.2.2.2.2.2.2.2.2.2.1,p6.2.2.2.2.2.2.2.2.2.2.2.2.2.2.1,p6.2.2.2.2.2.2.2.2.2.2.2.2.2.2.2) (.cellA rfl rfl .h rfl jl.h fG.h.sz rfl rfl (.tmp rfl rfl .nil)) rfl (.frz (.t (.t (.t (.t (.t (.t (.t (.t (.t (.t (.t (.t (.t (.t (.t (.t (.t (.t (.t (.t (.t (.t (.t (.t (.t (.t (.t (.t .h)))))))))))))))))))))))))))) aG (.sel (.cons (.t (.t (.t (.t (.t (.t (.t (.t (.t (.t (.t (.t (.t (.t (.t (.t (.t (.t (.t (.t (.t (.t (.t (.t (.t .h))))))))))))))))))))))))) (.cons (.t (.t (.t (.t (.t (.t (.t (.t (.t (.t (.t (.t (.t (.t (.t (.t (.t (.t (.t (.t (.t (.t (.t (.t (.t .h))))))))))))))))))))))))) (.cons (.t (.t (.t (.t (.t (.t (.t (.t (.t (.t (.t (.t (.t (.t (.t (.t (.t (.t (.t (.t (.t (.t (.t (.t (.t .h))))))))))))))))))))))))) (.cons (.t (.t (.t (.t (.t (.t (.t (.t (.t (.t (.t (.t (.t (.t (.t (.t (.t (.t (.t (.t (.t (.t (.t (.t (.t .h))))))))))))))))))))))))) (.rd .h rfl (.cons (.t (.t (.t (.t (.t (.t (.t (.t (.t (.t (.t (.t (.t (.t (.t (.t (.t (.t (.t (.t (.t (.t (.t (.t (.t .h))))))))))))))))))))))))) (.cons (.t (.t (.t (.t (.t (.t (.t (.t (.t (.t (.t (.t (.t (.t (.t (.t (.t (.t (.t (.t (.t (.t (.t (.t (.t .h))))))))))))))))))))))))) (.cons (.t (.t (.t (.t (.t (.t (.t (.t (.t (.t (.t (.t (.t (.t (.t (.t (.t (.t (.t (.t (.t (.t (.t (.t (.t .h))))))))))))))))))))))))) .nil))))))))))
 refine aY ?_
 refine bi (bT (m:=gV.1.Log.length) (fun m72 f' cs'=>∃(g:Fr)(C_:Nat)(BJ nW:List Access)(J2:List Int)(v66:Sv)(wX:List Nat)(v69:Sv)(F70:List Nat),m72=BJ.length/\f'=aQ g [(2,(pz k1)),(4,(pz k3)),(6,(pz k7)),(9,(pz k28)),(10,(pz si)),(11,(zi (C_:Int)))]/\List.drop C_ gV.1.Log=BJ/\aN cs' [aX k1 36 (zg [ae.v,aO.v,cu.v,dA.v,(zi aa.Source.Version),dw.v,(zi aa.Cache.Age),(zi aa.Now),dB.v,dE.v,(zi aa.Spent),dG.v]),ah ae aa.Schema,bV aO aa.Methods,eY cu aa.Rules,bG dA aa.Source.Facts,dK dw aa.Cache.Entries,eD dB aa.Log,ah dE aa.Times,bC (aD 152 (aD 24 (aD 3 az))) dG.v aa.Results,aW k3 36 (.agg ([(.slice none 0 0),(.slice none 0 0),(.slice none 0 0),(.slice none 0 0),(zi 0),(.slice none 0 0),(zi 0),(zi 0),(.slice none 0 0),(.slice none 0 0),(zi 0),(.slice none 0 0)]:List Value).toArray),aW k7 36 (zg [p6.1.v,p6.2.2.1.v,p6.2.2.2.2.1.v,p6.2.2.2.2.2.2.1.v,(zi r4.Source.Version),p6.2.2.2.2.2.2.2.2.1.v,(zi r4.Cache.Age),(zi r4.Now),v66.v,v69.v,(zi r4.Spent),p6.2.2.2.2.2.2.2.2.2.2.2.2.2.2.1.v]),bI p6.2.1 p6.1 r4.Schema,nC p6.2.2.2.1 p6.2.2.1 r4.Methods,mi p6.2.2.2.2.2.1 p6.2.2.2.2.1 r4.Rules,eG p6.2.2.2.2.2.2.2.1 p6.2.2.2.2.2.2.1 r4.Source.Facts,ol p6.2.2.2.2.2.2.2.2.2.1 p6.2.2.2.2.2.2.2.2.1 r4.Cache.Entries,kF wX v66 nW,bI F70 v69 J2,aU (aF 152 (aF 24 (aF 3 (aC az)))) p6.2.2.2.2.2.2.2.2.2.2.2.2.2.2.2 p6.2.2.2.2.2.2.2.2.2.2.2.2.2.2.1.v r4.Results,aW k28 154 (zg [p27.1.v,p27.2.2.1.v,p27.2.2.2.1.v,(zi gV.1.Cost)]),aU (aF 24 (aF 3 (aC az))) p27.2.1 p27.1.v gV.1.Answers,eD p27.2.2.1 gV.1.Log,eG p27.2.2.2.2.1 p27.2.2.2.1 gV.1.Got,aW si 32 (zg [p27.2.2.2.2.2.v,(zi gV.2.Age)]),dK p27.2.2.2.2.2 gV.2.Entries]/\DR aa r4 gV BJ C_ nW J2=some R) ⟨_,0,_,_,_,p6.2.2.2.2.2.2.2.2.2.2.1,p6.2.2.2.2.2.2.2.2.2.2.2.1,p6.2.2.2.2.2.2.2.2.2.2.2.2.1,p6.2.2.2.2.2.2.2.2.2.2.2.2.2.1,rfl,aA,rfl,ay,hF⟩ ?_)
 rintro m72 _ _ ⟨g73,C_,BJ,nW,J2,v66,wX,v69,F70,rfl,rfl,Xh,hE,hF⟩
 refine Kb hE gV.1.Log (fun aBy=>?_)
 rcases BJ with _|⟨x76,BJ⟩
 · have ayk:=dn Xh
   rw[DR]at hF
   refine dL ?_
   refine dJ ?_
   refine bH ?_
   refine As (zg [p6.1.v,p6.2.2.1.v,p6.2.2.2.2.1.v,p6.2.2.2.2.2.2.1.v,(zi r4.Source.Version),p27.2.2.2.2.2.v,(zi gV.2.Age),(zi r4.Now),v66.v,v69.v,(zi r4.Spent),p6.2.2.2.2.2.2.2.2.2.2.2.2.2.2.1.v]) ?_
   refine dL ?_
   refine As (zg [p6.1.v,p6.2.2.1.v,p6.2.2.2.2.1.v,p6.2.2.2.2.2.2.1.v,(zi r4.Source.Version),p27.2.2.2.2.2.v,(zi gV.2.Age),(zi r4.Now),v66.v,v69.v,(zi (IntKind.i64.wrap (aa.Spent+gV.1.Cost))),p6.2.2.2.2.2.2.2.2.2.2.2.2.2.2.1.v]) ?_
   refine au ?_
   refine dS [0,1,2,3,4,5,6,7,8] [0,1,0,4,12,28,63,127,255] [4,6,8] mixed (by decide+kernel) ?_
   refine du ?_
   refine dM rfl .no .h (fun ha hp=>fe (v:=p6.2.2.2.2.2.2.2.2.2.2.2.2.2.2.1.v) ajf.h (EN ha (.tmp rfl rfl) rfl) hp.2 rfl rfl) ?_
   refine du ?_
   refine dM rfl .no (.t (.t (.t (.t (.t (.t (.t (.t (.t (.t (.t (.t (.t (.t (.t (.t (.t (.t (.t .h))))))))))))))))))) (fun ha hp=>fe (v:=p27.1.v) ah'.h (EN ha (.tmp rfl rfl) rfl) hp.2 rfl rfl) ?_
   refine bnd hF fun r83 ayl hF=>oV rfl rfl .no (.cons (.t (.t (.t (.t (.t (.t (.t (.t (.t (.t (.t (.t (.t (.t (.t (.t (.t (.t (.t (.t .h)))))))))))))))))))) .nil) (.dep rfl (.own .h (fun _ h=>h) .nil)) (fun ha=>jT aG (fun _=>(.cons .nil)) (bU ast.h (.cons (EN ha (.tmp rfl rfl) rfl) .nil) (aeR ayl))) (fun p85=>?_)
   refine iq rfl .no rfl (fun ha=>bO (g:=true) (len:=1) (parts:=[(0,.tmp 126)]) Q4.h VU.h (.cons (EN ha (.tmp rfl rfl) rfl) .nil) (vs:=[p85.1.v]) rfl rfl rfl (by intro v hv; simp at hv; rcases hv with rfl<;>rfl)) (fun k86=>?_)
   refine iR (.cons .h (.cons (.t .h) .nil)) (bQ (Ro:=(aF 24 (aF 3 (aC az)))) (E:=152) (F:=(p85.2++[])) (xs:=([r83]:List (List (List Int)))) (d_ IB bP cK) rfl rfl) ?_
   refine bnd hF fun z87 aym hF=>cO rfl rfl .no (.cons (.t (.t (.t (.t (.t (.t (.t (.t (.t (.t (.t (.t (.t (.t (.t (.t (.t (.t (.t (.t .h)))))))))))))))))))) (.cons .h .nil)) (.dep rfl (.dep rfl (.dep rfl .nil))) (fun ha=>dV (Ro:=(aF 24 (aF 3 (aC az)))) Q4.h ajg VU.h rfl rfl rfl (EN ha (.tmp rfl rfl) rfl) (EN ha (.tmp rfl rfl) rfl) aym fw) (fun Yy=>?_)
   refine du ?_
   refine cO rfl rfl .no (.cons .q2 .nil) (.dep rfl (.dep rfl (.dep rfl .nil))) (fun ha=>gz (e':=(zg [p6.1.v,p6.2.2.1.v,p6.2.2.2.2.1.v,p6.2.2.2.2.2.2.1.v,(zi r4.Source.Version),p27.2.2.2.2.2.v,(zi gV.2.Age),(zi r4.Now),v66.v,v69.v,(zi (IntKind.i64.wrap (aa.Spent+gV.1.Cost))),Yy.1.v])) awf.h.sz (EN ha (.tmp rfl rfl) rfl) (EN ha (.tmp rfl rfl) rfl) rfl rfl rfl rfl rfl) (fun _=>?_)
   refine du ?_
   refine aT ?_
   refine As (zg [p6.1.v,p6.2.2.1.v,p6.2.2.2.2.1.v,p6.2.2.2.2.2.2.1.v,(zi r4.Source.Version),p27.2.2.2.2.2.v,(zi gV.2.Age),(zi r4.Now),v66.v,v69.v,(zi (IntKind.i64.wrap (aa.Spent+gV.1.Cost))),Yy.1.v]) ?_
   refine bu ?_
   cases hF
   exact gQ (p6.1,p6.2.1,p6.2.2.1,p6.2.2.2.1,p6.2.2.2.2.1,p6.2.2.2.2.2.1,p6.2.2.2.2.2.2.1,p6.2.2.2.2.2.2.2.1,p27.2.2.2.2.2,v66,wX,v69,F70,Yy.1,Yy.2) (.cellA rfl rfl .h rfl jl.h fG.h.sz rfl rfl (.tmp rfl rfl .nil)) rfl (.sel (.cons .q13 (.cons .q13 (.cons .q13 (.cons .q13 (.rd (.t (.t (.t (.t (.t (.t (.t (.t (.t (.t (.t (.t (.t (.t (.t (.t (.t (.t (.t (.t .h)))))))))))))))))))) rfl (.cons .q14 (.cons .q14 (.cons .q2 .nil)))))))))
 obtain⟨ayk,akp,ayn⟩:=dz Xh
 rw[DR]at hF
 refine dL ?_
 refine dI ?_
 refine aT ?_
 refine dS [0,1,2,3,4,5,6,7,8,9,10,11,12,13,14,15,16,17,18] [0,1,0,4,0,28,60,124,0,256,0,1792,3840,7936,16380,32764,65535,131071,262143] [14,16,18] mixed (by decide+kernel) ?_
 refine du ?_
 refine dM rfl .no .q10 (fun ha hp=>fe (v:=v66.v) MJ.h (EN ha (.tmp rfl rfl) rfl) hp.2 rfl rfl) ?_
 refine du ?_
 refine dM rfl .no (.t (.t (.t (.t (.t (.t (.t (.t (.t (.t (.t (.t (.t (.t (.t (.t (.t (.t (.t .h))))))))))))))))))) (fun ha hp=>fe (v:=p27.2.2.1.v) MJ.h (EN ha (.tmp rfl rfl) rfl) hp.2 rfl rfl) ?_
 refine du ?_
 refine Di akp (fun k90 j91=>?_)
 refine du ?_
 refine Dl LZ ?_
 refine du ?_
 refine dM rfl .no (.t (.t (.t (.t (.t (.t (.t (.t (.t (.t (.t (.t (.t (.t (.t (.t (.t (.t (.t (.t .h)))))))))))))))))))) (fun ha hp=>fe (v:=p27.2.2.1.v) MJ.h (EN ha (.tmp rfl rfl) rfl) hp.2 rfl rfl) ?_
 refine du ?_
 refine Di akp (fun k92 j93=>?_)
 refine du ?_
 refine n_ (R':=(aD 3 az)) iA.h rfl .no (.tmp rfl rfl) rfl .h ahJ (fun w94=>?_)
 refine bnd hF fun JU hx96 hF=>cO rfl rfl .no (.rd .h rfl .nil) (.dep rfl (.dep rfl (.own .q13 (fun _ h=>h) .nil))) (fun ha=>bU aje.h (.cons (EN ha (.tmp rfl rfl) rfl) (.cons (EN ha (.tmp rfl rfl) rfl) .nil)) (N_ hx96)) (fun Yv=>?_)
 refine iq rfl .no rfl (fun ha=>bO (g:=true) (len:=1) (parts:=[(0,.tmp 103)]) pF.h kr.h (.cons (EN ha (.tmp rfl rfl) rfl) .nil) (vs:=[(zg [(zi JU.Method),Yv.1.v])]) rfl rfl rfl (by intro v hv; simp at hv; rcases hv with rfl<;>rfl)) (fun k98=>?_)
 refine iR (.cons .h (.cons .h .nil)) (bQ (Ro:=mY) (E:=45) (F:=(Yv.2++[])) (xs:=([JU]:List Access)) (d_ WT bP cK) rfl rfl) ?_
 refine bnd hF fun z99 au6 hF=>cO rfl rfl .no (.cons (.t (.t (.t (.t (.t (.t (.t (.t (.t (.t (.t (.t (.t (.t (.t (.t (.t (.t (.t (.t .h)))))))))))))))))))) (.cons .h .nil)) (.dep rfl (.dep rfl (.dep rfl (.dep rfl .nil)))) (fun ha=>dV (Ro:=mY) pF.h Q3 kr.h rfl rfl rfl (EN ha (.tmp rfl rfl) rfl) (EN ha (.tmp rfl rfl) rfl) au6 fw) (fun XO=>?_)
 refine du ?_
 refine cO rfl rfl .no (.cons .q14 .nil) (.dep rfl (.dep rfl (.dep rfl (.dep rfl .nil)))) (fun ha=>gz (e':=(zg [p6.1.v,p6.2.2.1.v,p6.2.2.2.2.1.v,p6.2.2.2.2.2.2.1.v,(zi r4.Source.Version),p6.2.2.2.2.2.2.2.2.1.v,(zi r4.Cache.Age),(zi r4.Now),XO.1.v,v69.v,(zi r4.Spent),p6.2.2.2.2.2.2.2.2.2.2.2.2.2.2.1.v])) awo.h.sz (EN ha (.tmp rfl rfl) rfl) (EN ha (.tmp rfl rfl) rfl) rfl rfl rfl rfl rfl) (fun _=>?_)
 refine du ?_
 refine aY ?_
 refine dF rfl (bO (g:=true) dh.h dx.h b_ (vs:=[(zi aa.Now)]) rfl rfl rfl (by intro v hv; simp at hv; rcases hv with rfl<;>rfl)) (fun aEd=>?_)
 refine dP (.cons .h .nil) (bQ (Ro:=(aC az)) (E:=3) (F:=([]++[])) (xs:=([aa.Now]:List Int)) (d_ (jh (fun _=>rfl)) bP cK) rfl rfl) ?_
 refine bnd hF fun ako hx104 hF=>ed (.cons (.t (.t (.t (.t (.t (.t (.t (.t (.t (.t (.t (.t (.t (.t (.t (.t (.t (.t (.t (.t (.t .h))))))))))))))))))))) (.cons .h .nil)) (dV (Ro:=(aC az)) dh.h iQ dx.h rfl rfl rfl (.tmp rfl rfl) (.tmp rfl rfl) hx104 fw) (fun adf=>?_)
 refine au ?_
 refine As (zg [p6.1.v,p6.2.2.1.v,p6.2.2.2.2.1.v,p6.2.2.2.2.2.2.1.v,(zi r4.Source.Version),p6.2.2.2.2.2.2.2.2.1.v,(zi r4.Cache.Age),(zi r4.Now),XO.1.v,adf.1.v,(zi r4.Spent),p6.2.2.2.2.2.2.2.2.2.2.2.2.2.2.1.v]) ?_
 refine bB ?_
 rw[wk C_]
 exact⟨_,bX _,_,C_+1,BJ,_,_,XO.1,XO.2,adf.1,adf.2,rfl,aA,ayn,ay,hF⟩
def Gh(ak:bv)(fuel:Nat):Nat->Int->Int->(List Int)->(List Int)->(List Method)->(List df)->(List Fact)->Int->(List cB)->Int->Int->(List Access)->(List Int)->Int->(List (List (List Int)))->Int->Option (aZ×bv)
 |0,_,_,_,_,_,_,_,_,_,_,_,_,_,_,_,_=>none
 |Ju+1,M5,M6,zR,yE,yF,yG,vI,ry,yH,vJ,vK,yI,yJ,vL,yK,Jv=>if (decide ((0:Int)<Jv))then (
     ((kw (⟨ak.b,M5,M6⟩:bv) 4).bind fun pK=>
       if ((pK.1:Int)==0)then (
         if ((pK.1:Int)==0)then (
           (Eb fuel (⟨ak.b,pK.2.i,pK.2.h⟩:bv) zR (⟨vI,ry⟩:Source)).bind fun XP=>
           (Am (⟨yE,yF,yG,(⟨vI,ry⟩:Source),(⟨yH,vJ⟩:Cache),vK,yI,yJ,vL,yK⟩:aZ) XP.1).bind fun jG=>
           some (XP.2.i,XP.2.h,jG.1.Schema,jG.1.Methods,jG.1.Rules,jG.1.Source.Facts,jG.1.Source.Version,jG.1.Cache.Entries,jG.1.Cache.Age,jG.1.Now,jG.1.Log,jG.1.Times,jG.1.Spent,jG.1.Results))
         else (
           if ((pK.1:Int)==2)then (
             (kw (⟨ak.b,pK.2.i,pK.2.h⟩:bv) 4).bind fun XQ=>
             (Aw (⟨yE,yF,yG,(⟨vI,ry⟩:Source),(⟨yH,vJ⟩:Cache),vK,yI,yJ,vL,yK⟩:aZ) (IntKind.i64.wrap (1+XQ.1))).bind fun jH=>
             some (XQ.2.i,XQ.2.h,jH.1.Schema,jH.1.Methods,jH.1.Rules,jH.1.Source.Facts,jH.1.Source.Version,jH.1.Cache.Entries,jH.1.Cache.Age,jH.1.Now,jH.1.Log,jH.1.Times,jH.1.Spent,jH.1.Results))
           else (
             (Ii fuel (⟨ak.b,pK.2.i,pK.2.h⟩:bv) zR).bind fun Fu=>
             (Az fuel (⟨yE,yF,yG,(⟨vI,ry⟩:Source),(⟨yH,vJ⟩:Cache),vK,yI,yJ,vL,yK⟩:aZ) Fu.1).bind fun jI=>
             some (Fu.2.i,Fu.2.h,jI.1.Schema,jI.1.Methods,jI.1.Rules,jI.1.Source.Facts,jI.1.Source.Version,jI.1.Cache.Entries,jI.1.Cache.Age,jI.1.Now,jI.1.Log,jI.1.Times,jI.1.Spent,jI.1.Results))))
       else (
         if ((pK.1:Int)==1)then (
           (Eb fuel (⟨ak.b,pK.2.i,pK.2.h⟩:bv) zR (⟨vI,ry⟩:Source)).bind fun XR=>
           (Am (⟨yE,yF,yG,(⟨vI,ry⟩:Source),(⟨yH,vJ⟩:Cache),vK,yI,yJ,vL,yK⟩:aZ) XR.1).bind fun jJ=>
           some (XR.2.i,XR.2.h,jJ.1.Schema,jJ.1.Methods,jJ.1.Rules,jJ.1.Source.Facts,jJ.1.Source.Version,jJ.1.Cache.Entries,jJ.1.Cache.Age,jJ.1.Now,jJ.1.Log,jJ.1.Times,jJ.1.Spent,jJ.1.Results))
         else (
           if ((pK.1:Int)==2)then (
             (kw (⟨ak.b,pK.2.i,pK.2.h⟩:bv) 4).bind fun XT=>
             (Aw (⟨yE,yF,yG,(⟨vI,ry⟩:Source),(⟨yH,vJ⟩:Cache),vK,yI,yJ,vL,yK⟩:aZ) (IntKind.i64.wrap (1+XT.1))).bind fun jK=>
             some (XT.2.i,XT.2.h,jK.1.Schema,jK.1.Methods,jK.1.Rules,jK.1.Source.Facts,jK.1.Source.Version,jK.1.Cache.Entries,jK.1.Cache.Age,jK.1.Now,jK.1.Log,jK.1.Times,jK.1.Spent,jK.1.Results))
           else (
             (Ii fuel (⟨ak.b,pK.2.i,pK.2.h⟩:bv) zR).bind fun Fv=>
             (Az fuel (⟨yE,yF,yG,(⟨vI,ry⟩:Source),(⟨yH,vJ⟩:Cache),vK,yI,yJ,vL,yK⟩:aZ) Fv.1).bind fun jL=>
             some (Fv.2.i,Fv.2.h,jL.1.Schema,jL.1.Methods,jL.1.Rules,jL.1.Source.Facts,jL.1.Source.Version,jL.1.Cache.Entries,jL.1.Cache.Age,jL.1.Now,jL.1.Log,jL.1.Times,jL.1.Spent,jL.1.Results))))).bind fun adg=>
     match adg with
     |(Sw,Sy,Sz,SA,SB,SC,SE,SF,SG,SH,SI,SK,SN,SQ)=>Gh ak fuel Ju Sw Sy zR Sz SA SB SC SE SF SG SH SI SK SN SQ (IntKind.i64.wrap (Jv-1)))
   else (
     some ((⟨yE,yF,yG,(⟨vI,ry⟩:Source),(⟨yH,vJ⟩:Cache),vK,yI,yJ,vL,yK⟩:aZ),(⟨ak.b,M5,M6⟩:bv)))
def Gi(ak:bv)(fuel:Nat):Nat->Int->Int->(List Int)->(List Int)->(List Method)->(List df)->(List Fact)->Int->(List cB)->Int->Int->(List Access)->(List Int)->Int->(List (List (List Int)))->Int->Option (aZ×bv)
 |0,_,_,_,_,_,_,_,_,_,_,_,_,_,_,_,_=>none
 |IX+1,Mi,Mj,zA,xE,xG,xH,uU,qJ,xI,uV,uW,xJ,xK,uX,xL,IY=>if (decide ((0:Int)<IY))then (
     ((kw (⟨ak.b,Mi,Mj⟩:bv) 4).bind fun pg=>
       if ((pg.1:Int)==0)then (
         if ((pg.1:Int)==0)then (
           (Eb fuel (⟨ak.b,pg.2.i,pg.2.h⟩:bv) zA (⟨uU,qJ⟩:Source)).bind fun Ww=>
           (Am (⟨xE,xG,xH,(⟨uU,qJ⟩:Source),(⟨xI,uV⟩:Cache),uW,xJ,xK,uX,xL⟩:aZ) Ww.1).bind fun jy=>
           some (Ww.2.i,Ww.2.h,jy.1.Schema,jy.1.Methods,jy.1.Rules,jy.1.Source.Facts,jy.1.Source.Version,jy.1.Cache.Entries,jy.1.Cache.Age,jy.1.Now,jy.1.Log,jy.1.Times,jy.1.Spent,jy.1.Results))
         else (
           if ((pg.1:Int)==2)then (
             (kw (⟨ak.b,pg.2.i,pg.2.h⟩:bv) 4).bind fun Wx=>
             (Aw (⟨xE,xG,xH,(⟨uU,qJ⟩:Source),(⟨xI,uV⟩:Cache),uW,xJ,xK,uX,xL⟩:aZ) (IntKind.i64.wrap (1+Wx.1))).bind fun jA=>
             some (Wx.2.i,Wx.2.h,jA.1.Schema,jA.1.Methods,jA.1.Rules,jA.1.Source.Facts,jA.1.Source.Version,jA.1.Cache.Entries,jA.1.Cache.Age,jA.1.Now,jA.1.Log,jA.1.Times,jA.1.Spent,jA.1.Results))
           else (
             (Ii fuel (⟨ak.b,pg.2.i,pg.2.h⟩:bv) zA).bind fun EJ=>
             (Az fuel (⟨xE,xG,xH,(⟨uU,qJ⟩:Source),(⟨xI,uV⟩:Cache),uW,xJ,xK,uX,xL⟩:aZ) EJ.1).bind fun jB=>
             some (EJ.2.i,EJ.2.h,jB.1.Schema,jB.1.Methods,jB.1.Rules,jB.1.Source.Facts,jB.1.Source.Version,jB.1.Cache.Entries,jB.1.Cache.Age,jB.1.Now,jB.1.Log,jB.1.Times,jB.1.Spent,jB.1.Results))))
       else (
         if ((pg.1:Int)==1)then (
           (Eb fuel (⟨ak.b,pg.2.i,pg.2.h⟩:bv) zA (⟨uU,qJ⟩:Source)).bind fun Wy=>
           (Am (⟨xE,xG,xH,(⟨uU,qJ⟩:Source),(⟨xI,uV⟩:Cache),uW,xJ,xK,uX,xL⟩:aZ) Wy.1).bind fun jC=>
           some (Wy.2.i,Wy.2.h,jC.1.Schema,jC.1.Methods,jC.1.Rules,jC.1.Source.Facts,jC.1.Source.Version,jC.1.Cache.Entries,jC.1.Cache.Age,jC.1.Now,jC.1.Log,jC.1.Times,jC.1.Spent,jC.1.Results))
         else (
           if ((pg.1:Int)==2)then (
             (kw (⟨ak.b,pg.2.i,pg.2.h⟩:bv) 4).bind fun Wz=>
             (Aw (⟨xE,xG,xH,(⟨uU,qJ⟩:Source),(⟨xI,uV⟩:Cache),uW,xJ,xK,uX,xL⟩:aZ) (IntKind.i64.wrap (1+Wz.1))).bind fun jD=>
             some (Wz.2.i,Wz.2.h,jD.1.Schema,jD.1.Methods,jD.1.Rules,jD.1.Source.Facts,jD.1.Source.Version,jD.1.Cache.Entries,jD.1.Cache.Age,jD.1.Now,jD.1.Log,jD.1.Times,jD.1.Spent,jD.1.Results))
           else (
             (Ii fuel (⟨ak.b,pg.2.i,pg.2.h⟩:bv) zA).bind fun EK=>
             (Az fuel (⟨xE,xG,xH,(⟨uU,qJ⟩:Source),(⟨xI,uV⟩:Cache),uW,xJ,xK,uX,xL⟩:aZ) EK.1).bind fun jE=>
             some (EK.2.i,EK.2.h,jE.1.Schema,jE.1.Methods,jE.1.Rules,jE.1.Source.Facts,jE.1.Source.Version,jE.1.Cache.Entries,jE.1.Cache.Age,jE.1.Now,jE.1.Log,jE.1.Times,jE.1.Spent,jE.1.Results))))).bind fun abg=>
     match abg with
     |(QF,QG,QH,QI,QJ,QK,QL,QM,QN,QO,QP,QQ,QR,QS)=>Gi ak fuel IX QF QG zA QH QI QJ QK QL QM QN QO QP QQ QR QS (IntKind.i64.wrap (IY-1)))
   else (
     some ((⟨xE,xG,xH,(⟨uU,qJ⟩:Source),(⟨xI,uV⟩:Cache),uW,xJ,xK,uX,xL⟩:aZ),(⟨ak.b,Mi,Mj⟩:bv)))
def Gj(ak:bv)(r2:(List Int)×bv)(fuel:Nat):Nat->Int->Int->(List Int)->(List Method)->(List df)->(List Fact)->Int->(List cB)->Int->Int->(List Access)->(List Int)->Int->(List (List (List Int)))->Int->Option (aZ×bv)
 |0,_,_,_,_,_,_,_,_,_,_,_,_,_,_,_=>none
 |J3+1,c31,c32,j_,J4,kI,vZ,J5,c46,c49,J6,c51,tX,vV,v_,Nv=>if (decide ((0:Int)<Nv))then (
     (U4 fuel (⟨ak.b,c31,c32⟩:bv) r2.1).bind fun Yz=>
     (OG (⟨j_,J4,kI,(⟨vZ,J5⟩:Source),(⟨c46,c49⟩:Cache),J6,c51,tX,vV,v_⟩:aZ) Yz.1).bind fun jN=>
     Gj ak r2 fuel J3 Yz.2.i Yz.2.h jN.1.Schema jN.1.Methods jN.1.Rules jN.1.Source.Facts jN.1.Source.Version jN.1.Cache.Entries jN.1.Cache.Age jN.1.Now jN.1.Log jN.1.Times jN.1.Spent jN.1.Results (IntKind.i64.wrap (Nv-1)))
   else (
     (U5 fuel (⟨ak.b,c31,c32⟩:bv) r2.1).bind fun J7=>
     if (decide ((0:Int)<(J7.1.length:Int)))then (
       (ix J7.1 0).bind fun x80=>
       (Pm (⟨j_,J4,kI,(⟨vZ,J5⟩:Source),(⟨c46,c49⟩:Cache),J6,c51,tX,vV,v_⟩:aZ) x80).bind fun iT=>
       (kw (⟨ak.b,J7.2.i,J7.2.h⟩:bv) 8).bind fun Nw=>
       Gh ak fuel ((Nw.1-0).toNat+2) Nw.2.i Nw.2.h r2.1 iT.1.Schema iT.1.Methods iT.1.Rules iT.1.Source.Facts iT.1.Source.Version iT.1.Cache.Entries iT.1.Cache.Age iT.1.Now iT.1.Log iT.1.Times iT.1.Spent iT.1.Results Nw.1)
     else (
       (kw (⟨ak.b,J7.2.i,J7.2.h⟩:bv) 8).bind fun M7=>
       Gi ak fuel ((M7.1-0).toNat+2) M7.2.i M7.2.h r2.1 j_ J4 kI vZ J5 c46 c49 J6 c51 tX vV v_ M7.1))
def UK(fuel:Nat)(ak:bv):Option (aZ×bv):=
 (U3 ak).bind fun r2=>
 (kw (⟨ak.b,r2.2.i,r2.2.h⟩:bv) 6).bind fun r5=>
 (N9 r2.1 r5.1).bind fun r8=>
 (kw (⟨ak.b,r5.2.i,r5.2.h⟩:bv) 3).bind fun dC=>
 Gj ak r2 fuel (((IntKind.i64.wrap (1+dC.1))-0).toNat+2) dC.2.i dC.2.h r8.1.Schema r8.1.Methods r8.1.Rules r8.1.Source.Facts r8.1.Source.Version r8.1.Cache.Entries r8.1.Cache.Age r8.1.Now r8.1.Log r8.1.Times r8.1.Spent r8.1.Results (IntKind.i64.wrap (1+dC.1))
theorem alN{fuel cz:Nat}{ak:bv}{ae:Sv}{R:aZ×bv}(hF:UK fuel ak=some R):
   Fw.Spec Tryz.prog 50 [(pz cz)] [aW cz 77 (zg [ae.v,(zi ak.i),(zi ak.h)]),ku ae ak.b] (fun p:Sv×List Nat×Sv×List Nat×Sv×List Nat×Sv×List Nat×Sv×Sv×List Nat×Sv×List Nat×Sv×List Nat=>(zg [p.1.v,p.2.2.1.v,p.2.2.2.2.1.v,p.2.2.2.2.2.2.1.v,(zi R.1.Source.Version),p.2.2.2.2.2.2.2.2.1.v,(zi R.1.Cache.Age),(zi R.1.Now),p.2.2.2.2.2.2.2.2.2.1.v,p.2.2.2.2.2.2.2.2.2.2.2.1.v,(zi R.1.Spent),p.2.2.2.2.2.2.2.2.2.2.2.2.2.1.v])) (fun p=>[bI p.2.1 p.1 R.1.Schema,nC p.2.2.2.1 p.2.2.1 R.1.Methods,mi p.2.2.2.2.2.1 p.2.2.2.2.1 R.1.Rules,eG p.2.2.2.2.2.2.2.1 p.2.2.2.2.2.2.1 R.1.Source.Facts,dK p.2.2.2.2.2.2.2.2.1 R.1.Cache.Entries,kF p.2.2.2.2.2.2.2.2.2.2.1 p.2.2.2.2.2.2.2.2.2.1 R.1.Log,bI p.2.2.2.2.2.2.2.2.2.2.2.2.1 p.2.2.2.2.2.2.2.2.2.2.2.1 R.1.Times,aU (aF 152 (aF 24 (aF 3 (aC az)))) p.2.2.2.2.2.2.2.2.2.2.2.2.2.2 p.2.2.2.2.2.2.2.2.2.2.2.2.2.1.v R.1.Results,aW cz 77 (zg [ae.v,(zi R.2.i),(zi R.2.h)])]):=by
 refine Se 96 Tryz.func50 [.cell 2 36] ?_
 intro H0 F0
 unfold UK at hF
 refine au ?_
 refine dX (fun k1=>?_)
 refine bu ?_
 refine bnd hF fun r2 hx3 hF=>zV (amM hx3) (fun p4=>?_)
 refine aY ?_
 refine bnd hF fun r5 hx6 hF=>gy (kZ hx6) (fun p7=>?_)
 refine bnd hF fun r8 bY hF=>abH (.cons (.t .h) .nil) (jT aG (fun _=>(.cons (.cons (.cons (.cons (.cons (.cons (.cons (.cons .nil))))))))) (bU av9.h b_ (alH bY))) (fun gH=>?_)
 refine au ?_
 refine zx ?_
 refine zx ?_
 refine dX (fun k11=>?_)
 refine As (zg [gH.1.v,gH.2.2.1.v,gH.2.2.2.2.1.v,gH.2.2.2.2.2.2.1.v,(zi r8.1.Source.Version),gH.2.2.2.2.2.2.2.2.1.v,(zi r8.1.Cache.Age),(zi r8.1.Now),gH.2.2.2.2.2.2.2.2.2.2.1.v,gH.2.2.2.2.2.2.2.2.2.2.2.2.1.v,(zi r8.1.Spent),gH.2.2.2.2.2.2.2.2.2.2.2.2.2.2.1.v]) ?_
 refine aY ?_
 refine bnd hF fun dC iH hF=>gy (kZ iH) (fun l9=>?_)
 refine bu ?_
 refine bi (bT (m:=(((IntKind.i64.wrap (1+dC.1))-0).toNat+2)) (fun J3 f' cs'=>∃(g:Fr)(c31 c32:Int)(j_:List Int)(J4:List Method)(kI:List df)(vZ:List Fact)(J5:Int)(c46:List cB)(c49 J6:Int)(c51:List Access)(tX:List Int)(vV:Int)(v_:List (List (List Int)))(Nv:Int)(v34:Sv)(F35:List Nat)(v37:Sv)(F38:List Nat)(v40:Sv)(JZ:List Nat)(v43:Sv)(F44:List Nat)(v47:Sv)(F48:List Nat)(v52:Sv)(F53:List Nat)(v55:Sv)(F56:List Nat)(v59:Sv)(J8:List Nat),f'=aQ g [(0,(pz cz)),(2,(pz k1)),(3,p4.1.v),(4,(pz k11)),(6,(zi Nv))]/\aN cs' [aW cz 77 (zg [ae.v,(zi c31),(zi c32)]),ku ae ak.b,aW k1 36 (.agg ([(.slice none 0 0),(.slice none 0 0),(.slice none 0 0),(.slice none 0 0),(zi 0),(.slice none 0 0),(zi 0),(zi 0),(.slice none 0 0),(.slice none 0 0),(zi 0),(.slice none 0 0)]:List Value).toArray),bI p4.2 p4.1 r2.1,aW k11 36 (zg [v34.v,v37.v,v40.v,v43.v,(zi J5),v47.v,(zi c49),(zi J6),v52.v,v55.v,(zi vV),v59.v]),bI F35 v34 j_,nC F38 v37 J4,mi JZ v40 kI,eG F44 v43 vZ,ol F48 v47 c46,kF F53 v52 c51,bI F56 v55 tX,aU (aF 152 (aF 24 (aF 3 (aC az)))) J8 v59.v v_]/\Gj ak r2 fuel J3 c31 c32 j_ J4 kI vZ J5 c46 c49 J6 c51 tX vV v_ Nv=some R) ⟨_,_,_,_,_,_,_,_,_,_,_,_,_,_,_,_,gH.1,gH.2.1,gH.2.2.1,gH.2.2.2.1,gH.2.2.2.2.1,gH.2.2.2.2.2.1,gH.2.2.2.2.2.2.1,gH.2.2.2.2.2.2.2.1,gH.2.2.2.2.2.2.2.2.1,gH.2.2.2.2.2.2.2.2.2.1,gH.2.2.2.2.2.2.2.2.2.2.1,gH.2.2.2.2.2.2.2.2.2.2.2.1,gH.2.2.2.2.2.2.2.2.2.2.2.2.1,gH.2.2.2.2.2.2.2.2.2.2.2.2.2.1,gH.2.2.2.2.2.2.2.2.2.2.2.2.2.2.1,gH.2.2.2.2.2.2.2.2.2.2.2.2.2.2.2,aA,ay,hF⟩ ?_)
 rintro J3 _ _ ⟨g63,c31,c32,j_,J4,kI,vZ,J5,c46,c49,J6,c51,tX,vV,v_,Nv,v34,F35,v37,F38,v40,JZ,v43,F44,v47,F48,v52,F53,v55,F56,v59,J8,rfl,hE,hF⟩
 refine bq hE ?_
 rcases J3 with _|J3
 · rw[Gj]at hF
   exact absurd hF (by simp)
 rw[Gj]at hF
 refine aY ?_
 refine Ci hF (fun aq1 hF=>?_) (fun aq1 hF=>?_)
 · refine aT ?_
   refine dS [0,1,2,8,3,4,5,6,7,9,10] [0,0,0,6,15,31,63,63,0,383,1023] [3,4,9] mixed (by decide+kernel) ?_
   refine dM rfl .no .q4 (fun ha hp=>h_ jl.h fG.h.sz rfl (EN ha (.tmp rfl rfl) rfl) hp.2 rfl) ?_
   refine bR ?_
   refine iq rfl .no rfl (fun ha=>sF (g:=true) fG.h rfl rfl) (fun k70=>?_)
   refine bnd hF fun Yz Rs hF=>LY rfl rfl .no (.cons .q4 (.cons (.t .h) (.rd (.t .h) rfl .nil))) (.own .h (fun _ h=>h) (.own .q3 (fun _ h=>h) .nil)) (fun ha=>jT aG (fun _=>(.cons (.cons .nil))) (iV (.cons (.t .h) (.rd (.t .h) rfl (.rd .h rfl .nil))) (bU av_.h (.cons (EN ha (.tmp rfl rfl) rfl) (.cons (EN ha (.tmp rfl rfl) rfl) .nil)) (amN Rs)))) (fun p73=>?_)
   refine bnd hF fun jN ac5 hF=>apd rfl rfl .no (.cons (.t .h) (.cons .q13 (.cons .q12 (.cons .q11 (.cons .q10 (.cons .q9 (.cons .q8 (.cons .q7 (.cons .q6 .nil))))))))) (.own .q2 (fun _ h=>h) (.dep rfl .nil)) (fun ha=>jk (pre:=[]) (.cons aG (.cons aG (.cons aG (.cons aG (.cons aG (.cons aG (.cons aG (.cons aG (.cons aG .nil))))))))) (fun _=>(.cons (.cons (.cons (.cons (.cons (.cons (.cons (.cons .nil))))))))) (bU av'.h (.cons (EN ha (.tmp rfl rfl) rfl) (.cons (EN ha (.tmp rfl rfl) rfl) .nil)) (amm ac5))) (fun fB=>?_)
   refine du ?_
   refine bW rfl .no (fun ha=>kv (l:=[(zg [fB.1.v,fB.2.2.1.v,fB.2.2.2.2.1.v,fB.2.2.2.2.2.2.1.v,(zi jN.1.Source.Version),fB.2.2.2.2.2.2.2.2.1.v,(zi jN.1.Cache.Age),(zi jN.1.Now),fB.2.2.2.2.2.2.2.2.2.2.1.v,fB.2.2.2.2.2.2.2.2.2.2.2.2.1.v,(zi jN.1.Spent),fB.2.2.2.2.2.2.2.2.2.2.2.2.2.2.1.v]),(.bool jN.2)]) (v:=(zg [fB.1.v,fB.2.2.1.v,fB.2.2.2.2.1.v,fB.2.2.2.2.2.2.1.v,(zi jN.1.Source.Version),fB.2.2.2.2.2.2.2.2.1.v,(zi jN.1.Cache.Age),(zi jN.1.Now),fB.2.2.2.2.2.2.2.2.2.2.1.v,fB.2.2.2.2.2.2.2.2.2.2.2.2.1.v,(zi jN.1.Spent),fB.2.2.2.2.2.2.2.2.2.2.2.2.2.2.1.v])) (EN ha (.tmp rfl rfl) rfl) rfl) ?_
   refine bW rfl .no (fun ha=>kv (l:=[(zg [fB.1.v,fB.2.2.1.v,fB.2.2.2.2.1.v,fB.2.2.2.2.2.2.1.v,(zi jN.1.Source.Version),fB.2.2.2.2.2.2.2.2.1.v,(zi jN.1.Cache.Age),(zi jN.1.Now),fB.2.2.2.2.2.2.2.2.2.2.1.v,fB.2.2.2.2.2.2.2.2.2.2.2.2.1.v,(zi jN.1.Spent),fB.2.2.2.2.2.2.2.2.2.2.2.2.2.2.1.v]),(.bool jN.2)]) (v:=(.bool jN.2)) (EN ha (.tmp rfl rfl) rfl) rfl) ?_
   refine cO rfl rfl .no (.cons (.t (.t (.t (.t (.t (.t (.t (.t (.t (.t (.t (.t (.t (.t (.t (.t (.t (.t (.t .h))))))))))))))))))) .nil) (.dep rfl (.dep rfl .nil)) (fun ha=>gz (e':=(zg [fB.1.v,fB.2.2.1.v,fB.2.2.2.2.1.v,fB.2.2.2.2.2.2.1.v,(zi jN.1.Source.Version),fB.2.2.2.2.2.2.2.2.1.v,(zi jN.1.Cache.Age),(zi jN.1.Now),fB.2.2.2.2.2.2.2.2.2.2.1.v,fB.2.2.2.2.2.2.2.2.2.2.2.2.1.v,(zi jN.1.Spent),fB.2.2.2.2.2.2.2.2.2.2.2.2.2.2.1.v])) (v:=(zg [fB.1.v,fB.2.2.1.v,fB.2.2.2.2.1.v,fB.2.2.2.2.2.2.1.v,(zi jN.1.Source.Version),fB.2.2.2.2.2.2.2.2.1.v,(zi jN.1.Cache.Age),(zi jN.1.Now),fB.2.2.2.2.2.2.2.2.2.2.1.v,fB.2.2.2.2.2.2.2.2.2.2.2.2.1.v,(zi jN.1.Spent),fB.2.2.2.2.2.2.2.2.2.2.2.2.2.2.1.v])) fG.h.sz (EN ha (.tmp rfl rfl) rfl) (EN ha (.tmp rfl rfl) rfl) rfl rfl rfl rfl rfl) (fun _=>?_)
   refine bR ?_
   refine aT ?_
   refine As (zg [fB.1.v,fB.2.2.1.v,fB.2.2.2.2.1.v,fB.2.2.2.2.2.2.1.v,(zi jN.1.Source.Version),fB.2.2.2.2.2.2.2.2.1.v,(zi jN.1.Cache.Age),(zi jN.1.Now),fB.2.2.2.2.2.2.2.2.2.2.1.v,fB.2.2.2.2.2.2.2.2.2.2.2.2.1.v,(zi jN.1.Spent),fB.2.2.2.2.2.2.2.2.2.2.2.2.2.2.1.v]) ?_
   refine bB ?_
   exact⟨J3,bX _,_,_,_,_,_,_,_,_,_,_,_,_,_,_,_,_,fB.1,fB.2.1,fB.2.2.1,fB.2.2.2.1,fB.2.2.2.2.1,fB.2.2.2.2.2.1,fB.2.2.2.2.2.2.1,fB.2.2.2.2.2.2.2.1,fB.2.2.2.2.2.2.2.2.1,fB.2.2.2.2.2.2.2.2.2.1,fB.2.2.2.2.2.2.2.2.2.2.1,fB.2.2.2.2.2.2.2.2.2.2.2.1,fB.2.2.2.2.2.2.2.2.2.2.2.2.1,fB.2.2.2.2.2.2.2.2.2.2.2.2.2.1,fB.2.2.2.2.2.2.2.2.2.2.2.2.2.2.1,fB.2.2.2.2.2.2.2.2.2.2.2.2.2.2.2,aA,ay,hF⟩
 refine bH ?_
 refine bnd hF fun J7 ac7 hF=>QZ (.cons .q3 (.cons .h (.rd .h rfl .nil))) (jT aG (fun _=>(.cons (.cons .nil))) (iV (.cons (.t .h) (.rd (.t .h) rfl (.rd .h rfl .nil))) (bU awh.h b_ (amQ ac7)))) (fun p79=>?_)
 refine dL ?_
 refine Ci hF (fun aq2 hF=>?_) (fun aq2 hF=>?_)
 · refine iD (.t .h) aG ?_
   refine dS [0,1,2,3,8,4,5,6,7,9,10] [0,0,2,6,15,31,63,63,0,383,1023] [4,9] mixed (by decide+kernel) ?_
   refine dM rfl .no .q5 (fun ha hp=>h_ jl.h fG.h.sz rfl (EN ha (.tmp rfl rfl) rfl) hp.2 rfl) ?_
   refine du ?_
   refine zI hF fun x80 aEe ayo hF=>?_
   refine Di ayo (fun k84 j85=>?_)
   refine jP (Lg x80) Pi (fun p86=>?_)
   refine iq rfl .no rfl (fun ha=>sF (g:=true) fG.h rfl rfl) (fun k87=>?_)
   refine bnd hF fun iT ac8 hF=>apc rfl rfl .no (.cons (.t (.t (.t (.t (.t (.t (.t (.t (.t (.t (.t (.t (.t (.t (.t (.t .h)))))))))))))))) (.cons (.t (.t (.t (.t (.t (.t (.t (.t (.t (.t (.t (.t (.t (.t (.t .h))))))))))))))) (.cons .q14 (.cons .q13 (.cons .q12 (.cons .q11 (.cons .q10 (.cons .q9 (.rd (.t .h) rfl .nil))))))))) (.own .h (fun _ h=>h) (.dep rfl .nil)) (fun ha=>jk (pre:=_) (.cons aG (.cons aG (.cons aG (.cons aG (.cons aG (.cons aG (.cons aG (.cons aG .nil)))))))) (fun _=>(.cons (.cons (.cons (.cons (.cons (.cons (.cons (.cons .nil))))))))) (bU awi.h (.cons (EN ha (.tmp rfl rfl) rfl) (.cons (EN ha (.tmp rfl rfl) rfl) .nil)) (ant ac8))) (fun fE=>?_)
   refine du ?_
   refine bW rfl .no (fun ha=>kv (l:=[(zg [fE.1.v,fE.2.2.1.v,fE.2.2.2.2.1.v,fE.2.2.2.2.2.2.1.v,(zi iT.1.Source.Version),fE.2.2.2.2.2.2.2.2.1.v,(zi iT.1.Cache.Age),(zi iT.1.Now),fE.2.2.2.2.2.2.2.2.2.2.1.v,fE.2.2.2.2.2.2.2.2.2.2.2.2.1.v,(zi iT.1.Spent),fE.2.2.2.2.2.2.2.2.2.2.2.2.2.2.1.v]),(.bool iT.2)]) (v:=(zg [fE.1.v,fE.2.2.1.v,fE.2.2.2.2.1.v,fE.2.2.2.2.2.2.1.v,(zi iT.1.Source.Version),fE.2.2.2.2.2.2.2.2.1.v,(zi iT.1.Cache.Age),(zi iT.1.Now),fE.2.2.2.2.2.2.2.2.2.2.1.v,fE.2.2.2.2.2.2.2.2.2.2.2.2.1.v,(zi iT.1.Spent),fE.2.2.2.2.2.2.2.2.2.2.2.2.2.2.1.v])) (EN ha (.tmp rfl rfl) rfl) rfl) ?_
   refine bW rfl .no (fun ha=>kv (l:=[(zg [fE.1.v,fE.2.2.1.v,fE.2.2.2.2.1.v,fE.2.2.2.2.2.2.1.v,(zi iT.1.Source.Version),fE.2.2.2.2.2.2.2.2.1.v,(zi iT.1.Cache.Age),(zi iT.1.Now),fE.2.2.2.2.2.2.2.2.2.2.1.v,fE.2.2.2.2.2.2.2.2.2.2.2.2.1.v,(zi iT.1.Spent),fE.2.2.2.2.2.2.2.2.2.2.2.2.2.2.1.v]),(.bool iT.2)]) (v:=(.bool iT.2)) (EN ha (.tmp rfl rfl) rfl) rfl) ?_
   refine cO rfl rfl .no (.cons (.t (.t (.t (.t (.t (.t (.t (.t (.t (.t (.t (.t (.t (.t (.t (.t .h)))))))))))))))) .nil) (.dep rfl (.dep rfl .nil)) (fun ha=>gz (e':=(zg [fE.1.v,fE.2.2.1.v,fE.2.2.2.2.1.v,fE.2.2.2.2.2.2.1.v,(zi iT.1.Source.Version),fE.2.2.2.2.2.2.2.2.1.v,(zi iT.1.Cache.Age),(zi iT.1.Now),fE.2.2.2.2.2.2.2.2.2.2.1.v,fE.2.2.2.2.2.2.2.2.2.2.2.2.1.v,(zi iT.1.Spent),fE.2.2.2.2.2.2.2.2.2.2.2.2.2.2.1.v])) (v:=(zg [fE.1.v,fE.2.2.1.v,fE.2.2.2.2.1.v,fE.2.2.2.2.2.2.1.v,(zi iT.1.Source.Version),fE.2.2.2.2.2.2.2.2.1.v,(zi iT.1.Cache.Age),(zi iT.1.Now),fE.2.2.2.2.2.2.2.2.2.2.1.v,fE.2.2.2.2.2.2.2.2.2.2.2.2.1.v,(zi iT.1.Spent),fE.2.2.2.2.2.2.2.2.2.2.2.2.2.2.1.v])) fG.h.sz (EN ha (.tmp rfl rfl) rfl) (EN ha (.tmp rfl rfl) rfl) rfl rfl rfl rfl rfl) (fun _=>?_)
   refine bR ?_
   refine aT ?_
   refine As (zg [fE.1.v,fE.2.2.1.v,fE.2.2.2.2.1.v,fE.2.2.2.2.2.2.1.v,(zi iT.1.Source.Version),fE.2.2.2.2.2.2.2.2.1.v,(zi iT.1.Cache.Age),(zi iT.1.Now),fE.2.2.2.2.2.2.2.2.2.2.1.v,fE.2.2.2.2.2.2.2.2.2.2.2.2.1.v,(zi iT.1.Spent),fE.2.2.2.2.2.2.2.2.2.2.2.2.2.2.1.v]) ?_
   refine bg ?_
   refine bnd hF fun Nw ayp hF=>gy (kZ ayp) (fun p93=>?_)
   refine aT ?_
   refine bi (bT (m:=((Nw.1-0).toNat+2)) (fun Ju f' cs'=>∃(g:Fr)(M5 M6:Int)(zR yE:List Int)(yF:List Method)(yG:List df)(vI:List Fact)(ry:Int)(yH:List cB)(vJ vK:Int)(yI:List Access)(yJ:List Int)(vL:Int)(yK:List (List (List Int)))(Jv:Int)(M8 M9:Sv)(adh:List Nat)(M_:Sv)(adi:List Nat)(Na:Sv)(adj:List Nat)(Fx:Sv)(adk:List Nat)(Nb Nc:Sv)(adl:List Nat)(Nf:Sv)(adm:List Nat)(Ng:Sv)(adn:List Nat),f'=aQ g [(0,(pz cz)),(2,(pz k1)),(3,M8.v),(4,(pz k11)),(12,(zi Jv))]/\aN cs' [aW cz 77 (zg [ae.v,(zi M5),(zi M6)]),ku ae ak.b,aW k1 36 (.agg ([(.slice none 0 0),(.slice none 0 0),(.slice none 0 0),(.slice none 0 0),(zi 0),(.slice none 0 0),(zi 0),(zi 0),(.slice none 0 0),(.slice none 0 0),(zi 0),(.slice none 0 0)]:List Value).toArray),ah M8 zR,aW k11 36 (zg [M9.v,M_.v,Na.v,Fx.v,(zi ry),Nb.v,(zi vJ),(zi vK),Nc.v,Nf.v,(zi vL),Ng.v]),bI adh M9 yE,nC adi M_ yF,mi adj Na yG,eG adk Fx vI,dK Nb yH,kF adl Nc yI,bI adm Nf yJ,aU (aF 152 (aF 24 (aF 3 (aC az)))) adn Ng.v yK]/\Gh ak fuel Ju M5 M6 zR yE yF yG vI ry yH vJ vK yI yJ vL yK Jv=some R) ⟨_,_,_,_,_,_,_,_,_,_,_,_,_,_,_,_,_,p4.1,fE.1,fE.2.1,fE.2.2.1,fE.2.2.2.1,fE.2.2.2.2.1,fE.2.2.2.2.2.1,fE.2.2.2.2.2.2.1,fE.2.2.2.2.2.2.2.1,fE.2.2.2.2.2.2.2.2.1,fE.2.2.2.2.2.2.2.2.2.2.1,fE.2.2.2.2.2.2.2.2.2.2.2.1,fE.2.2.2.2.2.2.2.2.2.2.2.2.1,fE.2.2.2.2.2.2.2.2.2.2.2.2.2.1,fE.2.2.2.2.2.2.2.2.2.2.2.2.2.2.1,fE.2.2.2.2.2.2.2.2.2.2.2.2.2.2.2,aA,(.frz (.t (.t (.t (.t (.t (.t (.t (.t (.t (.t (.t (.t (.t (.t (.t (.t (.t (.t (.t (.t (.t (.t .h)))))))))))))))))))))) aG (.frz (.t (.t (.t (.t (.t (.t (.t (.t (.t (.t (.t (.t (.t (.t (.t (.t .h)))))))))))))))) aG ay)),hF⟩ ?_)
   rintro Ju _ _ ⟨aEf,M5,M6,zR,yE,yF,yG,vI,ry,yH,vJ,vK,yI,yJ,vL,yK,Jv,M8,M9,adh,M_,adi,Na,adj,Fx,adk,Nb,Nc,adl,Nf,adm,Ng,adn,rfl,hE,hF⟩
   refine bq hE ?_
   rcases Ju with _|Ju
   · rw[Gh]at hF
     exact absurd hF (by simp)
   rw[Gh]at hF
   refine aY ?_
   refine Ci hF (fun au7 hF=>?_) (fun au7 hF=>?_)
   · refine au ?_
     obtain⟨adg,aq3,au8⟩:=bind_some hF
     refine iC (fun f' cs'=>∃(Sw Sy:Int)(Sz:List Int)(SA:List Method)(SB:List df)(SC:List Fact)(SE:Int)(SF:List cB)(SG SH:Int)(SI:List Access)(SK:List Int)(SN:Int)(SQ:List (List (List Int)))(XU:Sv)(ado:List Nat)(XV:Sv)(adp:List Nat)(XW:Sv)(adq:List Nat)(XX:Sv)(adr:List Nat)(XY XZ:Sv)(ads:List Nat)(X0:Sv)(adt:List Nat)(X3:Sv)(adu:List Nat)(g:Fr),adg=(Sw,Sy,Sz,SA,SB,SC,SE,SF,SG,SH,SI,SK,SN,SQ)/\f'=aQ g [(0,(pz cz)),(2,(pz k1)),(3,M8.v),(4,(pz k11)),(12,(zi Jv))]/\aN cs' [aW cz 77 (zg [ae.v,(zi Sw),(zi Sy)]),ku ae ak.b,aW k1 36 (.agg ([(.slice none 0 0),(.slice none 0 0),(.slice none 0 0),(.slice none 0 0),(zi 0),(.slice none 0 0),(zi 0),(zi 0),(.slice none 0 0),(.slice none 0 0),(zi 0),(.slice none 0 0)]:List Value).toArray),ah M8 zR,aW k11 36 (zg [XU.v,XV.v,XW.v,XX.v,(zi SE),XY.v,(zi SG),(zi SH),XZ.v,X0.v,(zi SN),X3.v]),bI ado XU Sz,nC adp XV SA,mi adq XW SB,eG adr XX SC,dK XY SF,kF ads XZ SI,bI adt X0 SK,aU (aF 152 (aF 24 (aF 3 (aC az)))) adu X3.v SQ]) ?_ ?_
     · replace hF:=aq3
       refine bi (dY (fo .q4 (fun hp=>h_ jl.h fG.h.sz rfl (.tmp rfl rfl) hp.2 rfl) ?_))
       refine dX (fun aEg=>?_)
       refine As (zg [M9.v,M_.v,Na.v,Fx.v,(zi ry),Nb.v,(zi vJ),(zi vK),Nc.v,Nf.v,(zi vL),Ng.v]) ?_
       refine bg ?_
       refine bnd hF fun pK au9 hF=>gy (kZ au9) (fun aEh=>?_)
       refine au ?_
       refine bi (lX (dY (aP (BO (i:=pK.1) (j:=0) (.tmp rfl rfl) (.int _ _)) ?_)))
       refine aT ?_
       refine Ci hF (fun au_ hF=>?_) (fun au_ hF=>?_)
       · refine au ?_
         refine Ci hF (fun au' hF=>?_) (fun au' hF=>?_)
         · refine iD .q9 aG ?_
           refine jf [0,1,2,3,4,5,6,7,8,9,10] [0,0,0,0,8,30,63,127,255,255,511] [5,6,10] mixed (by decide+kernel) ?_
           refine dM rfl .no .q6 (fun ha hp=>h_ jl.h fG.h.sz rfl (EN ha (.tmp rfl rfl) rfl) hp.2 rfl) ?_
           refine dm ?_
           refine dM rfl .no .q6 (fun ha hp=>j3 (s:=2) (l:=[Fx.v,(zi ry)]) xP.h u6.h.sz (EN ha (.tmp rfl rfl) rfl) hp.2 rfl (by decide) (Nat.le_of_ble_eq_true rfl) rfl) ?_
           refine bnd hF fun XP ava hF=>oV rfl rfl .no (.cons (.t .h) (.rd .q2 rfl (.rd .q4 rfl (.rd .h rfl .nil)))) (.dep rfl (.own .q5 (fun _ h=>h) .nil)) (fun ha=>bU WW.h (.cons (EN ha (.tmp rfl rfl) rfl) (.cons (EN ha (.tmp rfl rfl) rfl) (.cons (EN ha (.tmp rfl rfl) rfl) .nil))) (UC ava)) (fun aEi=>?_)
           refine bnd hF fun jG avb hF=>Vs rfl rfl .no (.cons .q14 (.cons .q13 (.cons .q12 (.cons .q10 (.cons .q9 (.cons .q8 (.rd .q2 rfl (.rd .q8 rfl (.rd .h rfl .nil))))))))) (.dep rfl (.dep rfl .nil)) (fun ha=>jk (pre:=_) (.cons aG (.cons aG (.cons aG (.cons aG (.cons aG (.cons aG .nil)))))) (fun _=>(.cons (.cons (.cons (.cons (.cons (.cons (.cons (.cons .nil))))))))) (iV (.rd .h rfl (.rd (.t .h) rfl (.rd .q2 rfl (.rd .q6 rfl (.rd .q7 rfl (.rd .q3 rfl (.rd .q4 rfl (.rd .q5 rfl (.rd .q8 rfl .nil))))))))) (bU WX.h (.cons (EN ha (.tmp rfl rfl) rfl) (.cons (EN ha (.tmp rfl rfl) rfl) .nil)) (Uy avb)))) (fun fV=>?_)
           refine du ?_
           refine bW rfl .no (fun ha=>kv (l:=[(zg [fV.1.v,fV.2.2.1.v,fV.2.2.2.2.1.v,fV.2.2.2.2.2.2.1.v,(zi jG.1.Source.Version),fV.2.2.2.2.2.2.2.2.1.v,(zi jG.1.Cache.Age),(zi jG.1.Now),fV.2.2.2.2.2.2.2.2.2.2.1.v,fV.2.2.2.2.2.2.2.2.2.2.2.2.1.v,(zi jG.1.Spent),fV.2.2.2.2.2.2.2.2.2.2.2.2.2.2.1.v]),(.bool jG.2)]) (v:=(zg [fV.1.v,fV.2.2.1.v,fV.2.2.2.2.1.v,fV.2.2.2.2.2.2.1.v,(zi jG.1.Source.Version),fV.2.2.2.2.2.2.2.2.1.v,(zi jG.1.Cache.Age),(zi jG.1.Now),fV.2.2.2.2.2.2.2.2.2.2.1.v,fV.2.2.2.2.2.2.2.2.2.2.2.2.1.v,(zi jG.1.Spent),fV.2.2.2.2.2.2.2.2.2.2.2.2.2.2.1.v])) (EN ha (.tmp rfl rfl) rfl) rfl) ?_
           refine bW rfl .no (fun ha=>kv (l:=[(zg [fV.1.v,fV.2.2.1.v,fV.2.2.2.2.1.v,fV.2.2.2.2.2.2.1.v,(zi jG.1.Source.Version),fV.2.2.2.2.2.2.2.2.1.v,(zi jG.1.Cache.Age),(zi jG.1.Now),fV.2.2.2.2.2.2.2.2.2.2.1.v,fV.2.2.2.2.2.2.2.2.2.2.2.2.1.v,(zi jG.1.Spent),fV.2.2.2.2.2.2.2.2.2.2.2.2.2.2.1.v]),(.bool jG.2)]) (v:=(.bool jG.2)) (EN ha (.tmp rfl rfl) rfl) rfl) ?_
           refine cO rfl rfl .no (.cons (.t (.t (.t (.t (.t (.t (.t (.t (.t (.t (.t (.t (.t (.t (.t (.t (.t .h))))))))))))))))) .nil) (.dep rfl (.dep rfl .nil)) (fun ha=>gz (e':=(zg [fV.1.v,fV.2.2.1.v,fV.2.2.2.2.1.v,fV.2.2.2.2.2.2.1.v,(zi jG.1.Source.Version),fV.2.2.2.2.2.2.2.2.1.v,(zi jG.1.Cache.Age),(zi jG.1.Now),fV.2.2.2.2.2.2.2.2.2.2.1.v,fV.2.2.2.2.2.2.2.2.2.2.2.2.1.v,(zi jG.1.Spent),fV.2.2.2.2.2.2.2.2.2.2.2.2.2.2.1.v])) (v:=(zg [fV.1.v,fV.2.2.1.v,fV.2.2.2.2.1.v,fV.2.2.2.2.2.2.1.v,(zi jG.1.Source.Version),fV.2.2.2.2.2.2.2.2.1.v,(zi jG.1.Cache.Age),(zi jG.1.Now),fV.2.2.2.2.2.2.2.2.2.2.1.v,fV.2.2.2.2.2.2.2.2.2.2.2.2.1.v,(zi jG.1.Spent),fV.2.2.2.2.2.2.2.2.2.2.2.2.2.2.1.v])) fG.h.sz (EN ha (.tmp rfl rfl) rfl) (EN ha (.tmp rfl rfl) rfl) rfl rfl rfl rfl rfl) (fun _=>?_)
           refine du ?_
           refine aT ?_
           refine As (zg [fV.1.v,fV.2.2.1.v,fV.2.2.2.2.1.v,fV.2.2.2.2.2.2.1.v,(zi jG.1.Source.Version),fV.2.2.2.2.2.2.2.2.1.v,(zi jG.1.Cache.Age),(zi jG.1.Now),fV.2.2.2.2.2.2.2.2.2.2.1.v,fV.2.2.2.2.2.2.2.2.2.2.2.2.1.v,(zi jG.1.Spent),fV.2.2.2.2.2.2.2.2.2.2.2.2.2.2.1.v]) ?_
           refine au ?_
           cases hF
           exact⟨_,_,_,_,_,_,_,_,_,_,_,_,_,_,fV.1,fV.2.1,fV.2.2.1,fV.2.2.2.1,fV.2.2.2.2.1,fV.2.2.2.2.2.1,fV.2.2.2.2.2.2.1,fV.2.2.2.2.2.2.2.1,fV.2.2.2.2.2.2.2.2.1,fV.2.2.2.2.2.2.2.2.2.2.1,fV.2.2.2.2.2.2.2.2.2.2.2.1,fV.2.2.2.2.2.2.2.2.2.2.2.2.1,fV.2.2.2.2.2.2.2.2.2.2.2.2.2.1,fV.2.2.2.2.2.2.2.2.2.2.2.2.2.2.1,fV.2.2.2.2.2.2.2.2.2.2.2.2.2.2.2,_,rfl,aA,(.frz .q12 aG ay)⟩
         refine bg ?_
         refine Ci hF (fun avc hF=>?_) (fun avc hF=>?_)
         · refine jf [0,1,2,3,4,5,6,7,8] [0,0,2,6,15,31,63,63,127] [2,4,8] mixed (by decide+kernel) ?_
           refine dM rfl .no .q5 (fun ha hp=>h_ jl.h fG.h.sz rfl (EN ha (.tmp rfl rfl) rfl) hp.2 rfl) ?_
           refine du ?_
           refine bnd hF fun XQ avd hF=>cO rfl rfl .no (.cons .h (.rd (.t .h) rfl .nil)) (.own .q4 (fun _ h=>h) .nil) (fun ha=>bU Cj.h (.cons (EN ha (.tmp rfl rfl) rfl) (.cons (EN ha (.int _ _) rfl) .nil)) (kZ avd)) (fun aEj=>?_)
           refine du ?_
           refine bnd hF fun jH ave hF=>Vt rfl rfl .no (.cons .q13 (.cons .q12 (.cons .q11 (.cons .q9 (.cons .q8 (.cons .q7 (.cons .q6 (.rd .q6 rfl .nil)))))))) (.dep rfl .nil) (fun ha=>jk (pre:=_) (.cons aG (.cons aG (.cons aG (.cons aG (.cons aG (.cons aG (.cons aG .nil))))))) (fun _=>(.cons (.cons (.cons (.cons (.cons (.cons (.cons (.cons .nil))))))))) (iV (.rd .h rfl (.rd (.t .h) rfl (.rd .q2 rfl (.rd .q3 rfl (.rd .q7 rfl (.rd .q4 rfl (.rd .q5 rfl (.rd .q6 rfl .nil)))))))) (bU VV.h (.cons (EN ha (.tmp rfl rfl) rfl) (.cons (EN ha (.tmp rfl rfl) rfl) .nil)) (UH ave)))) (fun fZ=>?_)
           refine du ?_
           refine bW rfl .no (fun ha=>kv (l:=[(zg [fZ.1.v,fZ.2.2.1.v,fZ.2.2.2.2.1.v,fZ.2.2.2.2.2.2.1.v,(zi jH.1.Source.Version),fZ.2.2.2.2.2.2.2.2.1.v,(zi jH.1.Cache.Age),(zi jH.1.Now),fZ.2.2.2.2.2.2.2.2.2.2.1.v,fZ.2.2.2.2.2.2.2.2.2.2.2.2.1.v,(zi jH.1.Spent),fZ.2.2.2.2.2.2.2.2.2.2.2.2.2.2.1.v]),(.bool jH.2)]) (v:=(zg [fZ.1.v,fZ.2.2.1.v,fZ.2.2.2.2.1.v,fZ.2.2.2.2.2.2.1.v,(zi jH.1.Source.Version),fZ.2.2.2.2.2.2.2.2.1.v,(zi jH.1.Cache.Age),(zi jH.1.Now),fZ.2.2.2.2.2.2.2.2.2.2.1.v,fZ.2.2.2.2.2.2.2.2.2.2.2.2.1.v,(zi jH.1.Spent),fZ.2.2.2.2.2.2.2.2.2.2.2.2.2.2.1.v])) (EN ha (.tmp rfl rfl) rfl) rfl) ?_
           refine bW rfl .no (fun ha=>kv (l:=[(zg [fZ.1.v,fZ.2.2.1.v,fZ.2.2.2.2.1.v,fZ.2.2.2.2.2.2.1.v,(zi jH.1.Source.Version),fZ.2.2.2.2.2.2.2.2.1.v,(zi jH.1.Cache.Age),(zi jH.1.Now),fZ.2.2.2.2.2.2.2.2.2.2.1.v,fZ.2.2.2.2.2.2.2.2.2.2.2.2.1.v,(zi jH.1.Spent),fZ.2.2.2.2.2.2.2.2.2.2.2.2.2.2.1.v]),(.bool jH.2)]) (v:=(.bool jH.2)) (EN ha (.tmp rfl rfl) rfl) rfl) ?_
           refine cO rfl rfl .no (.cons (.t (.t (.t (.t (.t (.t (.t (.t (.t (.t (.t (.t (.t (.t (.t (.t .h)))))))))))))))) .nil) (.dep rfl .nil) (fun ha=>gz (e':=(zg [fZ.1.v,fZ.2.2.1.v,fZ.2.2.2.2.1.v,fZ.2.2.2.2.2.2.1.v,(zi jH.1.Source.Version),fZ.2.2.2.2.2.2.2.2.1.v,(zi jH.1.Cache.Age),(zi jH.1.Now),fZ.2.2.2.2.2.2.2.2.2.2.1.v,fZ.2.2.2.2.2.2.2.2.2.2.2.2.1.v,(zi jH.1.Spent),fZ.2.2.2.2.2.2.2.2.2.2.2.2.2.2.1.v])) (v:=(zg [fZ.1.v,fZ.2.2.1.v,fZ.2.2.2.2.1.v,fZ.2.2.2.2.2.2.1.v,(zi jH.1.Source.Version),fZ.2.2.2.2.2.2.2.2.1.v,(zi jH.1.Cache.Age),(zi jH.1.Now),fZ.2.2.2.2.2.2.2.2.2.2.1.v,fZ.2.2.2.2.2.2.2.2.2.2.2.2.1.v,(zi jH.1.Spent),fZ.2.2.2.2.2.2.2.2.2.2.2.2.2.2.1.v])) fG.h.sz (EN ha (.tmp rfl rfl) rfl) (EN ha (.tmp rfl rfl) rfl) rfl rfl rfl rfl rfl) (fun _=>?_)
           refine du ?_
           refine aT ?_
           refine As (zg [fZ.1.v,fZ.2.2.1.v,fZ.2.2.2.2.1.v,fZ.2.2.2.2.2.2.1.v,(zi jH.1.Source.Version),fZ.2.2.2.2.2.2.2.2.1.v,(zi jH.1.Cache.Age),(zi jH.1.Now),fZ.2.2.2.2.2.2.2.2.2.2.1.v,fZ.2.2.2.2.2.2.2.2.2.2.2.2.1.v,(zi jH.1.Spent),fZ.2.2.2.2.2.2.2.2.2.2.2.2.2.2.1.v]) ?_
           refine au ?_
           cases hF
           exact⟨_,_,_,_,_,_,_,_,_,_,_,_,_,_,fZ.1,fZ.2.1,fZ.2.2.1,fZ.2.2.2.1,fZ.2.2.2.2.1,fZ.2.2.2.2.2.1,fZ.2.2.2.2.2.2.1,fZ.2.2.2.2.2.2.2.1,fZ.2.2.2.2.2.2.2.2.1,fZ.2.2.2.2.2.2.2.2.2.2.1,fZ.2.2.2.2.2.2.2.2.2.2.2.1,fZ.2.2.2.2.2.2.2.2.2.2.2.2.1,fZ.2.2.2.2.2.2.2.2.2.2.2.2.2.1,fZ.2.2.2.2.2.2.2.2.2.2.2.2.2.2.1,fZ.2.2.2.2.2.2.2.2.2.2.2.2.2.2.2,_,rfl,aA,(.frz .q13 aG ay)⟩
         refine iD .q6 aG ?_
         refine iD .q7 aG ?_
         refine iD .q8 aG ?_
         refine iD .q9 aG ?_
         refine iD .q11 aG ?_
         refine iD .q12 aG ?_
         refine iD .q13 aG ?_
         refine jf [0,1,2,3,4,5,6,7,8] [0,0,0,6,15,31,63,63,127] [3,4,8] mixed (by decide+kernel) ?_
         refine dM rfl .no .q12 (fun ha hp=>h_ jl.h fG.h.sz rfl (EN ha (.tmp rfl rfl) rfl) hp.2 rfl) ?_
         refine bR ?_
         refine bnd hF fun Fu avf hF=>LY rfl rfl .no (.cons .q7 (.rd .q8 rfl (.rd .q10 rfl .nil))) (.own .q11 (fun _ h=>h) .nil) (fun ha=>Ex (post':=fun X4:Sv×List Nat×Sv×List Nat=>[ah X4.1 Fu.1.Head,eQ X4.2.2.1 Fu.1.Atoms,aW cz 77 (zg [ae.v,(zi Fu.2.i),(zi Fu.2.h)])]) (fun X4=>(.frz .h aG (.frz (.t .h) aG ay))) (bU VW.h (.cons (EN ha (.tmp rfl rfl) rfl) (.cons (EN ha (.tmp rfl rfl) rfl) .nil)) (UT avf))) (fun X4=>?_)
         refine bnd hF fun jI avg hF=>Yc (UJ avg) (fun f_=>?_)
         refine du ?_
         refine bW rfl .no (fun ha=>kv (l:=[(zg [f_.1.v,f_.2.2.1.v,f_.2.2.2.2.1.v,f_.2.2.2.2.2.2.1.v,(zi jI.1.Source.Version),f_.2.2.2.2.2.2.2.2.1.v,(zi jI.1.Cache.Age),(zi jI.1.Now),f_.2.2.2.2.2.2.2.2.2.1.v,f_.2.2.2.2.2.2.2.2.2.2.2.1.v,(zi jI.1.Spent),f_.2.2.2.2.2.2.2.2.2.2.2.2.2.1.v]),(.bool jI.2)]) (v:=(zg [f_.1.v,f_.2.2.1.v,f_.2.2.2.2.1.v,f_.2.2.2.2.2.2.1.v,(zi jI.1.Source.Version),f_.2.2.2.2.2.2.2.2.1.v,(zi jI.1.Cache.Age),(zi jI.1.Now),f_.2.2.2.2.2.2.2.2.2.1.v,f_.2.2.2.2.2.2.2.2.2.2.2.1.v,(zi jI.1.Spent),f_.2.2.2.2.2.2.2.2.2.2.2.2.2.1.v])) (EN ha (.tmp rfl rfl) rfl) rfl) ?_
         refine bW rfl .no (fun ha=>kv (l:=[(zg [f_.1.v,f_.2.2.1.v,f_.2.2.2.2.1.v,f_.2.2.2.2.2.2.1.v,(zi jI.1.Source.Version),f_.2.2.2.2.2.2.2.2.1.v,(zi jI.1.Cache.Age),(zi jI.1.Now),f_.2.2.2.2.2.2.2.2.2.1.v,f_.2.2.2.2.2.2.2.2.2.2.2.1.v,(zi jI.1.Spent),f_.2.2.2.2.2.2.2.2.2.2.2.2.2.1.v]),(.bool jI.2)]) (v:=(.bool jI.2)) (EN ha (.tmp rfl rfl) rfl) rfl) ?_
         refine cO rfl rfl .no (.cons (.t (.t (.t (.t (.t (.t (.t (.t (.t (.t (.t (.t (.t (.t (.t (.t (.t (.t .h)))))))))))))))))) .nil) (.dep rfl .nil) (fun ha=>gz (e':=(zg [f_.1.v,f_.2.2.1.v,f_.2.2.2.2.1.v,f_.2.2.2.2.2.2.1.v,(zi jI.1.Source.Version),f_.2.2.2.2.2.2.2.2.1.v,(zi jI.1.Cache.Age),(zi jI.1.Now),f_.2.2.2.2.2.2.2.2.2.1.v,f_.2.2.2.2.2.2.2.2.2.2.2.1.v,(zi jI.1.Spent),f_.2.2.2.2.2.2.2.2.2.2.2.2.2.1.v])) (v:=(zg [f_.1.v,f_.2.2.1.v,f_.2.2.2.2.1.v,f_.2.2.2.2.2.2.1.v,(zi jI.1.Source.Version),f_.2.2.2.2.2.2.2.2.1.v,(zi jI.1.Cache.Age),(zi jI.1.Now),f_.2.2.2.2.2.2.2.2.2.1.v,f_.2.2.2.2.2.2.2.2.2.2.2.1.v,(zi jI.1.Spent),f_.2.2.2.2.2.2.2.2.2.2.2.2.2.1.v])) fG.h.sz (EN ha (.tmp rfl rfl) rfl) (EN ha (.tmp rfl rfl) rfl) rfl rfl rfl rfl rfl) (fun _=>?_)
         refine du ?_
         refine aT ?_
         refine As (zg [f_.1.v,f_.2.2.1.v,f_.2.2.2.2.1.v,f_.2.2.2.2.2.2.1.v,(zi jI.1.Source.Version),f_.2.2.2.2.2.2.2.2.1.v,(zi jI.1.Cache.Age),(zi jI.1.Now),f_.2.2.2.2.2.2.2.2.2.1.v,f_.2.2.2.2.2.2.2.2.2.2.2.1.v,(zi jI.1.Spent),f_.2.2.2.2.2.2.2.2.2.2.2.2.2.1.v]) ?_
         refine au ?_
         cases hF
         exact⟨_,_,_,_,_,_,_,_,_,_,_,_,_,_,f_.1,f_.2.1,f_.2.2.1,f_.2.2.2.1,f_.2.2.2.2.1,f_.2.2.2.2.2.1,f_.2.2.2.2.2.2.1,f_.2.2.2.2.2.2.2.1,f_.2.2.2.2.2.2.2.2.1,f_.2.2.2.2.2.2.2.2.2.1,f_.2.2.2.2.2.2.2.2.2.2.1,f_.2.2.2.2.2.2.2.2.2.2.2.1,f_.2.2.2.2.2.2.2.2.2.2.2.2.1,f_.2.2.2.2.2.2.2.2.2.2.2.2.2.1,f_.2.2.2.2.2.2.2.2.2.2.2.2.2.2,_,rfl,aA,ay⟩
       refine bg ?_
       refine Ci hF (fun avh hF=>?_) (fun avh hF=>?_)
       · refine iD .q9 aG ?_
         refine jf [0,1,2,3,4,5,6,7,8,9,10] [0,0,0,0,8,30,63,127,255,255,511] [5,6,10] mixed (by decide+kernel) ?_
         refine dM rfl .no .q6 (fun ha hp=>h_ jl.h fG.h.sz rfl (EN ha (.tmp rfl rfl) rfl) hp.2 rfl) ?_
         refine dm ?_
         refine dM rfl .no .q6 (fun ha hp=>j3 (s:=2) (l:=[Fx.v,(zi ry)]) xP.h u6.h.sz (EN ha (.tmp rfl rfl) rfl) hp.2 rfl (by decide) (Nat.le_of_ble_eq_true rfl) rfl) ?_
         refine bnd hF fun XR avi hF=>oV rfl rfl .no (.cons (.t .h) (.rd .q2 rfl (.rd .q4 rfl (.rd .h rfl .nil)))) (.dep rfl (.own .q5 (fun _ h=>h) .nil)) (fun ha=>bU WW.h (.cons (EN ha (.tmp rfl rfl) rfl) (.cons (EN ha (.tmp rfl rfl) rfl) (.cons (EN ha (.tmp rfl rfl) rfl) .nil))) (UC avi)) (fun aEk=>?_)
         refine bnd hF fun jJ avj hF=>Vs rfl rfl .no (.cons .q14 (.cons .q13 (.cons .q12 (.cons .q10 (.cons .q9 (.cons .q8 (.rd .q2 rfl (.rd .q8 rfl (.rd .h rfl .nil))))))))) (.dep rfl (.dep rfl .nil)) (fun ha=>jk (pre:=_) (.cons aG (.cons aG (.cons aG (.cons aG (.cons aG (.cons aG .nil)))))) (fun _=>(.cons (.cons (.cons (.cons (.cons (.cons (.cons (.cons .nil))))))))) (iV (.rd .h rfl (.rd (.t .h) rfl (.rd .q2 rfl (.rd .q6 rfl (.rd .q7 rfl (.rd .q3 rfl (.rd .q4 rfl (.rd .q5 rfl (.rd .q8 rfl .nil))))))))) (bU WX.h (.cons (EN ha (.tmp rfl rfl) rfl) (.cons (EN ha (.tmp rfl rfl) rfl) .nil)) (Uy avj)))) (fun gm=>?_)
         refine du ?_
         refine bW rfl .no (fun ha=>kv (l:=[(zg [gm.1.v,gm.2.2.1.v,gm.2.2.2.2.1.v,gm.2.2.2.2.2.2.1.v,(zi jJ.1.Source.Version),gm.2.2.2.2.2.2.2.2.1.v,(zi jJ.1.Cache.Age),(zi jJ.1.Now),gm.2.2.2.2.2.2.2.2.2.2.1.v,gm.2.2.2.2.2.2.2.2.2.2.2.2.1.v,(zi jJ.1.Spent),gm.2.2.2.2.2.2.2.2.2.2.2.2.2.2.1.v]),(.bool jJ.2)]) (v:=(zg [gm.1.v,gm.2.2.1.v,gm.2.2.2.2.1.v,gm.2.2.2.2.2.2.1.v,(zi jJ.1.Source.Version),gm.2.2.2.2.2.2.2.2.1.v,(zi jJ.1.Cache.Age),(zi jJ.1.Now),gm.2.2.2.2.2.2.2.2.2.2.1.v,gm.2.2.2.2.2.2.2.2.2.2.2.2.1.v,(zi jJ.1.Spent),gm.2.2.2.2.2.2.2.2.2.2.2.2.2.2.1.v])) (EN ha (.tmp rfl rfl) rfl) rfl) ?_
         refine bW rfl .no (fun ha=>kv (l:=[(zg [gm.1.v,gm.2.2.1.v,gm.2.2.2.2.1.v,gm.2.2.2.2.2.2.1.v,(zi jJ.1.Source.Version),gm.2.2.2.2.2.2.2.2.1.v,(zi jJ.1.Cache.Age),(zi jJ.1.Now),gm.2.2.2.2.2.2.2.2.2.2.1.v,gm.2.2.2.2.2.2.2.2.2.2.2.2.1.v,(zi jJ.1.Spent),gm.2.2.2.2.2.2.2.2.2.2.2.2.2.2.1.v]),(.bool jJ.2)]) (v:=(.bool jJ.2)) (EN ha (.tmp rfl rfl) rfl) rfl) ?_
         refine cO rfl rfl .no (.cons (.t (.t (.t (.t (.t (.t (.t (.t (.t (.t (.t (.t (.t (.t (.t (.t (.t .h))))))))))))))))) .nil) (.dep rfl (.dep rfl .nil)) (fun ha=>gz (e':=(zg [gm.1.v,gm.2.2.1.v,gm.2.2.2.2.1.v,gm.2.2.2.2.2.2.1.v,(zi jJ.1.Source.Version),gm.2.2.2.2.2.2.2.2.1.v,(zi jJ.1.Cache.Age),(zi jJ.1.Now),gm.2.2.2.2.2.2.2.2.2.2.1.v,gm.2.2.2.2.2.2.2.2.2.2.2.2.1.v,(zi jJ.1.Spent),gm.2.2.2.2.2.2.2.2.2.2.2.2.2.2.1.v])) (v:=(zg [gm.1.v,gm.2.2.1.v,gm.2.2.2.2.1.v,gm.2.2.2.2.2.2.1.v,(zi jJ.1.Source.Version),gm.2.2.2.2.2.2.2.2.1.v,(zi jJ.1.Cache.Age),(zi jJ.1.Now),gm.2.2.2.2.2.2.2.2.2.2.1.v,gm.2.2.2.2.2.2.2.2.2.2.2.2.1.v,(zi jJ.1.Spent),gm.2.2.2.2.2.2.2.2.2.2.2.2.2.2.1.v])) fG.h.sz (EN ha (.tmp rfl rfl) rfl) (EN ha (.tmp rfl rfl) rfl) rfl rfl rfl rfl rfl) (fun _=>?_)
         refine du ?_
         refine aT ?_
         refine As (zg [gm.1.v,gm.2.2.1.v,gm.2.2.2.2.1.v,gm.2.2.2.2.2.2.1.v,(zi jJ.1.Source.Version),gm.2.2.2.2.2.2.2.2.1.v,(zi jJ.1.Cache.Age),(zi jJ.1.Now),gm.2.2.2.2.2.2.2.2.2.2.1.v,gm.2.2.2.2.2.2.2.2.2.2.2.2.1.v,(zi jJ.1.Spent),gm.2.2.2.2.2.2.2.2.2.2.2.2.2.2.1.v]) ?_
         refine au ?_
         cases hF
         exact⟨_,_,_,_,_,_,_,_,_,_,_,_,_,_,gm.1,gm.2.1,gm.2.2.1,gm.2.2.2.1,gm.2.2.2.2.1,gm.2.2.2.2.2.1,gm.2.2.2.2.2.2.1,gm.2.2.2.2.2.2.2.1,gm.2.2.2.2.2.2.2.2.1,gm.2.2.2.2.2.2.2.2.2.2.1,gm.2.2.2.2.2.2.2.2.2.2.2.1,gm.2.2.2.2.2.2.2.2.2.2.2.2.1,gm.2.2.2.2.2.2.2.2.2.2.2.2.2.1,gm.2.2.2.2.2.2.2.2.2.2.2.2.2.2.1,gm.2.2.2.2.2.2.2.2.2.2.2.2.2.2.2,_,rfl,aA,(.frz .q12 aG ay)⟩
       refine bg ?_
       refine Ci hF (fun avk hF=>?_) (fun avk hF=>?_)
       · refine jf [0,1,2,3,4,5,6,7,8] [0,0,2,6,15,31,63,63,127] [2,4,8] mixed (by decide+kernel) ?_
         refine dM rfl .no .q5 (fun ha hp=>h_ jl.h fG.h.sz rfl (EN ha (.tmp rfl rfl) rfl) hp.2 rfl) ?_
         refine du ?_
         refine bnd hF fun XT avl hF=>cO rfl rfl .no (.cons .h (.rd (.t .h) rfl .nil)) (.own .q4 (fun _ h=>h) .nil) (fun ha=>bU Cj.h (.cons (EN ha (.tmp rfl rfl) rfl) (.cons (EN ha (.int _ _) rfl) .nil)) (kZ avl)) (fun aEl=>?_)
         refine du ?_
         refine bnd hF fun jK avm hF=>Vt rfl rfl .no (.cons .q13 (.cons .q12 (.cons .q11 (.cons .q9 (.cons .q8 (.cons .q7 (.cons .q6 (.rd .q6 rfl .nil)))))))) (.dep rfl .nil) (fun ha=>jk (pre:=_) (.cons aG (.cons aG (.cons aG (.cons aG (.cons aG (.cons aG (.cons aG .nil))))))) (fun _=>(.cons (.cons (.cons (.cons (.cons (.cons (.cons (.cons .nil))))))))) (iV (.rd .h rfl (.rd (.t .h) rfl (.rd .q2 rfl (.rd .q3 rfl (.rd .q7 rfl (.rd .q4 rfl (.rd .q5 rfl (.rd .q6 rfl .nil)))))))) (bU VV.h (.cons (EN ha (.tmp rfl rfl) rfl) (.cons (EN ha (.tmp rfl rfl) rfl) .nil)) (UH avm)))) (fun gq=>?_)
         refine du ?_
         refine bW rfl .no (fun ha=>kv (l:=[(zg [gq.1.v,gq.2.2.1.v,gq.2.2.2.2.1.v,gq.2.2.2.2.2.2.1.v,(zi jK.1.Source.Version),gq.2.2.2.2.2.2.2.2.1.v,(zi jK.1.Cache.Age),(zi jK.1.Now),gq.2.2.2.2.2.2.2.2.2.2.1.v,gq.2.2.2.2.2.2.2.2.2.2.2.2.1.v,(zi jK.1.Spent),gq.2.2.2.2.2.2.2.2.2.2.2.2.2.2.1.v]),(.bool jK.2)]) (v:=(zg [gq.1.v,gq.2.2.1.v,gq.2.2.2.2.1.v,gq.2.2.2.2.2.2.1.v,(zi jK.1.Source.Version),gq.2.2.2.2.2.2.2.2.1.v,(zi jK.1.Cache.Age),(zi jK.1.Now),gq.2.2.2.2.2.2.2.2.2.2.1.v,gq.2.2.2.2.2.2.2.2.2.2.2.2.1.v,(zi jK.1.Spent),gq.2.2.2.2.2.2.2.2.2.2.2.2.2.2.1.v])) (EN ha (.tmp rfl rfl) rfl) rfl) ?_
         refine bW rfl .no (fun ha=>kv (l:=[(zg [gq.1.v,gq.2.2.1.v,gq.2.2.2.2.1.v,gq.2.2.2.2.2.2.1.v,(zi jK.1.Source.Version),gq.2.2.2.2.2.2.2.2.1.v,(zi jK.1.Cache.Age),(zi jK.1.Now),gq.2.2.2.2.2.2.2.2.2.2.1.v,gq.2.2.2.2.2.2.2.2.2.2.2.2.1.v,(zi jK.1.Spent),gq.2.2.2.2.2.2.2.2.2.2.2.2.2.2.1.v]),(.bool jK.2)]) (v:=(.bool jK.2)) (EN ha (.tmp rfl rfl) rfl) rfl) ?_
         refine cO rfl rfl .no (.cons (.t (.t (.t (.t (.t (.t (.t (.t (.t (.t (.t (.t (.t (.t (.t (.t .h)))))))))))))))) .nil) (.dep rfl .nil) (fun ha=>gz (e':=(zg [gq.1.v,gq.2.2.1.v,gq.2.2.2.2.1.v,gq.2.2.2.2.2.2.1.v,(zi jK.1.Source.Version),gq.2.2.2.2.2.2.2.2.1.v,(zi jK.1.Cache.Age),(zi jK.1.Now),gq.2.2.2.2.2.2.2.2.2.2.1.v,gq.2.2.2.2.2.2.2.2.2.2.2.2.1.v,(zi jK.1.Spent),gq.2.2.2.2.2.2.2.2.2.2.2.2.2.2.1.v])) (v:=(zg [gq.1.v,gq.2.2.1.v,gq.2.2.2.2.1.v,gq.2.2.2.2.2.2.1.v,(zi jK.1.Source.Version),gq.2.2.2.2.2.2.2.2.1.v,(zi jK.1.Cache.Age),(zi jK.1.Now),gq.2.2.2.2.2.2.2.2.2.2.1.v,gq.2.2.2.2.2.2.2.2.2.2.2.2.1.v,(zi jK.1.Spent),gq.2.2.2.2.2.2.2.2.2.2.2.2.2.2.1.v])) fG.h.sz (EN ha (.tmp rfl rfl) rfl) (EN ha (.tmp rfl rfl) rfl) rfl rfl rfl rfl rfl) (fun _=>?_)
         refine du ?_
         refine aT ?_
         refine As (zg [gq.1.v,gq.2.2.1.v,gq.2.2.2.2.1.v,gq.2.2.2.2.2.2.1.v,(zi jK.1.Source.Version),gq.2.2.2.2.2.2.2.2.1.v,(zi jK.1.Cache.Age),(zi jK.1.Now),gq.2.2.2.2.2.2.2.2.2.2.1.v,gq.2.2.2.2.2.2.2.2.2.2.2.2.1.v,(zi jK.1.Spent),gq.2.2.2.2.2.2.2.2.2.2.2.2.2.2.1.v]) ?_
         refine au ?_
         cases hF
         exact⟨_,_,_,_,_,_,_,_,_,_,_,_,_,_,gq.1,gq.2.1,gq.2.2.1,gq.2.2.2.1,gq.2.2.2.2.1,gq.2.2.2.2.2.1,gq.2.2.2.2.2.2.1,gq.2.2.2.2.2.2.2.1,gq.2.2.2.2.2.2.2.2.1,gq.2.2.2.2.2.2.2.2.2.2.1,gq.2.2.2.2.2.2.2.2.2.2.2.1,gq.2.2.2.2.2.2.2.2.2.2.2.2.1,gq.2.2.2.2.2.2.2.2.2.2.2.2.2.1,gq.2.2.2.2.2.2.2.2.2.2.2.2.2.2.1,gq.2.2.2.2.2.2.2.2.2.2.2.2.2.2.2,_,rfl,aA,(.frz .q13 aG ay)⟩
       refine iD .q6 aG ?_
       refine iD .q7 aG ?_
       refine iD .q8 aG ?_
       refine iD .q9 aG ?_
       refine iD .q11 aG ?_
       refine iD .q12 aG ?_
       refine iD .q13 aG ?_
       refine jf [0,1,2,3,4,5,6,7,8] [0,0,0,6,15,31,63,63,127] [3,4,8] mixed (by decide+kernel) ?_
       refine dM rfl .no .q12 (fun ha hp=>h_ jl.h fG.h.sz rfl (EN ha (.tmp rfl rfl) rfl) hp.2 rfl) ?_
       refine bR ?_
       refine bnd hF fun Fv avn hF=>LY rfl rfl .no (.cons .q7 (.rd .q8 rfl (.rd .q10 rfl .nil))) (.own .q11 (fun _ h=>h) .nil) (fun ha=>Ex (post':=fun X5:Sv×List Nat×Sv×List Nat=>[ah X5.1 Fv.1.Head,eQ X5.2.2.1 Fv.1.Atoms,aW cz 77 (zg [ae.v,(zi Fv.2.i),(zi Fv.2.h)])]) (fun X5=>(.frz .h aG (.frz (.t .h) aG ay))) (bU VW.h (.cons (EN ha (.tmp rfl rfl) rfl) (.cons (EN ha (.tmp rfl rfl) rfl) .nil)) (UT avn))) (fun X5=>?_)
       refine bnd hF fun jL avo hF=>Yc (UJ avo) (fun gu=>?_)
       refine du ?_
       refine bW rfl .no (fun ha=>kv (l:=[(zg [gu.1.v,gu.2.2.1.v,gu.2.2.2.2.1.v,gu.2.2.2.2.2.2.1.v,(zi jL.1.Source.Version),gu.2.2.2.2.2.2.2.2.1.v,(zi jL.1.Cache.Age),(zi jL.1.Now),gu.2.2.2.2.2.2.2.2.2.1.v,gu.2.2.2.2.2.2.2.2.2.2.2.1.v,(zi jL.1.Spent),gu.2.2.2.2.2.2.2.2.2.2.2.2.2.1.v]),(.bool jL.2)]) (v:=(zg [gu.1.v,gu.2.2.1.v,gu.2.2.2.2.1.v,gu.2.2.2.2.2.2.1.v,(zi jL.1.Source.Version),gu.2.2.2.2.2.2.2.2.1.v,(zi jL.1.Cache.Age),(zi jL.1.Now),gu.2.2.2.2.2.2.2.2.2.1.v,gu.2.2.2.2.2.2.2.2.2.2.2.1.v,(zi jL.1.Spent),gu.2.2.2.2.2.2.2.2.2.2.2.2.2.1.v])) (EN ha (.tmp rfl rfl) rfl) rfl) ?_
       refine bW rfl .no (fun ha=>kv (l:=[(zg [gu.1.v,gu.2.2.1.v,gu.2.2.2.2.1.v,gu.2.2.2.2.2.2.1.v,(zi jL.1.Source.Version),gu.2.2.2.2.2.2.2.2.1.v,(zi jL.1.Cache.Age),(zi jL.1.Now),gu.2.2.2.2.2.2.2.2.2.1.v,gu.2.2.2.2.2.2.2.2.2.2.2.1.v,(zi jL.1.Spent),gu.2.2.2.2.2.2.2.2.2.2.2.2.2.1.v]),(.bool jL.2)]) (v:=(.bool jL.2)) (EN ha (.tmp rfl rfl) rfl) rfl) ?_
       refine cO rfl rfl .no (.cons (.t (.t (.t (.t (.t (.t (.t (.t (.t (.t (.t (.t (.t (.t (.t (.t (.t (.t .h)))))))))))))))))) .nil) (.dep rfl .nil) (fun ha=>gz (e':=(zg [gu.1.v,gu.2.2.1.v,gu.2.2.2.2.1.v,gu.2.2.2.2.2.2.1.v,(zi jL.1.Source.Version),gu.2.2.2.2.2.2.2.2.1.v,(zi jL.1.Cache.Age),(zi jL.1.Now),gu.2.2.2.2.2.2.2.2.2.1.v,gu.2.2.2.2.2.2.2.2.2.2.2.1.v,(zi jL.1.Spent),gu.2.2.2.2.2.2.2.2.2.2.2.2.2.1.v])) (v:=(zg [gu.1.v,gu.2.2.1.v,gu.2.2.2.2.1.v,gu.2.2.2.2.2.2.1.v,(zi jL.1.Source.Version),gu.2.2.2.2.2.2.2.2.1.v,(zi jL.1.Cache.Age),(zi jL.1.Now),gu.2.2.2.2.2.2.2.2.2.1.v,gu.2.2.2.2.2.2.2.2.2.2.2.1.v,(zi jL.1.Spent),gu.2.2.2.2.2.2.2.2.2.2.2.2.2.1.v])) fG.h.sz (EN ha (.tmp rfl rfl) rfl) (EN ha (.tmp rfl rfl) rfl) rfl rfl rfl rfl rfl) (fun _=>?_)
       refine du ?_
       refine aT ?_
       refine As (zg [gu.1.v,gu.2.2.1.v,gu.2.2.2.2.1.v,gu.2.2.2.2.2.2.1.v,(zi jL.1.Source.Version),gu.2.2.2.2.2.2.2.2.1.v,(zi jL.1.Cache.Age),(zi jL.1.Now),gu.2.2.2.2.2.2.2.2.2.1.v,gu.2.2.2.2.2.2.2.2.2.2.2.1.v,(zi jL.1.Spent),gu.2.2.2.2.2.2.2.2.2.2.2.2.2.1.v]) ?_
       refine au ?_
       cases hF
       exact⟨_,_,_,_,_,_,_,_,_,_,_,_,_,_,gu.1,gu.2.1,gu.2.2.1,gu.2.2.2.1,gu.2.2.2.2.1,gu.2.2.2.2.2.1,gu.2.2.2.2.2.2.1,gu.2.2.2.2.2.2.2.1,gu.2.2.2.2.2.2.2.2.1,gu.2.2.2.2.2.2.2.2.2.1,gu.2.2.2.2.2.2.2.2.2.2.1,gu.2.2.2.2.2.2.2.2.2.2.2.1,gu.2.2.2.2.2.2.2.2.2.2.2.2.1,gu.2.2.2.2.2.2.2.2.2.2.2.2.2.1,gu.2.2.2.2.2.2.2.2.2.2.2.2.2.2,_,rfl,aA,ay⟩
     rintro _ _ ⟨Sw,Sy,Sz,SA,SB,SC,SE,SF,SG,SH,SI,SK,SN,SQ,XU,ado,XV,adp,XW,adq,XX,adr,XY,XZ,ads,X0,adt,X3,adu,aEm,rfl,rfl,hE⟩
     replace hF:=au8
     try dsimp only at hF
     refine bq hE ?_
     refine aY ?_
     exact⟨Ju,bX _,_,_,_,_,_,_,_,_,_,_,_,_,_,_,_,_,_,M8,XU,ado,XV,adp,XW,adq,XX,adr,XY,XZ,ads,X0,adt,X3,adu,aA,ay,hF⟩
   refine bB ?_
   refine As (zg [M9.v,M_.v,Na.v,Fx.v,(zi ry),Nb.v,(zi vJ),(zi vK),Nc.v,Nf.v,(zi vL),Ng.v]) ?_
   refine aT ?_
   cases hF
   exact Er (M9,adh,M_,adi,Na,adj,Fx,adk,Nb,Nc,adl,Nf,adm,Ng,adn)
 refine bg ?_
 refine bnd hF fun M7 avp hF=>gy (kZ avp) (fun aEn=>?_)
 refine aT ?_
 refine bi (bT (m:=((M7.1-0).toNat+2)) (fun IX f' cs'=>∃(g:Fr)(Mi Mj:Int)(zA xE:List Int)(xG:List Method)(xH:List df)(uU:List Fact)(qJ:Int)(xI:List cB)(uV uW:Int)(xJ:List Access)(xK:List Int)(uX:Int)(xL:List (List (List Int)))(IY:Int)(Ml Mm:Sv)(abh:List Nat)(Mo:Sv)(abj:List Nat)(Mq:Sv)(abk:List Nat)(EL:Sv)(abl:List Nat)(Mr Ms:Sv)(abm:List Nat)(Mt:Sv)(abn:List Nat)(Mv:Sv)(abo:List Nat),f'=aQ g [(0,(pz cz)),(2,(pz k1)),(3,Ml.v),(4,(pz k11)),(12,(zi IY))]/\aN cs' [aW cz 77 (zg [ae.v,(zi Mi),(zi Mj)]),ku ae ak.b,aW k1 36 (.agg ([(.slice none 0 0),(.slice none 0 0),(.slice none 0 0),(.slice none 0 0),(zi 0),(.slice none 0 0),(zi 0),(zi 0),(.slice none 0 0),(.slice none 0 0),(zi 0),(.slice none 0 0)]:List Value).toArray),ah Ml zA,aW k11 36 (zg [Mm.v,Mo.v,Mq.v,EL.v,(zi qJ),Mr.v,(zi uV),(zi uW),Ms.v,Mt.v,(zi uX),Mv.v]),bI abh Mm xE,nC abj Mo xG,mi abk Mq xH,eG abl EL uU,dK Mr xI,kF abm Ms xJ,bI abn Mt xK,aU (aF 152 (aF 24 (aF 3 (aC az)))) abo Mv.v xL]/\Gi ak fuel IX Mi Mj zA xE xG xH uU qJ xI uV uW xJ xK uX xL IY=some R) ⟨_,_,_,_,_,_,_,_,_,_,_,_,_,_,_,_,_,p4.1,v34,F35,v37,F38,v40,JZ,v43,F44,v47,v52,F53,v55,F56,v59,J8,aA,(.frz (.t .h) aG (.frz .q10 aG ay)),hF⟩ ?_)
 rintro IX _ _ ⟨aBz,Mi,Mj,zA,xE,xG,xH,uU,qJ,xI,uV,uW,xJ,xK,uX,xL,IY,Ml,Mm,abh,Mo,abj,Mq,abk,EL,abl,Mr,Ms,abm,Mt,abn,Mv,abo,rfl,hE,hF⟩
 refine bq hE ?_
 rcases IX with _|IX
 · rw[Gi]at hF
   exact absurd hF (by simp)
 rw[Gi]at hF
 refine aY ?_
 refine Ci hF (fun aq4 hF=>?_) (fun aq4 hF=>?_)
 · refine au ?_
   obtain⟨abg,apv,aq5⟩:=bind_some hF
   refine iC (fun f' cs'=>∃(QF QG:Int)(QH:List Int)(QI:List Method)(QJ:List df)(QK:List Fact)(QL:Int)(QM:List cB)(QN QO:Int)(QP:List Access)(QQ:List Int)(QR:Int)(QS:List (List (List Int)))(WA:Sv)(abp:List Nat)(WB:Sv)(abq:List Nat)(WC:Sv)(abr:List Nat)(WE:Sv)(abt:List Nat)(WF WG:Sv)(abu:List Nat)(WH:Sv)(abv:List Nat)(WI:Sv)(abw:List Nat)(g:Fr),abg=(QF,QG,QH,QI,QJ,QK,QL,QM,QN,QO,QP,QQ,QR,QS)/\f'=aQ g [(0,(pz cz)),(2,(pz k1)),(3,Ml.v),(4,(pz k11)),(12,(zi IY))]/\aN cs' [aW cz 77 (zg [ae.v,(zi QF),(zi QG)]),ku ae ak.b,aW k1 36 (.agg ([(.slice none 0 0),(.slice none 0 0),(.slice none 0 0),(.slice none 0 0),(zi 0),(.slice none 0 0),(zi 0),(zi 0),(.slice none 0 0),(.slice none 0 0),(zi 0),(.slice none 0 0)]:List Value).toArray),ah Ml zA,aW k11 36 (zg [WA.v,WB.v,WC.v,WE.v,(zi QL),WF.v,(zi QN),(zi QO),WG.v,WH.v,(zi QR),WI.v]),bI abp WA QH,nC abq WB QI,mi abr WC QJ,eG abt WE QK,dK WF QM,kF abu WG QP,bI abv WH QQ,aU (aF 152 (aF 24 (aF 3 (aC az)))) abw WI.v QS]) ?_ ?_
   · replace hF:=apv
     refine bi (dY (fo .q4 (fun hp=>h_ jl.h fG.h.sz rfl (.tmp rfl rfl) hp.2 rfl) ?_))
     refine dX (fun aBA=>?_)
     refine As (zg [Mm.v,Mo.v,Mq.v,EL.v,(zi qJ),Mr.v,(zi uV),(zi uW),Ms.v,Mt.v,(zi uX),Mv.v]) ?_
     refine bg ?_
     refine bnd hF fun pg hx1237 hF=>gy (kZ hx1237) (fun aBB=>?_)
     refine au ?_
     refine bi (lX (dY (aP (BO (i:=pg.1) (j:=0) (.tmp rfl rfl) (.int _ _)) ?_)))
     refine aT ?_
     refine Ci hF (fun aq6 hF=>?_) (fun aq6 hF=>?_)
     · refine au ?_
       refine Ci hF (fun aq7 hF=>?_) (fun aq7 hF=>?_)
       · refine iD .q9 aG ?_
         refine jf [0,1,2,3,4,5,6,7,8,9,10] [0,0,0,0,8,30,63,127,255,255,511] [5,6,10] mixed (by decide+kernel) ?_
         refine dM rfl .no .q6 (fun ha hp=>h_ jl.h fG.h.sz rfl (EN ha (.tmp rfl rfl) rfl) hp.2 rfl) ?_
         refine dm ?_
         refine dM rfl .no .q6 (fun ha hp=>j3 (s:=2) (l:=[EL.v,(zi qJ)]) xP.h u6.h.sz (EN ha (.tmp rfl rfl) rfl) hp.2 rfl (by decide) (Nat.le_of_ble_eq_true rfl) rfl) ?_
         refine bnd hF fun Ww hx1240 hF=>oV rfl rfl .no (.cons (.t .h) (.rd .q2 rfl (.rd .q4 rfl (.rd .h rfl .nil)))) (.dep rfl (.own .q5 (fun _ h=>h) .nil)) (fun ha=>bU WW.h (.cons (EN ha (.tmp rfl rfl) rfl) (.cons (EN ha (.tmp rfl rfl) rfl) (.cons (EN ha (.tmp rfl rfl) rfl) .nil))) (UC hx1240)) (fun aBC=>?_)
         refine bnd hF fun jy aq8 hF=>Vs rfl rfl .no (.cons .q14 (.cons .q13 (.cons .q12 (.cons .q10 (.cons .q9 (.cons .q8 (.rd .q2 rfl (.rd .q8 rfl (.rd .h rfl .nil))))))))) (.dep rfl (.dep rfl .nil)) (fun ha=>jk (pre:=_) (.cons aG (.cons aG (.cons aG (.cons aG (.cons aG (.cons aG .nil)))))) (fun _=>(.cons (.cons (.cons (.cons (.cons (.cons (.cons (.cons .nil))))))))) (iV (.rd .h rfl (.rd (.t .h) rfl (.rd .q2 rfl (.rd .q6 rfl (.rd .q7 rfl (.rd .q3 rfl (.rd .q4 rfl (.rd .q5 rfl (.rd .q8 rfl .nil))))))))) (bU WX.h (.cons (EN ha (.tmp rfl rfl) rfl) (.cons (EN ha (.tmp rfl rfl) rfl) .nil)) (Uy aq8)))) (fun fJ=>?_)
         refine du ?_
         refine bW rfl .no (fun ha=>kv (l:=[(zg [fJ.1.v,fJ.2.2.1.v,fJ.2.2.2.2.1.v,fJ.2.2.2.2.2.2.1.v,(zi jy.1.Source.Version),fJ.2.2.2.2.2.2.2.2.1.v,(zi jy.1.Cache.Age),(zi jy.1.Now),fJ.2.2.2.2.2.2.2.2.2.2.1.v,fJ.2.2.2.2.2.2.2.2.2.2.2.2.1.v,(zi jy.1.Spent),fJ.2.2.2.2.2.2.2.2.2.2.2.2.2.2.1.v]),(.bool jy.2)]) (v:=(zg [fJ.1.v,fJ.2.2.1.v,fJ.2.2.2.2.1.v,fJ.2.2.2.2.2.2.1.v,(zi jy.1.Source.Version),fJ.2.2.2.2.2.2.2.2.1.v,(zi jy.1.Cache.Age),(zi jy.1.Now),fJ.2.2.2.2.2.2.2.2.2.2.1.v,fJ.2.2.2.2.2.2.2.2.2.2.2.2.1.v,(zi jy.1.Spent),fJ.2.2.2.2.2.2.2.2.2.2.2.2.2.2.1.v])) (EN ha (.tmp rfl rfl) rfl) rfl) ?_
         refine bW rfl .no (fun ha=>kv (l:=[(zg [fJ.1.v,fJ.2.2.1.v,fJ.2.2.2.2.1.v,fJ.2.2.2.2.2.2.1.v,(zi jy.1.Source.Version),fJ.2.2.2.2.2.2.2.2.1.v,(zi jy.1.Cache.Age),(zi jy.1.Now),fJ.2.2.2.2.2.2.2.2.2.2.1.v,fJ.2.2.2.2.2.2.2.2.2.2.2.2.1.v,(zi jy.1.Spent),fJ.2.2.2.2.2.2.2.2.2.2.2.2.2.2.1.v]),(.bool jy.2)]) (v:=(.bool jy.2)) (EN ha (.tmp rfl rfl) rfl) rfl) ?_
         refine cO rfl rfl .no (.cons (.t (.t (.t (.t (.t (.t (.t (.t (.t (.t (.t (.t (.t (.t (.t (.t (.t .h))))))))))))))))) .nil) (.dep rfl (.dep rfl .nil)) (fun ha=>gz (e':=(zg [fJ.1.v,fJ.2.2.1.v,fJ.2.2.2.2.1.v,fJ.2.2.2.2.2.2.1.v,(zi jy.1.Source.Version),fJ.2.2.2.2.2.2.2.2.1.v,(zi jy.1.Cache.Age),(zi jy.1.Now),fJ.2.2.2.2.2.2.2.2.2.2.1.v,fJ.2.2.2.2.2.2.2.2.2.2.2.2.1.v,(zi jy.1.Spent),fJ.2.2.2.2.2.2.2.2.2.2.2.2.2.2.1.v])) (v:=(zg [fJ.1.v,fJ.2.2.1.v,fJ.2.2.2.2.1.v,fJ.2.2.2.2.2.2.1.v,(zi jy.1.Source.Version),fJ.2.2.2.2.2.2.2.2.1.v,(zi jy.1.Cache.Age),(zi jy.1.Now),fJ.2.2.2.2.2.2.2.2.2.2.1.v,fJ.2.2.2.2.2.2.2.2.2.2.2.2.1.v,(zi jy.1.Spent),fJ.2.2.2.2.2.2.2.2.2.2.2.2.2.2.1.v])) fG.h.sz (EN ha (.tmp rfl rfl) rfl) (EN ha (.tmp rfl rfl) rfl) rfl rfl rfl rfl rfl) (fun _=>?_)
         refine du ?_
         refine aT ?_
         refine As (zg [fJ.1.v,fJ.2.2.1.v,fJ.2.2.2.2.1.v,fJ.2.2.2.2.2.2.1.v,(zi jy.1.Source.Version),fJ.2.2.2.2.2.2.2.2.1.v,(zi jy.1.Cache.Age),(zi jy.1.Now),fJ.2.2.2.2.2.2.2.2.2.2.1.v,fJ.2.2.2.2.2.2.2.2.2.2.2.2.1.v,(zi jy.1.Spent),fJ.2.2.2.2.2.2.2.2.2.2.2.2.2.2.1.v]) ?_
         refine au ?_
         cases hF
         exact⟨_,_,_,_,_,_,_,_,_,_,_,_,_,_,fJ.1,fJ.2.1,fJ.2.2.1,fJ.2.2.2.1,fJ.2.2.2.2.1,fJ.2.2.2.2.2.1,fJ.2.2.2.2.2.2.1,fJ.2.2.2.2.2.2.2.1,fJ.2.2.2.2.2.2.2.2.1,fJ.2.2.2.2.2.2.2.2.2.2.1,fJ.2.2.2.2.2.2.2.2.2.2.2.1,fJ.2.2.2.2.2.2.2.2.2.2.2.2.1,fJ.2.2.2.2.2.2.2.2.2.2.2.2.2.1,fJ.2.2.2.2.2.2.2.2.2.2.2.2.2.2.1,fJ.2.2.2.2.2.2.2.2.2.2.2.2.2.2.2,_,rfl,aA,(.frz .q12 aG ay)⟩
       refine bg ?_
       refine Ci hF (fun aq9 hF=>?_) (fun aq9 hF=>?_)
       · refine jf [0,1,2,3,4,5,6,7,8] [0,0,2,6,15,31,63,63,127] [2,4,8] mixed (by decide+kernel) ?_
         refine dM rfl .no .q5 (fun ha hp=>h_ jl.h fG.h.sz rfl (EN ha (.tmp rfl rfl) rfl) hp.2 rfl) ?_
         refine du ?_
         refine bnd hF fun Wx aq_ hF=>cO rfl rfl .no (.cons .h (.rd (.t .h) rfl .nil)) (.own .q4 (fun _ h=>h) .nil) (fun ha=>bU Cj.h (.cons (EN ha (.tmp rfl rfl) rfl) (.cons (EN ha (.int _ _) rfl) .nil)) (kZ aq_)) (fun aBD=>?_)
         refine du ?_
         refine bnd hF fun jA ara hF=>Vt rfl rfl .no (.cons .q13 (.cons .q12 (.cons .q11 (.cons .q9 (.cons .q8 (.cons .q7 (.cons .q6 (.rd .q6 rfl .nil)))))))) (.dep rfl .nil) (fun ha=>jk (pre:=_) (.cons aG (.cons aG (.cons aG (.cons aG (.cons aG (.cons aG (.cons aG .nil))))))) (fun _=>(.cons (.cons (.cons (.cons (.cons (.cons (.cons (.cons .nil))))))))) (iV (.rd .h rfl (.rd (.t .h) rfl (.rd .q2 rfl (.rd .q3 rfl (.rd .q7 rfl (.rd .q4 rfl (.rd .q5 rfl (.rd .q6 rfl .nil)))))))) (bU VV.h (.cons (EN ha (.tmp rfl rfl) rfl) (.cons (EN ha (.tmp rfl rfl) rfl) .nil)) (UH ara)))) (fun fK=>?_)
         refine du ?_
         refine bW rfl .no (fun ha=>kv (l:=[(zg [fK.1.v,fK.2.2.1.v,fK.2.2.2.2.1.v,fK.2.2.2.2.2.2.1.v,(zi jA.1.Source.Version),fK.2.2.2.2.2.2.2.2.1.v,(zi jA.1.Cache.Age),(zi jA.1.Now),fK.2.2.2.2.2.2.2.2.2.2.1.v,fK.2.2.2.2.2.2.2.2.2.2.2.2.1.v,(zi jA.1.Spent),fK.2.2.2.2.2.2.2.2.2.2.2.2.2.2.1.v]),(.bool jA.2)]) (v:=(zg [fK.1.v,fK.2.2.1.v,fK.2.2.2.2.1.v,fK.2.2.2.2.2.2.1.v,(zi jA.1.Source.Version),fK.2.2.2.2.2.2.2.2.1.v,(zi jA.1.Cache.Age),(zi jA.1.Now),fK.2.2.2.2.2.2.2.2.2.2.1.v,fK.2.2.2.2.2.2.2.2.2.2.2.2.1.v,(zi jA.1.Spent),fK.2.2.2.2.2.2.2.2.2.2.2.2.2.2.1.v])) (EN ha (.tmp rfl rfl) rfl) rfl) ?_
         refine bW rfl .no (fun ha=>kv (l:=[(zg [fK.1.v,fK.2.2.1.v,fK.2.2.2.2.1.v,fK.2.2.2.2.2.2.1.v,(zi jA.1.Source.Version),fK.2.2.2.2.2.2.2.2.1.v,(zi jA.1.Cache.Age),(zi jA.1.Now),fK.2.2.2.2.2.2.2.2.2.2.1.v,fK.2.2.2.2.2.2.2.2.2.2.2.2.1.v,(zi jA.1.Spent),fK.2.2.2.2.2.2.2.2.2.2.2.2.2.2.1.v]),(.bool jA.2)]) (v:=(.bool jA.2)) (EN ha (.tmp rfl rfl) rfl) rfl) ?_
         refine cO rfl rfl .no (.cons (.t (.t (.t (.t (.t (.t (.t (.t (.t (.t (.t (.t (.t (.t (.t (.t .h)))))))))))))))) .nil) (.dep rfl .nil) (fun ha=>gz (e':=(zg [fK.1.v,fK.2.2.1.v,fK.2.2.2.2.1.v,fK.2.2.2.2.2.2.1.v,(zi jA.1.Source.Version),fK.2.2.2.2.2.2.2.2.1.v,(zi jA.1.Cache.Age),(zi jA.1.Now),fK.2.2.2.2.2.2.2.2.2.2.1.v,fK.2.2.2.2.2.2.2.2.2.2.2.2.1.v,(zi jA.1.Spent),fK.2.2.2.2.2.2.2.2.2.2.2.2.2.2.1.v])) (v:=(zg [fK.1.v,fK.2.2.1.v,fK.2.2.2.2.1.v,fK.2.2.2.2.2.2.1.v,(zi jA.1.Source.Version),fK.2.2.2.2.2.2.2.2.1.v,(zi jA.1.Cache.Age),(zi jA.1.Now),fK.2.2.2.2.2.2.2.2.2.2.1.v,fK.2.2.2.2.2.2.2.2.2.2.2.2.1.v,(zi jA.1.Spent),fK.2.2.2.2.2.2.2.2.2.2.2.2.2.2.1.v])) fG.h.sz (EN ha (.tmp rfl rfl) rfl) (EN ha (.tmp rfl rfl) rfl) rfl rfl rfl rfl rfl) (fun _=>?_)
         refine du ?_
         refine aT ?_
         refine As (zg [fK.1.v,fK.2.2.1.v,fK.2.2.2.2.1.v,fK.2.2.2.2.2.2.1.v,(zi jA.1.Source.Version),fK.2.2.2.2.2.2.2.2.1.v,(zi jA.1.Cache.Age),(zi jA.1.Now),fK.2.2.2.2.2.2.2.2.2.2.1.v,fK.2.2.2.2.2.2.2.2.2.2.2.2.1.v,(zi jA.1.Spent),fK.2.2.2.2.2.2.2.2.2.2.2.2.2.2.1.v]) ?_
         refine au ?_
         cases hF
         exact⟨_,_,_,_,_,_,_,_,_,_,_,_,_,_,fK.1,fK.2.1,fK.2.2.1,fK.2.2.2.1,fK.2.2.2.2.1,fK.2.2.2.2.2.1,fK.2.2.2.2.2.2.1,fK.2.2.2.2.2.2.2.1,fK.2.2.2.2.2.2.2.2.1,fK.2.2.2.2.2.2.2.2.2.2.1,fK.2.2.2.2.2.2.2.2.2.2.2.1,fK.2.2.2.2.2.2.2.2.2.2.2.2.1,fK.2.2.2.2.2.2.2.2.2.2.2.2.2.1,fK.2.2.2.2.2.2.2.2.2.2.2.2.2.2.1,fK.2.2.2.2.2.2.2.2.2.2.2.2.2.2.2,_,rfl,aA,(.frz .q13 aG ay)⟩
       refine iD .q6 aG ?_
       refine iD .q7 aG ?_
       refine iD .q8 aG ?_
       refine iD .q9 aG ?_
       refine iD .q11 aG ?_
       refine iD .q12 aG ?_
       refine iD .q13 aG ?_
       refine jf [0,1,2,3,4,5,6,7,8] [0,0,0,6,15,31,63,63,127] [3,4,8] mixed (by decide+kernel) ?_
       refine dM rfl .no .q12 (fun ha hp=>h_ jl.h fG.h.sz rfl (EN ha (.tmp rfl rfl) rfl) hp.2 rfl) ?_
       refine bR ?_
       refine bnd hF fun EJ arb hF=>LY rfl rfl .no (.cons .q7 (.rd .q8 rfl (.rd .q10 rfl .nil))) (.own .q11 (fun _ h=>h) .nil) (fun ha=>Ex (post':=fun WJ:Sv×List Nat×Sv×List Nat=>[ah WJ.1 EJ.1.Head,eQ WJ.2.2.1 EJ.1.Atoms,aW cz 77 (zg [ae.v,(zi EJ.2.i),(zi EJ.2.h)])]) (fun WJ=>(.frz .h aG (.frz (.t .h) aG ay))) (bU VW.h (.cons (EN ha (.tmp rfl rfl) rfl) (.cons (EN ha (.tmp rfl rfl) rfl) .nil)) (UT arb))) (fun WJ=>?_)
       refine bnd hF fun jB arc hF=>Yc (UJ arc) (fun fM=>?_)
       refine du ?_
       refine bW rfl .no (fun ha=>kv (l:=[(zg [fM.1.v,fM.2.2.1.v,fM.2.2.2.2.1.v,fM.2.2.2.2.2.2.1.v,(zi jB.1.Source.Version),fM.2.2.2.2.2.2.2.2.1.v,(zi jB.1.Cache.Age),(zi jB.1.Now),fM.2.2.2.2.2.2.2.2.2.1.v,fM.2.2.2.2.2.2.2.2.2.2.2.1.v,(zi jB.1.Spent),fM.2.2.2.2.2.2.2.2.2.2.2.2.2.1.v]),(.bool jB.2)]) (v:=(zg [fM.1.v,fM.2.2.1.v,fM.2.2.2.2.1.v,fM.2.2.2.2.2.2.1.v,(zi jB.1.Source.Version),fM.2.2.2.2.2.2.2.2.1.v,(zi jB.1.Cache.Age),(zi jB.1.Now),fM.2.2.2.2.2.2.2.2.2.1.v,fM.2.2.2.2.2.2.2.2.2.2.2.1.v,(zi jB.1.Spent),fM.2.2.2.2.2.2.2.2.2.2.2.2.2.1.v])) (EN ha (.tmp rfl rfl) rfl) rfl) ?_
       refine bW rfl .no (fun ha=>kv (l:=[(zg [fM.1.v,fM.2.2.1.v,fM.2.2.2.2.1.v,fM.2.2.2.2.2.2.1.v,(zi jB.1.Source.Version),fM.2.2.2.2.2.2.2.2.1.v,(zi jB.1.Cache.Age),(zi jB.1.Now),fM.2.2.2.2.2.2.2.2.2.1.v,fM.2.2.2.2.2.2.2.2.2.2.2.1.v,(zi jB.1.Spent),fM.2.2.2.2.2.2.2.2.2.2.2.2.2.1.v]),(.bool jB.2)]) (v:=(.bool jB.2)) (EN ha (.tmp rfl rfl) rfl) rfl) ?_
       refine cO rfl rfl .no (.cons (.t (.t (.t (.t (.t (.t (.t (.t (.t (.t (.t (.t (.t (.t (.t (.t (.t (.t .h)))))))))))))))))) .nil) (.dep rfl .nil) (fun ha=>gz (e':=(zg [fM.1.v,fM.2.2.1.v,fM.2.2.2.2.1.v,fM.2.2.2.2.2.2.1.v,(zi jB.1.Source.Version),fM.2.2.2.2.2.2.2.2.1.v,(zi jB.1.Cache.Age),(zi jB.1.Now),fM.2.2.2.2.2.2.2.2.2.1.v,fM.2.2.2.2.2.2.2.2.2.2.2.1.v,(zi jB.1.Spent),fM.2.2.2.2.2.2.2.2.2.2.2.2.2.1.v])) (v:=(zg [fM.1.v,fM.2.2.1.v,fM.2.2.2.2.1.v,fM.2.2.2.2.2.2.1.v,(zi jB.1.Source.Version),fM.2.2.2.2.2.2.2.2.1.v,(zi jB.1.Cache.Age),(zi jB.1.Now),fM.2.2.2.2.2.2.2.2.2.1.v,fM.2.2.2.2.2.2.2.2.2.2.2.1.v,(zi jB.1.Spent),fM.2.2.2.2.2.2.2.2.2.2.2.2.2.1.v])) fG.h.sz (EN ha (.tmp rfl rfl) rfl) (EN ha (.tmp rfl rfl) rfl) rfl rfl rfl rfl rfl) (fun _=>?_)
       refine du ?_
       refine aT ?_
       refine As (zg [fM.1.v,fM.2.2.1.v,fM.2.2.2.2.1.v,fM.2.2.2.2.2.2.1.v,(zi jB.1.Source.Version),fM.2.2.2.2.2.2.2.2.1.v,(zi jB.1.Cache.Age),(zi jB.1.Now),fM.2.2.2.2.2.2.2.2.2.1.v,fM.2.2.2.2.2.2.2.2.2.2.2.1.v,(zi jB.1.Spent),fM.2.2.2.2.2.2.2.2.2.2.2.2.2.1.v]) ?_
       refine au ?_
       cases hF
       exact⟨_,_,_,_,_,_,_,_,_,_,_,_,_,_,fM.1,fM.2.1,fM.2.2.1,fM.2.2.2.1,fM.2.2.2.2.1,fM.2.2.2.2.2.1,fM.2.2.2.2.2.2.1,fM.2.2.2.2.2.2.2.1,fM.2.2.2.2.2.2.2.2.1,fM.2.2.2.2.2.2.2.2.2.1,fM.2.2.2.2.2.2.2.2.2.2.1,fM.2.2.2.2.2.2.2.2.2.2.2.1,fM.2.2.2.2.2.2.2.2.2.2.2.2.1,fM.2.2.2.2.2.2.2.2.2.2.2.2.2.1,fM.2.2.2.2.2.2.2.2.2.2.2.2.2.2,_,rfl,aA,ay⟩
     refine bg ?_
     refine Ci hF (fun ard hF=>?_) (fun ard hF=>?_)
     · refine iD .q9 aG ?_
       refine jf [0,1,2,3,4,5,6,7,8,9,10] [0,0,0,0,8,30,63,127,255,255,511] [5,6,10] mixed (by decide+kernel) ?_
       refine dM rfl .no .q6 (fun ha hp=>h_ jl.h fG.h.sz rfl (EN ha (.tmp rfl rfl) rfl) hp.2 rfl) ?_
       refine dm ?_
       refine dM rfl .no .q6 (fun ha hp=>j3 (s:=2) (l:=[EL.v,(zi qJ)]) xP.h u6.h.sz (EN ha (.tmp rfl rfl) rfl) hp.2 rfl (by decide) (Nat.le_of_ble_eq_true rfl) rfl) ?_
       refine bnd hF fun Wy arf hF=>oV rfl rfl .no (.cons (.t .h) (.rd .q2 rfl (.rd .q4 rfl (.rd .h rfl .nil)))) (.dep rfl (.own .q5 (fun _ h=>h) .nil)) (fun ha=>bU WW.h (.cons (EN ha (.tmp rfl rfl) rfl) (.cons (EN ha (.tmp rfl rfl) rfl) (.cons (EN ha (.tmp rfl rfl) rfl) .nil))) (UC arf)) (fun aBE=>?_)
       refine bnd hF fun jC arh hF=>Vs rfl rfl .no (.cons .q14 (.cons .q13 (.cons .q12 (.cons .q10 (.cons .q9 (.cons .q8 (.rd .q2 rfl (.rd .q8 rfl (.rd .h rfl .nil))))))))) (.dep rfl (.dep rfl .nil)) (fun ha=>jk (pre:=_) (.cons aG (.cons aG (.cons aG (.cons aG (.cons aG (.cons aG .nil)))))) (fun _=>(.cons (.cons (.cons (.cons (.cons (.cons (.cons (.cons .nil))))))))) (iV (.rd .h rfl (.rd (.t .h) rfl (.rd .q2 rfl (.rd .q6 rfl (.rd .q7 rfl (.rd .q3 rfl (.rd .q4 rfl (.rd .q5 rfl (.rd .q8 rfl .nil))))))))) (bU WX.h (.cons (EN ha (.tmp rfl rfl) rfl) (.cons (EN ha (.tmp rfl rfl) rfl) .nil)) (Uy arh)))) (fun fO=>?_)
       refine du ?_
       refine bW rfl .no (fun ha=>kv (l:=[(zg [fO.1.v,fO.2.2.1.v,fO.2.2.2.2.1.v,fO.2.2.2.2.2.2.1.v,(zi jC.1.Source.Version),fO.2.2.2.2.2.2.2.2.1.v,(zi jC.1.Cache.Age),(zi jC.1.Now),fO.2.2.2.2.2.2.2.2.2.2.1.v,fO.2.2.2.2.2.2.2.2.2.2.2.2.1.v,(zi jC.1.Spent),fO.2.2.2.2.2.2.2.2.2.2.2.2.2.2.1.v]),(.bool jC.2)]) (v:=(zg [fO.1.v,fO.2.2.1.v,fO.2.2.2.2.1.v,fO.2.2.2.2.2.2.1.v,(zi jC.1.Source.Version),fO.2.2.2.2.2.2.2.2.1.v,(zi jC.1.Cache.Age),(zi jC.1.Now),fO.2.2.2.2.2.2.2.2.2.2.1.v,fO.2.2.2.2.2.2.2.2.2.2.2.2.1.v,(zi jC.1.Spent),fO.2.2.2.2.2.2.2.2.2.2.2.2.2.2.1.v])) (EN ha (.tmp rfl rfl) rfl) rfl) ?_
       refine bW rfl .no (fun ha=>kv (l:=[(zg [fO.1.v,fO.2.2.1.v,fO.2.2.2.2.1.v,fO.2.2.2.2.2.2.1.v,(zi jC.1.Source.Version),fO.2.2.2.2.2.2.2.2.1.v,(zi jC.1.Cache.Age),(zi jC.1.Now),fO.2.2.2.2.2.2.2.2.2.2.1.v,fO.2.2.2.2.2.2.2.2.2.2.2.2.1.v,(zi jC.1.Spent),fO.2.2.2.2.2.2.2.2.2.2.2.2.2.2.1.v]),(.bool jC.2)]) (v:=(.bool jC.2)) (EN ha (.tmp rfl rfl) rfl) rfl) ?_
       refine cO rfl rfl .no (.cons (.t (.t (.t (.t (.t (.t (.t (.t (.t (.t (.t (.t (.t (.t (.t (.t (.t .h))))))))))))))))) .nil) (.dep rfl (.dep rfl .nil)) (fun ha=>gz (e':=(zg [fO.1.v,fO.2.2.1.v,fO.2.2.2.2.1.v,fO.2.2.2.2.2.2.1.v,(zi jC.1.Source.Version),fO.2.2.2.2.2.2.2.2.1.v,(zi jC.1.Cache.Age),(zi jC.1.Now),fO.2.2.2.2.2.2.2.2.2.2.1.v,fO.2.2.2.2.2.2.2.2.2.2.2.2.1.v,(zi jC.1.Spent),fO.2.2.2.2.2.2.2.2.2.2.2.2.2.2.1.v])) (v:=(zg [fO.1.v,fO.2.2.1.v,fO.2.2.2.2.1.v,fO.2.2.2.2.2.2.1.v,(zi jC.1.Source.Version),fO.2.2.2.2.2.2.2.2.1.v,(zi jC.1.Cache.Age),(zi jC.1.Now),fO.2.2.2.2.2.2.2.2.2.2.1.v,fO.2.2.2.2.2.2.2.2.2.2.2.2.1.v,(zi jC.1.Spent),fO.2.2.2.2.2.2.2.2.2.2.2.2.2.2.1.v])) fG.h.sz (EN ha (.tmp rfl rfl) rfl) (EN ha (.tmp rfl rfl) rfl) rfl rfl rfl rfl rfl) (fun _=>?_)
       refine du ?_
       refine aT ?_
       refine As (zg [fO.1.v,fO.2.2.1.v,fO.2.2.2.2.1.v,fO.2.2.2.2.2.2.1.v,(zi jC.1.Source.Version),fO.2.2.2.2.2.2.2.2.1.v,(zi jC.1.Cache.Age),(zi jC.1.Now),fO.2.2.2.2.2.2.2.2.2.2.1.v,fO.2.2.2.2.2.2.2.2.2.2.2.2.1.v,(zi jC.1.Spent),fO.2.2.2.2.2.2.2.2.2.2.2.2.2.2.1.v]) ?_
       refine au ?_
       cases hF
       exact⟨_,_,_,_,_,_,_,_,_,_,_,_,_,_,fO.1,fO.2.1,fO.2.2.1,fO.2.2.2.1,fO.2.2.2.2.1,fO.2.2.2.2.2.1,fO.2.2.2.2.2.2.1,fO.2.2.2.2.2.2.2.1,fO.2.2.2.2.2.2.2.2.1,fO.2.2.2.2.2.2.2.2.2.2.1,fO.2.2.2.2.2.2.2.2.2.2.2.1,fO.2.2.2.2.2.2.2.2.2.2.2.2.1,fO.2.2.2.2.2.2.2.2.2.2.2.2.2.1,fO.2.2.2.2.2.2.2.2.2.2.2.2.2.2.1,fO.2.2.2.2.2.2.2.2.2.2.2.2.2.2.2,_,rfl,aA,(.frz .q12 aG ay)⟩
     refine bg ?_
     refine Ci hF (fun ari hF=>?_) (fun ari hF=>?_)
     · refine jf [0,1,2,3,4,5,6,7,8] [0,0,2,6,15,31,63,63,127] [2,4,8] mixed (by decide+kernel) ?_
       refine dM rfl .no .q5 (fun ha hp=>h_ jl.h fG.h.sz rfl (EN ha (.tmp rfl rfl) rfl) hp.2 rfl) ?_
       refine du ?_
       refine bnd hF fun Wz arj hF=>cO rfl rfl .no (.cons .h (.rd (.t .h) rfl .nil)) (.own .q4 (fun _ h=>h) .nil) (fun ha=>bU Cj.h (.cons (EN ha (.tmp rfl rfl) rfl) (.cons (EN ha (.int _ _) rfl) .nil)) (kZ arj)) (fun aBF=>?_)
       refine du ?_
       refine bnd hF fun jD ark hF=>Vt rfl rfl .no (.cons .q13 (.cons .q12 (.cons .q11 (.cons .q9 (.cons .q8 (.cons .q7 (.cons .q6 (.rd .q6 rfl .nil)))))))) (.dep rfl .nil) (fun ha=>jk (pre:=_) (.cons aG (.cons aG (.cons aG (.cons aG (.cons aG (.cons aG (.cons aG .nil))))))) (fun _=>(.cons (.cons (.cons (.cons (.cons (.cons (.cons (.cons .nil))))))))) (iV (.rd .h rfl (.rd (.t .h) rfl (.rd .q2 rfl (.rd .q3 rfl (.rd .q7 rfl (.rd .q4 rfl (.rd .q5 rfl (.rd .q6 rfl .nil)))))))) (bU VV.h (.cons (EN ha (.tmp rfl rfl) rfl) (.cons (EN ha (.tmp rfl rfl) rfl) .nil)) (UH ark)))) (fun fP=>?_)
       refine du ?_
       refine bW rfl .no (fun ha=>kv (l:=[(zg [fP.1.v,fP.2.2.1.v,fP.2.2.2.2.1.v,fP.2.2.2.2.2.2.1.v,(zi jD.1.Source.Version),fP.2.2.2.2.2.2.2.2.1.v,(zi jD.1.Cache.Age),(zi jD.1.Now),fP.2.2.2.2.2.2.2.2.2.2.1.v,fP.2.2.2.2.2.2.2.2.2.2.2.2.1.v,(zi jD.1.Spent),fP.2.2.2.2.2.2.2.2.2.2.2.2.2.2.1.v]),(.bool jD.2)]) (v:=(zg [fP.1.v,fP.2.2.1.v,fP.2.2.2.2.1.v,fP.2.2.2.2.2.2.1.v,(zi jD.1.Source.Version),fP.2.2.2.2.2.2.2.2.1.v,(zi jD.1.Cache.Age),(zi jD.1.Now),fP.2.2.2.2.2.2.2.2.2.2.1.v,fP.2.2.2.2.2.2.2.2.2.2.2.2.1.v,(zi jD.1.Spent),fP.2.2.2.2.2.2.2.2.2.2.2.2.2.2.1.v])) (EN ha (.tmp rfl rfl) rfl) rfl) ?_
       refine bW rfl .no (fun ha=>kv (l:=[(zg [fP.1.v,fP.2.2.1.v,fP.2.2.2.2.1.v,fP.2.2.2.2.2.2.1.v,(zi jD.1.Source.Version),fP.2.2.2.2.2.2.2.2.1.v,(zi jD.1.Cache.Age),(zi jD.1.Now),fP.2.2.2.2.2.2.2.2.2.2.1.v,fP.2.2.2.2.2.2.2.2.2.2.2.2.1.v,(zi jD.1.Spent),fP.2.2.2.2.2.2.2.2.2.2.2.2.2.2.1.v]),(.bool jD.2)]) (v:=(.bool jD.2)) (EN ha (.tmp rfl rfl) rfl) rfl) ?_
       refine cO rfl rfl .no (.cons (.t (.t (.t (.t (.t (.t (.t (.t (.t (.t (.t (.t (.t (.t (.t (.t .h)))))))))))))))) .nil) (.dep rfl .nil) (fun ha=>gz (e':=(zg [fP.1.v,fP.2.2.1.v,fP.2.2.2.2.1.v,fP.2.2.2.2.2.2.1.v,(zi jD.1.Source.Version),fP.2.2.2.2.2.2.2.2.1.v,(zi jD.1.Cache.Age),(zi jD.1.Now),fP.2.2.2.2.2.2.2.2.2.2.1.v,fP.2.2.2.2.2.2.2.2.2.2.2.2.1.v,(zi jD.1.Spent),fP.2.2.2.2.2.2.2.2.2.2.2.2.2.2.1.v])) (v:=(zg [fP.1.v,fP.2.2.1.v,fP.2.2.2.2.1.v,fP.2.2.2.2.2.2.1.v,(zi jD.1.Source.Version),fP.2.2.2.2.2.2.2.2.1.v,(zi jD.1.Cache.Age),(zi jD.1.Now),fP.2.2.2.2.2.2.2.2.2.2.1.v,fP.2.2.2.2.2.2.2.2.2.2.2.2.1.v,(zi jD.1.Spent),fP.2.2.2.2.2.2.2.2.2.2.2.2.2.2.1.v])) fG.h.sz (EN ha (.tmp rfl rfl) rfl) (EN ha (.tmp rfl rfl) rfl) rfl rfl rfl rfl rfl) (fun _=>?_)
       refine du ?_
       refine aT ?_
       refine As (zg [fP.1.v,fP.2.2.1.v,fP.2.2.2.2.1.v,fP.2.2.2.2.2.2.1.v,(zi jD.1.Source.Version),fP.2.2.2.2.2.2.2.2.1.v,(zi jD.1.Cache.Age),(zi jD.1.Now),fP.2.2.2.2.2.2.2.2.2.2.1.v,fP.2.2.2.2.2.2.2.2.2.2.2.2.1.v,(zi jD.1.Spent),fP.2.2.2.2.2.2.2.2.2.2.2.2.2.2.1.v]) ?_
       refine au ?_
       cases hF
       exact⟨_,_,_,_,_,_,_,_,_,_,_,_,_,_,fP.1,fP.2.1,fP.2.2.1,fP.2.2.2.1,fP.2.2.2.2.1,fP.2.2.2.2.2.1,fP.2.2.2.2.2.2.1,fP.2.2.2.2.2.2.2.1,fP.2.2.2.2.2.2.2.2.1,fP.2.2.2.2.2.2.2.2.2.2.1,fP.2.2.2.2.2.2.2.2.2.2.2.1,fP.2.2.2.2.2.2.2.2.2.2.2.2.1,fP.2.2.2.2.2.2.2.2.2.2.2.2.2.1,fP.2.2.2.2.2.2.2.2.2.2.2.2.2.2.1,fP.2.2.2.2.2.2.2.2.2.2.2.2.2.2.2,_,rfl,aA,(.frz .q13 aG ay)⟩
     refine iD .q6 aG ?_
     refine iD .q7 aG ?_
     refine iD .q8 aG ?_
     refine iD .q9 aG ?_
     refine iD .q11 aG ?_
     refine iD .q12 aG ?_
     refine iD .q13 aG ?_
     refine jf [0,1,2,3,4,5,6,7,8] [0,0,0,6,15,31,63,63,127] [3,4,8] mixed (by decide+kernel) ?_
     refine dM rfl .no .q12 (fun ha hp=>h_ jl.h fG.h.sz rfl (EN ha (.tmp rfl rfl) rfl) hp.2 rfl) ?_
     refine bR ?_
     refine bnd hF fun EK arl hF=>LY rfl rfl .no (.cons .q7 (.rd .q8 rfl (.rd .q10 rfl .nil))) (.own .q11 (fun _ h=>h) .nil) (fun ha=>Ex (post':=fun WK:Sv×List Nat×Sv×List Nat=>[ah WK.1 EK.1.Head,eQ WK.2.2.1 EK.1.Atoms,aW cz 77 (zg [ae.v,(zi EK.2.i),(zi EK.2.h)])]) (fun WK=>(.frz .h aG (.frz (.t .h) aG ay))) (bU VW.h (.cons (EN ha (.tmp rfl rfl) rfl) (.cons (EN ha (.tmp rfl rfl) rfl) .nil)) (UT arl))) (fun WK=>?_)
     refine bnd hF fun jE arn hF=>Yc (UJ arn) (fun fQ=>?_)
     refine du ?_
     refine bW rfl .no (fun ha=>kv (l:=[(zg [fQ.1.v,fQ.2.2.1.v,fQ.2.2.2.2.1.v,fQ.2.2.2.2.2.2.1.v,(zi jE.1.Source.Version),fQ.2.2.2.2.2.2.2.2.1.v,(zi jE.1.Cache.Age),(zi jE.1.Now),fQ.2.2.2.2.2.2.2.2.2.1.v,fQ.2.2.2.2.2.2.2.2.2.2.2.1.v,(zi jE.1.Spent),fQ.2.2.2.2.2.2.2.2.2.2.2.2.2.1.v]),(.bool jE.2)]) (v:=(zg [fQ.1.v,fQ.2.2.1.v,fQ.2.2.2.2.1.v,fQ.2.2.2.2.2.2.1.v,(zi jE.1.Source.Version),fQ.2.2.2.2.2.2.2.2.1.v,(zi jE.1.Cache.Age),(zi jE.1.Now),fQ.2.2.2.2.2.2.2.2.2.1.v,fQ.2.2.2.2.2.2.2.2.2.2.2.1.v,(zi jE.1.Spent),fQ.2.2.2.2.2.2.2.2.2.2.2.2.2.1.v])) (EN ha (.tmp rfl rfl) rfl) rfl) ?_
     refine bW rfl .no (fun ha=>kv (l:=[(zg [fQ.1.v,fQ.2.2.1.v,fQ.2.2.2.2.1.v,fQ.2.2.2.2.2.2.1.v,(zi jE.1.Source.Version),fQ.2.2.2.2.2.2.2.2.1.v,(zi jE.1.Cache.Age),(zi jE.1.Now),fQ.2.2.2.2.2.2.2.2.2.1.v,fQ.2.2.2.2.2.2.2.2.2.2.2.1.v,(zi jE.1.Spent),fQ.2.2.2.2.2.2.2.2.2.2.2.2.2.1.v]),(.bool jE.2)]) (v:=(.bool jE.2)) (EN ha (.tmp rfl rfl) rfl) rfl) ?_
     refine cO rfl rfl .no (.cons (.t (.t (.t (.t (.t (.t (.t (.t (.t (.t (.t (.t (.t (.t (.t (.t (.t (.t .h)))))))))))))))))) .nil) (.dep rfl .nil) (fun ha=>gz (e':=(zg [fQ.1.v,fQ.2.2.1.v,fQ.2.2.2.2.1.v,fQ.2.2.2.2.2.2.1.v,(zi jE.1.Source.Version),fQ.2.2.2.2.2.2.2.2.1.v,(zi jE.1.Cache.Age),(zi jE.1.Now),fQ.2.2.2.2.2.2.2.2.2.1.v,fQ.2.2.2.2.2.2.2.2.2.2.2.1.v,(zi jE.1.Spent),fQ.2.2.2.2.2.2.2.2.2.2.2.2.2.1.v])) (v:=(zg [fQ.1.v,fQ.2.2.1.v,fQ.2.2.2.2.1.v,fQ.2.2.2.2.2.2.1.v,(zi jE.1.Source.Version),fQ.2.2.2.2.2.2.2.2.1.v,(zi jE.1.Cache.Age),(zi jE.1.Now),fQ.2.2.2.2.2.2.2.2.2.1.v,fQ.2.2.2.2.2.2.2.2.2.2.2.1.v,(zi jE.1.Spent),fQ.2.2.2.2.2.2.2.2.2.2.2.2.2.1.v])) fG.h.sz (EN ha (.tmp rfl rfl) rfl) (EN ha (.tmp rfl rfl) rfl) rfl rfl rfl rfl rfl) (fun _=>?_)
     refine du ?_
     refine aT ?_
     refine As (zg [fQ.1.v,fQ.2.2.1.v,fQ.2.2.2.2.1.v,fQ.2.2.2.2.2.2.1.v,(zi jE.1.Source.Version),fQ.2.2.2.2.2.2.2.2.1.v,(zi jE.1.Cache.Age),(zi jE.1.Now),fQ.2.2.2.2.2.2.2.2.2.1.v,fQ.2.2.2.2.2.2.2.2.2.2.2.1.v,(zi jE.1.Spent),fQ.2.2.2.2.2.2.2.2.2.2.2.2.2.1.v]) ?_
     refine au ?_
     cases hF
     exact⟨_,_,_,_,_,_,_,_,_,_,_,_,_,_,fQ.1,fQ.2.1,fQ.2.2.1,fQ.2.2.2.1,fQ.2.2.2.2.1,fQ.2.2.2.2.2.1,fQ.2.2.2.2.2.2.1,fQ.2.2.2.2.2.2.2.1,fQ.2.2.2.2.2.2.2.2.1,fQ.2.2.2.2.2.2.2.2.2.1,fQ.2.2.2.2.2.2.2.2.2.2.1,fQ.2.2.2.2.2.2.2.2.2.2.2.1,fQ.2.2.2.2.2.2.2.2.2.2.2.2.1,fQ.2.2.2.2.2.2.2.2.2.2.2.2.2.1,fQ.2.2.2.2.2.2.2.2.2.2.2.2.2.2,_,rfl,aA,ay⟩
   rintro _ _ ⟨QF,QG,QH,QI,QJ,QK,QL,QM,QN,QO,QP,QQ,QR,QS,WA,abp,WB,abq,WC,abr,WE,abt,WF,WG,abu,WH,abv,WI,abw,aBG,rfl,rfl,hE⟩
   replace hF:=aq5
   try dsimp only at hF
   refine bq hE ?_
   refine aY ?_
   exact⟨IX,bX _,_,_,_,_,_,_,_,_,_,_,_,_,_,_,_,_,_,Ml,WA,abp,WB,abq,WC,abr,WE,abt,WF,WG,abu,WH,abv,WI,abw,aA,ay,hF⟩
 refine bB ?_
 refine As (zg [Mm.v,Mo.v,Mq.v,EL.v,(zi qJ),Mr.v,(zi uV),(zi uW),Ms.v,Mt.v,(zi uX),Mv.v]) ?_
 refine aT ?_
 cases hF
 exact Er (Mm,abh,Mo,abj,Mq,abk,EL,abl,Mr,Ms,abm,Mt,abn,Mv,abo)
def Vl(fuel:Nat)(ak:bv):Option (aZ×bv):=
 (UK fuel ak).bind fun r2=>
 (kw (⟨ak.b,r2.2.i,r2.2.h⟩:bv) 16).bind fun r6=>
 if ((r6.1:Int)==0)then (
   (KW (⟨ak.b,r6.2.i,r6.2.h⟩:bv) ([(-1),10000,10001]:List Int)).bind fun lS=>
   some ((⟨r2.1.Schema,r2.1.Methods,r2.1.Rules,r2.1.Source,r2.1.Cache,lS.1,r2.1.Log,r2.1.Times,r2.1.Spent,r2.1.Results⟩:aZ),(⟨ak.b,lS.2.i,lS.2.h⟩:bv)))
 else (
   if ((r6.1:Int)==1)then (
     (app r2.1.Times ([3]:List Int)).bind fun z14=>
     some ((⟨r2.1.Schema,r2.1.Methods,r2.1.Rules,r2.1.Source,r2.1.Cache,r2.1.Now,r2.1.Log,z14,r2.1.Spent,r2.1.Results⟩:aZ),(⟨ak.b,r6.2.i,r6.2.h⟩:bv)))
   else (
     if ((r6.1:Int)==2)then (
       (KW (⟨ak.b,r6.2.i,r6.2.h⟩:bv) ([(-1),900000,900001,1000001]:List Int)).bind fun ng=>
       some ((⟨r2.1.Schema,r2.1.Methods,r2.1.Rules,r2.1.Source,r2.1.Cache,r2.1.Now,r2.1.Log,r2.1.Times,ng.1,r2.1.Results⟩:aZ),(⟨ak.b,ng.2.i,ng.2.h⟩:bv)))
     else (
       some (r2.1,(⟨ak.b,r6.2.i,r6.2.h⟩:bv)))))
theorem anT{fuel cz:Nat}{ak:bv}{ae:Sv}{R:aZ×bv}(hF:Vl fuel ak=some R):
   Fw.Spec Tryz.prog 24 [(pz cz)] [aW cz 77 (zg [ae.v,(zi ak.i),(zi ak.h)]),ku ae ak.b] (fun p:Sv×List Nat×Sv×List Nat×Sv×List Nat×Sv×List Nat×Sv×Sv×List Nat×Sv×List Nat×Sv×List Nat=>(zg [p.1.v,p.2.2.1.v,p.2.2.2.2.1.v,p.2.2.2.2.2.2.1.v,(zi R.1.Source.Version),p.2.2.2.2.2.2.2.2.1.v,(zi R.1.Cache.Age),(zi R.1.Now),p.2.2.2.2.2.2.2.2.2.1.v,p.2.2.2.2.2.2.2.2.2.2.2.1.v,(zi R.1.Spent),p.2.2.2.2.2.2.2.2.2.2.2.2.2.1.v])) (fun p=>[bI p.2.1 p.1 R.1.Schema,nC p.2.2.2.1 p.2.2.1 R.1.Methods,mi p.2.2.2.2.2.1 p.2.2.2.2.1 R.1.Rules,eG p.2.2.2.2.2.2.2.1 p.2.2.2.2.2.2.1 R.1.Source.Facts,dK p.2.2.2.2.2.2.2.2.1 R.1.Cache.Entries,kF p.2.2.2.2.2.2.2.2.2.2.1 p.2.2.2.2.2.2.2.2.2.1 R.1.Log,bI p.2.2.2.2.2.2.2.2.2.2.2.2.1 p.2.2.2.2.2.2.2.2.2.2.2.1 R.1.Times,aU (aF 152 (aF 24 (aF 3 (aC az)))) p.2.2.2.2.2.2.2.2.2.2.2.2.2.2 p.2.2.2.2.2.2.2.2.2.2.2.2.2.1.v R.1.Results,aW cz 77 (zg [ae.v,(zi R.2.i),(zi R.2.h)])]):=by
 refine Se 28 Tryz.func24 [.cell 2 36] ?_
 intro H0 F0
 unfold Vl at hF
 refine au ?_
 refine dX (fun k1=>?_)
 refine bu ?_
 refine bnd hF fun r2 hx3 hF=>abH (.cons (.t .h) (.rd (.t .h) rfl .nil)) (bU av8.h b_ (alN hx3)) (fun p4=>?_)
 refine dX (fun k5=>?_)
 refine As (zg [p4.1.v,p4.2.2.1.v,p4.2.2.2.2.1.v,p4.2.2.2.2.2.2.1.v,(zi r2.1.Source.Version),p4.2.2.2.2.2.2.2.2.1.v,(zi r2.1.Cache.Age),(zi r2.1.Now),p4.2.2.2.2.2.2.2.2.2.1.v,p4.2.2.2.2.2.2.2.2.2.2.2.1.v,(zi r2.1.Spent),p4.2.2.2.2.2.2.2.2.2.2.2.2.2.1.v]) ?_
 refine bg ?_
 refine bnd hF fun r6 hx7 hF=>gy (kZ hx7) (fun p8=>?_)
 refine au ?_
 refine bi (dY (aP (BO (i:=r6.1) (j:=0) (.tmp rfl rfl) (.int _ _)) ?_))
 refine aT ?_
 refine Ci hF (fun yB hF=>?_) (fun yB hF=>?_)
 · refine aT ?_
   refine dF rfl (bO (g:=true) dh.h dx.h (.cons (.int _ _) (.cons (.int _ _) (.cons (.int _ _) .nil))) (vs:=[(zi (-1)),(zi 10000),(zi 10001)]) rfl rfl rfl (by intro v hv; simp at hv; rcases hv with rfl|rfl|rfl<;>rfl)) (fun k9=>?_)
   refine dP (.cons .h .nil) (bQ (Ro:=(aC az)) (E:=3) (F:=([]++([]++([]++[])))) (xs:=([(-1),10000,10001]:List Int)) (d_ (jh (fun _=>rfl)) (d_ (jh (fun _=>rfl)) (d_ (jh (fun _=>rfl)) bP cK) cK) cK) rfl rfl) ?_
   refine bnd hF fun lS kW hF=>uq (.cons .h (.cons .h (.rd .q10 rfl .nil))) (jT aG (fun _=>(.cons .nil)) (iV (.cons (.t .h) (.rd (.t .h) rfl (.rd .h rfl .nil))) (bU abL.h b_ (YW kW)))) (fun oC=>?_)
   refine au ?_
   refine As (zg [p4.1.v,p4.2.2.1.v,p4.2.2.2.2.1.v,p4.2.2.2.2.2.2.1.v,(zi r2.1.Source.Version),p4.2.2.2.2.2.2.2.2.1.v,(zi r2.1.Cache.Age),(zi lS.1),p4.2.2.2.2.2.2.2.2.2.1.v,p4.2.2.2.2.2.2.2.2.2.2.2.1.v,(zi r2.1.Spent),p4.2.2.2.2.2.2.2.2.2.2.2.2.2.1.v]) ?_
   refine bu ?_
   refine As (zg [p4.1.v,p4.2.2.1.v,p4.2.2.2.2.1.v,p4.2.2.2.2.2.2.1.v,(zi r2.1.Source.Version),p4.2.2.2.2.2.2.2.2.1.v,(zi r2.1.Cache.Age),(zi lS.1),p4.2.2.2.2.2.2.2.2.2.1.v,p4.2.2.2.2.2.2.2.2.2.2.2.1.v,(zi r2.1.Spent),p4.2.2.2.2.2.2.2.2.2.2.2.2.2.1.v]) ?_
   refine aT ?_
   cases hF
   exact Er (p4.1,p4.2.1,p4.2.2.1,p4.2.2.2.1,p4.2.2.2.2.1,p4.2.2.2.2.2.1,p4.2.2.2.2.2.2.1,p4.2.2.2.2.2.2.2.1,p4.2.2.2.2.2.2.2.2.1,p4.2.2.2.2.2.2.2.2.2.1,p4.2.2.2.2.2.2.2.2.2.2.1,p4.2.2.2.2.2.2.2.2.2.2.2.1,p4.2.2.2.2.2.2.2.2.2.2.2.2.1,p4.2.2.2.2.2.2.2.2.2.2.2.2.2.1,p4.2.2.2.2.2.2.2.2.2.2.2.2.2.2)
 refine bg ?_
 refine Ci hF (fun ve hF=>?_) (fun ve hF=>?_)
 · refine bu ?_
   refine dF rfl (bO (g:=true) dh.h dx.h (.cons (.int _ _) .nil) (vs:=[(zi 3)]) rfl rfl rfl (by intro v hv; simp at hv; rcases hv with rfl<;>rfl)) (fun k13=>?_)
   refine dP (.cons .h .nil) (bQ (Ro:=(aC az)) (E:=3) (F:=([]++[])) (xs:=([3]:List Int)) (d_ (jh (fun _=>rfl)) bP cK) rfl rfl) ?_
   refine bnd hF fun z14 kz hF=>ed (.cons .q9 (.cons .h .nil)) (dV (Ro:=(aC az)) dh.h iQ dx.h rfl rfl rfl (.tmp rfl rfl) (.tmp rfl rfl) kz fw) (fun p16=>?_)
   refine au ?_
   refine As (zg [p4.1.v,p4.2.2.1.v,p4.2.2.2.2.1.v,p4.2.2.2.2.2.2.1.v,(zi r2.1.Source.Version),p4.2.2.2.2.2.2.2.2.1.v,(zi r2.1.Cache.Age),(zi r2.1.Now),p4.2.2.2.2.2.2.2.2.2.1.v,p16.1.v,(zi r2.1.Spent),p4.2.2.2.2.2.2.2.2.2.2.2.2.2.1.v]) ?_
   refine bu ?_
   refine As (zg [p4.1.v,p4.2.2.1.v,p4.2.2.2.2.1.v,p4.2.2.2.2.2.2.1.v,(zi r2.1.Source.Version),p4.2.2.2.2.2.2.2.2.1.v,(zi r2.1.Cache.Age),(zi r2.1.Now),p4.2.2.2.2.2.2.2.2.2.1.v,p16.1.v,(zi r2.1.Spent),p4.2.2.2.2.2.2.2.2.2.2.2.2.2.1.v]) ?_
   refine aT ?_
   cases hF
   exact Er (p4.1,p4.2.1,p4.2.2.1,p4.2.2.2.1,p4.2.2.2.2.1,p4.2.2.2.2.2.1,p4.2.2.2.2.2.2.1,p4.2.2.2.2.2.2.2.1,p4.2.2.2.2.2.2.2.2.1,p4.2.2.2.2.2.2.2.2.2.1,p4.2.2.2.2.2.2.2.2.2.2.1,p16.1,p16.2,p4.2.2.2.2.2.2.2.2.2.2.2.2.2.1,p4.2.2.2.2.2.2.2.2.2.2.2.2.2.2)
 refine bg ?_
 refine Ci hF (fun I5 hF=>?_) (fun I5 hF=>?_)
 · refine aT ?_
   refine dF rfl (bO (g:=true) dh.h dx.h (.cons (.int _ _) (.cons (.int _ _) (.cons (.int _ _) (.cons (.int _ _) .nil)))) (vs:=[(zi (-1)),(zi 900000),(zi 900001),(zi 1000001)]) rfl rfl rfl (by intro v hv; simp at hv; rcases hv with rfl|rfl|rfl|rfl<;>rfl)) (fun k17=>?_)
   refine dP (.cons .h .nil) (bQ (Ro:=(aC az)) (E:=3) (F:=([]++([]++([]++([]++[]))))) (xs:=([(-1),900000,900001,1000001]:List Int)) (d_ (jh (fun _=>rfl)) (d_ (jh (fun _=>rfl)) (d_ (jh (fun _=>rfl)) (d_ (jh (fun _=>rfl)) bP cK) cK) cK) cK) rfl rfl) ?_
   refine bnd hF fun ng kM hF=>uq (.cons .h (.cons .h (.rd .q10 rfl .nil))) (jT aG (fun _=>(.cons .nil)) (iV (.cons (.t .h) (.rd (.t .h) rfl (.rd .h rfl .nil))) (bU abL.h b_ (YW kM)))) (fun l_=>?_)
   refine au ?_
   refine As (zg [p4.1.v,p4.2.2.1.v,p4.2.2.2.2.1.v,p4.2.2.2.2.2.2.1.v,(zi r2.1.Source.Version),p4.2.2.2.2.2.2.2.2.1.v,(zi r2.1.Cache.Age),(zi r2.1.Now),p4.2.2.2.2.2.2.2.2.2.1.v,p4.2.2.2.2.2.2.2.2.2.2.2.1.v,(zi ng.1),p4.2.2.2.2.2.2.2.2.2.2.2.2.2.1.v]) ?_
   refine bu ?_
   refine As (zg [p4.1.v,p4.2.2.1.v,p4.2.2.2.2.1.v,p4.2.2.2.2.2.2.1.v,(zi r2.1.Source.Version),p4.2.2.2.2.2.2.2.2.1.v,(zi r2.1.Cache.Age),(zi r2.1.Now),p4.2.2.2.2.2.2.2.2.2.1.v,p4.2.2.2.2.2.2.2.2.2.2.2.1.v,(zi ng.1),p4.2.2.2.2.2.2.2.2.2.2.2.2.2.1.v]) ?_
   refine aT ?_
   cases hF
   exact Er (p4.1,p4.2.1,p4.2.2.1,p4.2.2.2.1,p4.2.2.2.2.1,p4.2.2.2.2.2.1,p4.2.2.2.2.2.2.1,p4.2.2.2.2.2.2.2.1,p4.2.2.2.2.2.2.2.2.1,p4.2.2.2.2.2.2.2.2.2.1,p4.2.2.2.2.2.2.2.2.2.2.1,p4.2.2.2.2.2.2.2.2.2.2.2.1,p4.2.2.2.2.2.2.2.2.2.2.2.2.1,p4.2.2.2.2.2.2.2.2.2.2.2.2.2.1,p4.2.2.2.2.2.2.2.2.2.2.2.2.2.2)
 refine bu ?_
 refine As (zg [p4.1.v,p4.2.2.1.v,p4.2.2.2.2.1.v,p4.2.2.2.2.2.2.1.v,(zi r2.1.Source.Version),p4.2.2.2.2.2.2.2.2.1.v,(zi r2.1.Cache.Age),(zi r2.1.Now),p4.2.2.2.2.2.2.2.2.2.1.v,p4.2.2.2.2.2.2.2.2.2.2.2.1.v,(zi r2.1.Spent),p4.2.2.2.2.2.2.2.2.2.2.2.2.2.1.v]) ?_
 refine aT ?_
 cases hF
 exact Er (p4.1,p4.2.1,p4.2.2.1,p4.2.2.2.1,p4.2.2.2.2.1,p4.2.2.2.2.2.1,p4.2.2.2.2.2.2.1,p4.2.2.2.2.2.2.2.1,p4.2.2.2.2.2.2.2.2.1,p4.2.2.2.2.2.2.2.2.2.1,p4.2.2.2.2.2.2.2.2.2.2.1,p4.2.2.2.2.2.2.2.2.2.2.2.1,p4.2.2.2.2.2.2.2.2.2.2.2.2.1,p4.2.2.2.2.2.2.2.2.2.2.2.2.2.1,p4.2.2.2.2.2.2.2.2.2.2.2.2.2.2)
def Us(fuel:Nat)(j4:List UInt8):Option (aZ):=
 (Vv j4).bind fun r2=>
 (Vl fuel r2).bind fun r5=>
 some r5.1
theorem alc{fuel:Nat}{j4:List UInt8}{ae:Sv}{R:aZ}(hF:Us fuel j4=some R):
   Fw.Spec Tryz.prog 5 [ae.v] [ku ae j4] (fun p:Sv×List Nat×Sv×List Nat×Sv×List Nat×Sv×List Nat×Sv×Sv×List Nat×Sv×List Nat×Sv×List Nat=>(zg [p.1.v,p.2.2.1.v,p.2.2.2.2.1.v,p.2.2.2.2.2.2.1.v,(zi R.Source.Version),p.2.2.2.2.2.2.2.2.1.v,(zi R.Cache.Age),(zi R.Now),p.2.2.2.2.2.2.2.2.2.1.v,p.2.2.2.2.2.2.2.2.2.2.2.1.v,(zi R.Spent),p.2.2.2.2.2.2.2.2.2.2.2.2.2.1.v])) (fun p=>[bI p.2.1 p.1 R.Schema,nC p.2.2.2.1 p.2.2.1 R.Methods,mi p.2.2.2.2.2.1 p.2.2.2.2.1 R.Rules,eG p.2.2.2.2.2.2.2.1 p.2.2.2.2.2.2.1 R.Source.Facts,dK p.2.2.2.2.2.2.2.2.1 R.Cache.Entries,kF p.2.2.2.2.2.2.2.2.2.2.1 p.2.2.2.2.2.2.2.2.2.1 R.Log,bI p.2.2.2.2.2.2.2.2.2.2.2.2.1 p.2.2.2.2.2.2.2.2.2.2.2.1 R.Times,aU (aF 152 (aF 24 (aF 3 (aC az)))) p.2.2.2.2.2.2.2.2.2.2.2.2.2.2 p.2.2.2.2.2.2.2.2.2.2.2.2.2.1.v R.Results]):=by
 refine Se 6 Tryz.func5 [.cell 2 36] ?_
 intro H0 F0
 unfold Us at hF
 refine au ?_
 refine dX (fun k1=>?_)
 refine bu ?_
 refine bnd hF fun r2 hx3 hF=>zV (aof hx3) (fun p4=>?_)
 refine bnd hF fun r5 hx6 hF=>abH (.cons .h (.rd .h rfl .nil)) (bU av7.h b_ (anT hx6)) (fun p7=>?_)
 refine As (zg [p7.1.v,p7.2.2.1.v,p7.2.2.2.2.1.v,p7.2.2.2.2.2.2.1.v,(zi r5.1.Source.Version),p7.2.2.2.2.2.2.2.2.1.v,(zi r5.1.Cache.Age),(zi r5.1.Now),p7.2.2.2.2.2.2.2.2.2.1.v,p7.2.2.2.2.2.2.2.2.2.2.2.1.v,(zi r5.1.Spent),p7.2.2.2.2.2.2.2.2.2.2.2.2.2.1.v]) ?_
 refine aT ?_
 cases hF
 exact Er (p7.1,p7.2.1,p7.2.2.1,p7.2.2.2.1,p7.2.2.2.2.1,p7.2.2.2.2.2.1,p7.2.2.2.2.2.2.1,p7.2.2.2.2.2.2.2.1,p7.2.2.2.2.2.2.2.2.1,p7.2.2.2.2.2.2.2.2.2.1,p7.2.2.2.2.2.2.2.2.2.2.1,p7.2.2.2.2.2.2.2.2.2.2.2.1,p7.2.2.2.2.2.2.2.2.2.2.2.2.1,p7.2.2.2.2.2.2.2.2.2.2.2.2.2.1,p7.2.2.2.2.2.2.2.2.2.2.2.2.2.2)
def oQ(gU:Int)(uP:Int)(xy:Int):Option (Bool):=
 some ((decide ((uP:Int)<=gU))&&(decide ((gU:Int)<=xy)))
theorem su{gU uP xy:Int}{R:Bool}(hF:oQ gU uP xy=some R):
   Fw.Spec Tryz.prog 61 [(zi gU),(zi uP),(zi xy)] [] (fun _:Unit=>(.bool R)) (fun _=>[]):=by
 refine Se 15 Tryz.func61 [.tmp 6] ?_
 intro H0 F0
 unfold oQ at hF
 refine bg ?_
 refine eX (fun f' cs'=>∃(g:Fr),f'=aQ g [(6,(.bool ((decide ((uP:Int)<=gU))&&(decide ((gU:Int)<=xy)))))]/\aN cs' []) ?_ ?_
 · refine bg ?_
   rcases bE (decide ((uP:Int)<=gU))with hg1|hg1
   · rw[hg1]
     try rw[hg1]at hF; dsimp only[aJ,aI]at hF
     refine gB ?_
     exact⟨_,aA,ay⟩
   rw[hg1]
   try rw[hg1]at hF; dsimp only[aJ,aI]at hF
   refine bB ?_
   exact⟨_,aA,ay⟩
 rintro _ _ ⟨g2,rfl,hE⟩
 refine bq hE ?_
 exact ze hF
def UU(gU:Int):Option (Bool):=
 (oQ gU 1 3).bind fun r1=>
 some (!r1)
theorem al3{gU:Int}{R:Bool}(hF:UU gU=some R):
   Fw.Spec Tryz.prog 142 [(zi gU)] [] (fun _:Unit=>(.bool R)) (fun _=>[]):=by
 refine Se 6 Tryz.func142 [.tmp 2] ?_
 intro H0 F0
 unfold UU at hF
 refine aY ?_
 refine bnd hF fun r1 hx2 hF=>bD (su hx2) (fun _=>?_)
 exact ze hF
end Go.Proofs.YtfcjmpkenaiomaaGreat
