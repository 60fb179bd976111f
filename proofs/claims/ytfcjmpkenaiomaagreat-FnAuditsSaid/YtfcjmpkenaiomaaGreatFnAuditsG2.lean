/-
  Functions of the program as Lean functions, and that the calls return what these say: part 3. No conditions.
-/
import Derived.Test.YtfcjmpkenaiomaaGreatFnAuditsG1
import Derived.KernelRfl
set_option maxRecDepth 100000
set_option maxHeartbeats 1000000
set_option linter.unusedVariables false
namespace Go.Proofs.YtfcjmpkenaiomaaGreat
open Go Go.Fw

def wT(iQ:List Int):List (List Int)->Nat->(List (List Int))->Bool->Option ((List (List Int)))
 |[],k22,c15,c18=>if (!c18)then (
     (app ([]:List Int) iQ).bind fun z32=>
     (app c15 ([z32]:List (List Int))).bind fun z36=>
     some z36)
   else (
     some c15)
 |x24::lw,k22,c15,c18=>((bif (!c18)then ((Mc iQ x24).bind fun om=>
         some om)
       else (some false)).bind fun o42=>
     match o42 with
     |c51=>if c51 then (
         (app ([]:List Int) iQ).bind fun z53=>
         (app c15 ([z53]:List (List Int))).bind fun z57=>
         (app ([]:List Int) x24).bind fun z64=>
         (app z57 ([z64]:List (List Int))).bind fun z68=>
         some (z68,true))
       else (
         (app ([]:List Int) x24).bind fun z75=>
         (app c15 ([z75]:List (List Int))).bind fun z79=>
         some (z79,c18))).bind fun o40=>
   match o40 with
   |(Ua,c87)=>wT iQ lw (k22+1) Ua c87
def El(ai:List (List Int))(iQ:List Int):List (List Int)->Nat->Bool->Option ((List (List Int)))
 |[],k6,c2=>wT iQ ai 0 ([]:List (List Int)) c2
 |x8::jQ,k6,c2=>(bif c2 then (some true)
     else ((Mj x8 iQ).bind fun T9=>
       some T9)).bind fun Kn=>
   match Kn with
   |lL=>El ai iQ jQ (k6+1) lL
def IL(ai:List (List Int))(iQ:List Int):Option ((List (List Int))):=
 El ai iQ ai 0 false
theorem am8{ai:List (List Int)}{ae:Sv}{iQ:List Int}{ax:Sv}{R:(List (List Int))}(hF:IL ai iQ=some R):
   Fw.Spec Tryz.prog 192 [ae.v,ax.v] [bB (aD 24 (aD 3 az)) ae.v ai,ah ax iQ] (fun p:Sv×List Nat=>p.1.v) (fun p=>[aT (aF 24 (aF 3 (aC az))) p.2 p.1.v R]):=by
 refine Se 65 Tryz.func192 [.tmp 4] ?_
 intro H0 F0
 unfold IL at hF
 refine bi ?_
 refine dH rfl (bQ (g:=true) vN.h pQ.h .nil (vs:=[]) rfl rfl rfl (by simp)) (fun k1=>?_)
 refine dR (.cons .h .nil) (bS (Ro:=(aF 3 (aC az))) (E:=24) (F:=[]) (xs:=([]:List (List Int))) bR rfl rfl) ?_
 refine gF ?_
 refine bn (bU (m:=ai.length) (fun m4 f' cs'=>∃(g:Fr)(k6:Nat)(jQ:List (List Int))(c2:Bool),m4=jQ.length/\f'=aQ g [(0,ae.v),(1,ax.v),(5,(.slice (some ⟨k1,0,none⟩) 0 1)),(6,(.bool c2)),(7,(zi (k6:Int)))]/\List.drop k6 ai=jQ/\aO cs' [bB (aD 24 (aD 3 az)) ae.v ai,ah ax iQ,aT (aF 24 (aF 3 (aC az))) (k1::[]) (.slice (some ⟨k1,0,none⟩) 0 1) ([]:List (List Int))]/\El ai iQ jQ k6 c2=some R) ⟨_,0,_,_,rfl,aA,rfl,ay,hF⟩ ?_)
 rintro m4 _ _ ⟨g5,k6,jQ,c2,rfl,rfl,y_,hE,hF⟩
 refine Kb hE ai (fun aaT=>?_)
 rcases jQ with _|⟨x8,jQ⟩
 · have hk10:=dn y_
   rw[El]at hF
   refine bJ ?_
   refine dL ?_
   refine dN ?_
   refine bn (bU (m:=ai.length) (fun m20 f' cs'=>∃(g:Fr)(k22:Nat)(lw c15:List (List Int))(c18:Bool)(v16:Sv)(YA:List Nat),m20=lw.length/\f'=aQ g [(0,ae.v),(1,ax.v),(5,v16.v),(6,(.bool c18)),(8,(zi (k22:Int)))]/\List.drop k22 ai=lw/\aO cs' [bB (aD 24 (aD 3 az)) ae.v ai,ah ax iQ,aT (aF 24 (aF 3 (aC az))) YA v16.v c15]/\wT iQ lw k22 c15 c18=some R) ⟨_,0,_,_,_,⟨(some ⟨k1,0,none⟩),0,1⟩,(k1::[]),rfl,aA,rfl,ay,hF⟩ ?_)
   rintro m20 _ _ ⟨g21,k22,lw,c15,c18,v16,YA,rfl,rfl,hd25,hE,hF⟩
   refine Kb hE ai (fun aiB=>?_)
   rcases lw with _|⟨x24,lw⟩
   · have Rt:=dn hd25
     rw[wT]at hF
     refine bJ ?_
     refine dL ?_
     refine gF ?_
     refine Ci hF (fun De hF=>?_) (fun De hF=>?_)
     · refine aU ?_
       refine dH rfl (bQ (g:=true) di.h dx.h .nil (vs:=[]) rfl rfl rfl (by simp)) (fun Gl=>?_)
       refine dR (.cons .h .nil) (bS (Ro:=(aC az)) (E:=3) (F:=[]) (xs:=([]:List Int)) bR rfl rfl) ?_
       refine au ?_
       refine bnd hF fun z32 wm hF=>ek (.cons .h (.rd (.t .h) rfl .nil)) (dX (Ro:=(aC az)) di.h jc dx.h rfl rfl rfl (.tmp rfl rfl) (.tmp rfl rfl) wm mr) (fun p34=>?_)
       refine dH rfl (bQ (g:=true) vN.h pQ.h cu (vs:=[p34.1.v]) rfl rfl rfl (by intro v hv; simp at hv; rcases hv with rfl<;>rfl)) (fun nC=>?_)
       refine dR (.cons .h (.cons .h .nil)) (bS (Ro:=(aF 3 (aC az))) (E:=24) (F:=(p34.2++[])) (xs:=([z32]:List (List Int))) (ed Jb bR cK) rfl rfl) ?_
       refine bnd hF fun z36 Sz hF=>ek (.cons .q3 (.cons .h .nil)) (dX (Ro:=(aF 3 (aC az))) vN.h Ql pQ.h rfl rfl rfl (.tmp rfl rfl) (.tmp rfl rfl) Sz fU) (fun p38=>?_)
       refine bJ ?_
       cases hF
       exact Er (p38.1,p38.2)
     refine bE ?_
     cases hF
     exact Er (v16,YA)
   obtain⟨Rt,hx27,hd28⟩:=dA hd25
   rw[wT]at hF
   refine bJ ?_
   refine dK ?_
   refine au ?_
   obtain⟨o40,auM,ax6⟩:=bind_some hF
   refine iF (fun f' cs'=>∃(Ua:List (List Int))(c87:Bool)(v85:Sv)(F86:List Nat)(g:Fr),o40=(Ua,c87)/\f'=aQ g [(0,ae.v),(1,ax.v),(5,v85.v),(6,(.bool c87)),(8,(zi (k22:Int)))]/\aO cs' [bB (aD 24 (aD 3 az)) ae.v ai,ah ax iQ,aT (aF 24 (aF 3 (aC az))) F86 v85.v Ua]) ?_ ?_
   · replace hF:=auM
     refine bn (j4 ?_)
     obtain⟨o42,auN,ax7⟩:=bind_some hF
     refine au ?_
     refine fe (fun f' cs'=>∃(c51:Bool)(g:Fr),c51=o42/\f'=aQ g [(0,ae.v),(1,ax.v),(5,v16.v),(6,(.bool c18)),(8,(zi (k22:Int))),(40,(.bool c51))]/\aO cs' [bB (aD 24 (aD 3 az)) ae.v ai,ah ax iQ,aT (aF 24 (aF 3 (aC az))) YA v16.v c15]) ?_ ?_
     · replace hF:=auN
       refine bv ?_
       rcases bD (!c18)with yE|yE
       · rw[yE]
         try rw[yE]at hF; dsimp only[aJ,aI]at hF
         refine bJ ?_
         refine Ai hx27 (fun k45 j46=>?_)
         refine au ?_
         refine vL (R':=(aD 3 az)) iC.h (.tmp rfl rfl) .h P5 (fun w47=>?_)
         refine au ?_
         refine bnd hF fun om rz hF=>bC (af7 rz) (fun _=>?_)
         exact bK hF
       rw[yE]
       try rw[yE]at hF; dsimp only[aJ,aI]at hF
       exact bK hF
     rintro _ _ ⟨c51,g83,rfl,rfl,hE⟩
     replace hF:=ax7
     try dsimp only at hF
     refine bu hE ?_
     refine Ci hF (fun Rk hF=>?_) (fun Rk hF=>?_)
     · refine aU ?_
       refine dH rfl (bQ (g:=true) di.h dx.h .nil (vs:=[]) rfl rfl rfl (by simp)) (fun k52=>?_)
       refine dR (.cons .h .nil) (bS (Ro:=(aC az)) (E:=3) (F:=[]) (xs:=([]:List Int)) bR rfl rfl) ?_
       refine au ?_
       refine bnd hF fun z53 ui hF=>ek (.cons .h (.rd (.t .h) rfl .nil)) (dX (Ro:=(aC az)) di.h jc dx.h rfl rfl rfl (.tmp rfl rfl) (.tmp rfl rfl) ui mr) (fun p55=>?_)
       refine dH rfl (bQ (g:=true) vN.h pQ.h cu (vs:=[p55.1.v]) rfl rfl rfl (by intro v hv; simp at hv; rcases hv with rfl<;>rfl)) (fun k56=>?_)
       refine dR (.cons .h (.cons .h .nil)) (bS (Ro:=(aF 3 (aC az))) (E:=24) (F:=(p55.2++[])) (xs:=([z53]:List (List Int))) (ed Jb bR cK) rfl rfl) ?_
       refine bnd hF fun z57 acy hF=>ek (.cons .q3 (.cons .h .nil)) (dX (Ro:=(aF 3 (aC az))) vN.h Ql pQ.h rfl rfl rfl (.tmp rfl rfl) (.tmp rfl rfl) acy fU) (fun p59=>?_)
       refine bJ ?_
       refine dH rfl (bQ (g:=true) di.h dx.h .nil (vs:=[]) rfl rfl rfl (by simp)) (fun za=>?_)
       refine dR (.cons .h .nil) (bS (Ro:=(aC az)) (E:=3) (F:=[]) (xs:=([]:List Int)) bR rfl rfl) ?_
       refine aU ?_
       refine Ai hx27 (fun k61 j62=>?_)
       refine vL (R':=(aD 3 az)) iC.h (.tmp rfl rfl) .h P5 (fun w63=>?_)
       refine bnd hF fun z64 RB hF=>ek (.cons .q2 (.rd .h rfl .nil)) (dX (Ro:=(aC az)) di.h jc dx.h rfl rfl rfl (.tmp rfl rfl) (.tmp rfl rfl) RB mr) (fun p66=>?_)
       refine dH rfl (bQ (g:=true) vN.h pQ.h cu (vs:=[p66.1.v]) rfl rfl rfl (by intro v hv; simp at hv; rcases hv with rfl<;>rfl)) (fun k67=>?_)
       refine dR (.cons .h (.cons .h .nil)) (bS (Ro:=(aF 3 (aC az))) (E:=24) (F:=(p66.2++[])) (xs:=([z64]:List (List Int))) (ed Jb bR cK) rfl rfl) ?_
       refine bnd hF fun z68 acb hF=>ek (.cons .q3 (.cons .h .nil)) (dX (Ro:=(aF 3 (aC az))) vN.h Ql pQ.h rfl rfl rfl (.tmp rfl rfl) (.tmp rfl rfl) acb fU) (fun p70=>?_)
       refine aU ?_
       cases hF
       exact⟨_,_,p70.1,p70.2,_,rfl,aA,ay⟩
     refine bv ?_
     refine dH rfl (bQ (g:=true) di.h dx.h .nil (vs:=[]) rfl rfl rfl (by simp)) (fun wJ=>?_)
     refine dR (.cons .h .nil) (bS (Ro:=(aC az)) (E:=3) (F:=[]) (xs:=([]:List Int)) bR rfl rfl) ?_
     refine aU ?_
     refine Ai hx27 (fun k72 j73=>?_)
     refine vL (R':=(aD 3 az)) iC.h (.tmp rfl rfl) .h P5 (fun w74=>?_)
     refine bnd hF fun z75 RQ hF=>ek (.cons .q2 (.rd .h rfl .nil)) (dX (Ro:=(aC az)) di.h jc dx.h rfl rfl rfl (.tmp rfl rfl) (.tmp rfl rfl) RQ mr) (fun p77=>?_)
     refine dH rfl (bQ (g:=true) vN.h pQ.h cu (vs:=[p77.1.v]) rfl rfl rfl (by intro v hv; simp at hv; rcases hv with rfl<;>rfl)) (fun k78=>?_)
     refine dR (.cons .h (.cons .h .nil)) (bS (Ro:=(aF 3 (aC az))) (E:=24) (F:=(p77.2++[])) (xs:=([z75]:List (List Int))) (ed Jb bR cK) rfl rfl) ?_
     refine bnd hF fun z79 RF hF=>ek (.cons .q5 (.cons .h .nil)) (dX (Ro:=(aF 3 (aC az))) vN.h Ql pQ.h rfl rfl rfl (.tmp rfl rfl) (.tmp rfl rfl) RF fU) (fun p81=>?_)
     refine aU ?_
     cases hF
     exact⟨_,_,p81.1,p81.2,_,rfl,aA,ay⟩
   rintro _ _ ⟨Ua,c87,v85,F86,g89,rfl,rfl,hE⟩
   replace hF:=ax6
   try dsimp only at hF
   refine bu hE ?_
   refine aZ ?_
   rw[wk k22]
   exact⟨_,bY _,_,k22+1,lw,_,_,v85,F86,rfl,aA,hd28,ay,hF⟩
 obtain⟨hk10,lg,mR⟩:=dA y_
 rw[El]at hF
 refine bJ ?_
 refine dK ?_
 refine aU ?_
 obtain⟨Kn,aa5,ac9⟩:=bind_some hF
 refine au ?_
 refine fe (fun f' cs'=>∃(lL:Bool)(g:Fr),lL=Kn/\f'=aQ g [(0,ae.v),(1,ax.v),(5,(.slice (some ⟨k1,0,none⟩) 0 1)),(6,(.bool lL)),(7,(zi (k6:Int)))]/\aO cs' [bB (aD 24 (aD 3 az)) ae.v ai,ah ax iQ,aT (aF 24 (aF 3 (aC az))) (k1::[]) (.slice (some ⟨k1,0,none⟩) 0 1) ([]:List (List Int))]) ?_ ?_
 · replace hF:=aa5
   refine aU ?_
   rcases bD c2 with SA|SA
   · rw[SA]
     try rw[SA]at hF; dsimp only[aJ,aI]at hF
     exact bK hF
   rw[SA]
   try rw[SA]at hF; dsimp only[aJ,aI]at hF
   refine aZ ?_
   refine Ai lg (fun k93 j94=>?_)
   refine au ?_
   refine vL (R':=(aD 3 az)) iC.h (.tmp rfl rfl) .h P5 (fun w95=>?_)
   refine bv ?_
   refine bnd hF fun T9 ac_ hF=>bC (Zo ac_) (fun _=>?_)
   exact bK hF
 rintro _ _ ⟨lL,adf,rfl,rfl,hE⟩
 replace hF:=ac9
 try dsimp only at hF
 refine bu hE ?_
 refine aZ ?_
 rw[wk k6]
 exact⟨_,bY _,_,k6+1,jQ,_,rfl,aA,mR,ay,hF⟩
def Em(c3:List (List Int))(iO:bz):List Int->Nat->(List Int)->Option ((List (List Int)))
 |[],k27,c21=>(IL c3 c21).bind fun Ub=>
   some Ub
 |x29::lv,k27,c21=>(xU iO x29).bind fun jS=>
   (app c21 ([jS]:List Int)).bind fun z48=>
   Em c3 iO lv (k27+1) z48
def Hy(aK:Query):List bz->Nat->(List (List Int))->Option ((List (List Int)))
 |[],k9,c3=>some c3
 |iO::gJ,k9,c3=>(Em c3 iO aK.Head 0 ([]:List Int)).bind fun kS=>
   match kS with
   |rT=>Hy aK gJ (k9+1) rT
def Vj(aK:Query)(ai:List bz):Option ((List (List Int))):=
 Hy aK ai 0 ([]:List (List Int))
theorem am9{aK:Query}{ae aP:Sv}{ai:List bz}{ax:Sv}{R:(List (List Int))}(hF:Vj aK ai=some R):
   Fw.Spec Tryz.prog 175 [(zg [ae.v,aP.v]),ax.v] [ah ae aK.Head,eX aP aK.Atoms,su ax ai] (fun p:Sv×List Nat=>p.1.v) (fun p=>[aT (aF 24 (aF 3 (aC az))) p.2 p.1.v R]):=by
 refine Se 41 Tryz.func175 [.tmp 4] ?_
 intro H0 F0
 unfold Vj at hF
 refine au ?_
 refine bP (fun k1=>?_)
 refine bv ?_
 refine dH rfl (bQ (g:=true) vN.h pQ.h .nil (vs:=[]) rfl rfl rfl (by simp)) (fun k2=>?_)
 refine dR (.cons .h .nil) (bS (Ro:=(aF 3 (aC az))) (E:=24) (F:=[]) (xs:=([]:List (List Int))) bR rfl rfl) ?_
 refine bE ?_
 refine bn (bU (m:=ai.length) (fun m7 f' cs'=>∃(g:Fr)(k9:Nat)(gJ:List bz)(c3:List (List Int))(v4:Sv)(F5:List Nat),m7=gJ.length/\f'=aQ g [(1,ax.v),(2,(pz k1)),(5,v4.v),(6,(zi (k9:Int)))]/\List.drop k9 ai=gJ/\aO cs' [su ax ai,aX k1 120 (zg [ae.v,aP.v]),ah ae aK.Head,eX aP aK.Atoms,aT (aF 24 (aF 3 (aC az))) F5 v4.v c3]/\Hy aK gJ k9 c3=some R) ⟨_,0,_,_,⟨(some ⟨k2,0,none⟩),0,1⟩,(k2::[]),rfl,aA,rfl,ay,hF⟩ ?_)
 rintro m7 _ _ ⟨g8,k9,gJ,c3,v4,F5,rfl,rfl,mR,hE,hF⟩
 refine Kb hE ai (fun Qp=>?_)
 rcases gJ with _|⟨iO,gJ⟩
 · have yL:=dn mR
   rw[Hy]at hF
   refine bJ ?_
   refine dL ?_
   refine gF ?_
   cases hF
   exact Er (v4,F5)
 obtain⟨yL,kr,rF⟩:=dA mR
 rw[Hy]at hF
 refine bJ ?_
 refine dK ?_
 refine au ?_
 obtain⟨kS,vQ,wz⟩:=bind_some hF
 refine iF (fun f' cs'=>∃(rT:List (List Int))(v53:Sv)(Km:List Nat)(g:Fr),rT=kS/\f'=aQ g [(1,ax.v),(2,(pz k1)),(5,v53.v),(6,(zi (k9:Int)))]/\aO cs' [su ax ai,aX k1 120 (zg [ae.v,aP.v]),ah ae aK.Head,eX aP aK.Atoms,aT (aF 24 (aF 3 (aC az))) Km v53.v rT]) ?_ ?_
 · replace hF:=vQ
   refine bn (dC (dH rfl (bQ (g:=true) di.h dx.h .nil (vs:=[]) rfl rfl rfl (by simp)) (fun k20=>?_)))
   refine dR (.cons .h .nil) (bS (Ro:=(aC az)) (E:=3) (F:=[]) (xs:=([]:List Int)) bR rfl rfl) ?_
   refine bE ?_
   refine bn (bU (m:=aK.Head.length) (fun Gj f' cs'=>∃(g:Fr)(k27:Nat)(lv c21:List Int)(v22:Sv)(F23:List Nat),Gj=lv.length/\f'=aQ g [(1,ax.v),(2,(pz k1)),(5,v4.v),(6,(zi (k9:Int))),(7,v22.v),(8,(zi (k27:Int)))]/\List.drop k27 aK.Head=lv/\aO cs' [su ax ai,aX k1 120 (zg [ae.v,aP.v]),ah ae aK.Head,eX aP aK.Atoms,aT (aF 24 (aF 3 (aC az))) F5 v4.v c3,bI F23 v22 c21]/\Em c3 iO lv k27 c21=some kS) ⟨_,0,_,_,⟨(some ⟨k20,0,none⟩),0,1⟩,(k20::[]),rfl,aA,rfl,ay,hF⟩ ?_)
   rintro Gj _ _ ⟨g26,k27,lv,c21,v22,F23,rfl,rfl,z_,hE,hF⟩
   refine Kb hE aK.Head (fun aiA=>?_)
   rcases lv with _|⟨x29,lv⟩
   · have hk31:=dn z_
     rw[Em]at hF
     refine dN ?_
     refine dL ?_
     refine bJ ?_
     refine bnd hF fun Ub Sz hF=>Ra (.cons .q5 (.cons .q4 .nil)) (jH (pre:=[]) (.cons aG (.cons aG .nil)) (fun _=>(.cons .nil)) (bV asS.h cu (am8 Sz))) (fun p38=>?_)
     refine aU ?_
     cases hF
     exact⟨_,p38.1,p38.2,_,rfl,aA,ay⟩
   obtain⟨hk31,hx32,Rn⟩:=dA z_
   rw[Em]at hF
   refine dN ?_
   refine dK ?_
   refine aU ?_
   refine jD [0,1,2,3,4,5,6,7,8,9,10,11,12,13] [0,0,0,6,14,0,32,0,224,480,1022,2046,4095,8191] [10,12] mixed (by decide+kernel) ?_
   refine dD ?_
   refine Di kr (fun k39 j40=>?_)
   refine zZ (A9 iO) ED (fun p41=>?_)
   refine dD ?_
   refine Di hx32 (fun Yj j43=>?_)
   refine Dl dP ?_
   refine bnd hF fun jS wu hF=>fu (OD wu) (fun _=>?_)
   refine iy rfl .no rfl (fun ha=>bQ (g:=true) (len:=1) (parts:=[(0,.tmp 34)]) di.h dx.h (.cons (EN ha (.tmp rfl rfl) rfl) .nil) (vs:=[(zi jS)]) rfl rfl rfl (by intro v hv; simp at hv; rcases hv with rfl<;>rfl)) (fun TT=>?_)
   refine jk (.cons .h .nil) (bS (Ro:=(aC az)) (E:=3) (F:=([]++[])) (xs:=([jS]:List Int)) (ed (jF (fun _=>rfl)) bR cK) rfl rfl) ?_
   refine bnd hF fun z48 rz hF=>cO rfl rfl .no (.cons .q10 (.cons .h .nil)) (.dep rfl .nil) (fun ha=>dX (Ro:=(aC az)) di.h jc dx.h rfl rfl rfl (EN ha (.tmp rfl rfl) rfl) (EN ha (.tmp rfl rfl) rfl) rz fU) (fun p50=>?_)
   refine bX ?_
   refine aZ ?_
   rw[wk k27]
   exact⟨_,bY _,_,k27+1,lv,_,p50.1,p50.2,rfl,aA,Rn,ay,hF⟩
 rintro _ _ ⟨rT,v53,Km,g56,rfl,rfl,hE⟩
 replace hF:=wz
 try dsimp only at hF
 refine bu hE ?_
 refine aZ ?_
 rw[wk k9]
 exact⟨_,bY _,_,k9+1,gJ,_,v53,Km,rfl,aA,rF,ay,hF⟩
def Ic(ai:List Method):List Access->Nat->Int->Option (Int)
 |[],k5,c1=>some c1
 |x7::eQ,k5,c1=>(((iT x7.Method 0 (IntKind.i64.wrap ((ai.length:Int)-1))).bind fun jP=>
       bif jP then ((ix ai x7.Method).bind fun nR=>
         (iT nR.Cost 0 99).bind fun r32=>
         some r32)
       else (some false)).bind fun o16=>
     match o16 with
     |zk=>if zk then (
         (ix ai x7.Method).bind fun x38=>
         some (IntKind.i64.wrap (c1+x38.Cost)))
       else (
         some c1)).bind fun zl=>
   match zl with
   |c46=>Ic ai eQ (k5+1) c46
def PE(ai:List Method)(lD:List Access):Option (Int):=
 Ic ai lD 0 0
theorem afJ{ai:List Method}{ae:Sv}{lD:List Access}{ax:Sv}{R:Int}(hF:PE ai lD=some R):
   Fw.Spec Tryz.prog 35 [ae.v,ax.v] [bW ae ai,eH ax lD] (fun _:Unit=>(zi R)) (fun _=>[]):=by
 refine Se 46 Tryz.func35 [.tmp 4] ?_
 intro H0 F0
 unfold PE at hF
 refine kF ?_
 refine bn (bU (m:=lD.length) (fun m3 f' cs'=>∃(g:Fr)(k5:Nat)(eQ:List Access)(c1:Int),m3=eQ.length/\f'=aQ g [(0,ae.v),(1,ax.v),(5,(zi c1)),(6,(zi (k5:Int)))]/\List.drop k5 lD=eQ/\aO cs' [bW ae ai,eH ax lD]/\Ic ai eQ k5 c1=some R) ⟨_,0,_,_,rfl,aA,rfl,ay,hF⟩ ?_)
 rintro m3 _ _ ⟨g4,k5,eQ,c1,rfl,rfl,nQ,hE,hF⟩
 refine Kb hE lD (fun Jk=>?_)
 rcases eQ with _|⟨x7,eQ⟩
 · have uG:=dn nQ
   rw[Ic]at hF
   refine bJ ?_
   refine dL ?_
   exact ze hF
 obtain⟨uG,jI,j5⟩:=dA nQ
 rw[Ic]at hF
 refine bJ ?_
 refine dK ?_
 refine au ?_
 obtain⟨zl,Qw,Sl⟩:=bind_some hF
 refine iF (fun f' cs'=>∃(c46:Int)(g:Fr),c46=zl/\f'=aQ g [(0,ae.v),(1,ax.v),(5,(zi c46)),(6,(zi (k5:Int)))]/\aO cs' [bW ae ai,eH ax lD]) ?_ ?_
 · replace hF:=Qw
   refine bn ?_
   obtain⟨o16,aa6,adb⟩:=bind_some hF
   refine au ?_
   refine fe (fun f' cs'=>∃(zk:Bool)(g:Fr),zk=o16/\f'=aQ g [(0,ae.v),(1,ax.v),(5,(zi c1)),(6,(zi (k5:Int))),(33,(.bool zk))]/\aO cs' [bW ae ai,eH ax lD]) ?_ ?_
   · replace hF:=aa6
     refine aU ?_
     refine Ai jI (fun k18 j19=>?_)
     refine au ?_
     refine Al MB ?_
     refine bv ?_
     refine bnd hF fun jP lG hF=>bC (jT lG) (fun _=>?_)
     refine au ?_
     rcases bD jP with ku|ku
     · rw[ku]
       try rw[ku]at hF; dsimp only[aJ,aI]at hF
       refine bJ ?_
       refine Ai jI (fun k24 j25=>?_)
       refine bv ?_
       refine Al MB ?_
       refine au ?_
       refine zI hF fun nR Xu hx29 hF=>?_
       refine Ai hx29 (fun Gn j31=>?_)
       refine bv ?_
       refine Al MC ?_
       refine au ?_
       refine bnd hF fun r32 wm hF=>bC (jT wm) (fun _=>?_)
       exact bK hF
     rw[ku]
     try rw[ku]at hF; dsimp only[aJ,aI]at hF
     exact bK hF
   rintro _ _ ⟨zk,g45,rfl,rfl,hE⟩
   replace hF:=adb
   try dsimp only at hF
   refine bu hE ?_
   refine Ci hF (fun Jz hF=>?_) (fun Jz hF=>?_)
   · refine aZ ?_
     refine Ai jI (fun nE T_=>?_)
     refine au ?_
     refine Al MB ?_
     refine zI hF fun x38 aj0 JI hF=>?_
     refine Ai JI (fun Yj j43=>?_)
     refine au ?_
     refine Al MC ?_
     exact bK hF
   exact bK hF
 rintro _ _ ⟨c46,g48,rfl,rfl,hE⟩
 replace hF:=Sl
 try dsimp only at hF
 refine bu hE ?_
 refine aZ ?_
 rw[wk k5]
 exact⟨_,bY _,_,k5+1,eQ,_,rfl,aA,j5,ay,hF⟩
def Hz(aB:Atom)(aR:bz):List Int->Nat->(List Int)->Option ((List Int))
 |[],k11,c5=>some c5
 |oI::Cj,k11,c5=>(ix aB.Terms oI).bind fun j3=>
   (xU aR j3).bind fun Kt=>
   (app c5 ([Kt]:List Int)).bind fun z32=>
   Hz aB aR Cj (k11+1) z32
def ZE(aa:Method)(aB:Atom)(aR:bz):Option ((List Int)):=
 Hz aB aR aa.Inputs 0 ([]:List Int)
theorem am_{aa:Method}{aP:Sv}{aB:Atom}{aV:Sv}{aR:bz}{bM dJ:Sv}{R:(List Int)}(hF:ZE aa aB aR=some R):
   Fw.Spec Tryz.prog 171 [(zg [(zi aa.Rel),aP.v,(zi aa.Limit),(zi aa.Cost),(zi aa.Quota)]),(zg [(zi aB.Rel),aV.v]),(zg [bM.v,dJ.v])] [ah aP aa.Inputs,ah aV aB.Terms,ah bM aR.Vars,ah dJ aR.Values] (fun p:Sv×List Nat=>p.1.v) (fun p=>[bI p.2 p.1 R]):=by
 refine Se 32 Tryz.func171 [.tmp 6] ?_
 intro H0 F0
 unfold ZE at hF
 refine au ?_
 refine bP (fun k1=>?_)
 refine bP (fun k2=>?_)
 refine bP (fun k3=>?_)
 refine bv ?_
 refine dH rfl (bQ (g:=true) di.h dx.h .nil (vs:=[]) rfl rfl rfl (by simp)) (fun k4=>?_)
 refine dR (.cons .h .nil) (bS (Ro:=(aC az)) (E:=3) (F:=[]) (xs:=([]:List Int)) bR rfl rfl) ?_
 refine bE ?_
 refine bn (bU (m:=aa.Inputs.length) (fun m9 f' cs'=>∃(g:Fr)(k11:Nat)(Cj c5:List Int)(v6:Sv)(F7:List Nat),m9=Cj.length/\f'=aQ g [(3,(pz k1)),(4,(pz k2)),(5,(pz k3)),(7,v6.v),(8,(zi (k11:Int)))]/\List.drop k11 aa.Inputs=Cj/\aO cs' [aX k1 57 (zg [(zi aa.Rel),aP.v,(zi aa.Limit),(zi aa.Cost),(zi aa.Quota)]),ah aP aa.Inputs,aX k2 159 (zg [(zi aB.Rel),aV.v]),ah aV aB.Terms,aX k3 183 (zg [bM.v,dJ.v]),ah bM aR.Vars,ah dJ aR.Values,bI F7 v6 c5]/\Hz aB aR Cj k11 c5=some R) ⟨_,0,_,_,⟨(some ⟨k4,0,none⟩),0,1⟩,(k4::[]),rfl,aA,rfl,ay,hF⟩ ?_)
 rintro m9 _ _ ⟨g10,k11,Cj,c5,v6,F7,rfl,rfl,sG,hE,hF⟩
 refine Kb hE aa.Inputs (fun aAW=>?_)
 rcases Cj with _|⟨oI,Cj⟩
 · have ax8:=dn sG
   rw[Hz]at hF
   refine dN ?_
   refine dL ?_
   refine gF ?_
   cases hF
   exact Er (v6,F7)
 obtain⟨ax8,hx16,ax9⟩:=dA sG
 rw[Hz]at hF
 refine dN ?_
 refine dK ?_
 refine aU ?_
 refine jD [0,1,2,3,4,5,6,7,8,9,10,11,12,13,14] [0,0,0,4,0,16,0,112,240,508,1020,2046,4094,8191,16383] [11,13] mixed (by decide+kernel) ?_
 refine ab5 ?_
 refine Di hx16 (fun k20 DF=>?_)
 refine Dl dP ?_
 refine zI hF fun j3 acR hx25 hF=>?_
 refine Di hx25 (fun k26 TU=>?_)
 refine Dl dP ?_
 refine bnd hF fun Kt hx29 hF=>fu (OD hx29) (fun _=>?_)
 refine iy rfl .no rfl (fun ha=>bQ (g:=true) (len:=1) (parts:=[(0,.tmp 28)]) di.h dx.h (.cons (EN ha (.tmp rfl rfl) rfl) .nil) (vs:=[(zi Kt)]) rfl rfl rfl (by intro v hv; simp at hv; rcases hv with rfl<;>rfl)) (fun Gl=>?_)
 refine jk (.cons .h .nil) (bS (Ro:=(aC az)) (E:=3) (F:=([]++[])) (xs:=([Kt]:List Int)) (ed (jF (fun _=>rfl)) bR cK) rfl rfl) ?_
 refine bnd hF fun z32 wm hF=>cO rfl rfl .no (.cons .q10 (.cons .h .nil)) (.dep rfl .nil) (fun ha=>dX (Ro:=(aC az)) di.h jc dx.h rfl rfl rfl (EN ha (.tmp rfl rfl) rfl) (EN ha (.tmp rfl rfl) rfl) wm fU) (fun p34=>?_)
 refine bX ?_
 refine aZ ?_
 rw[wk k11]
 exact⟨_,bY _,_,k11+1,Cj,_,p34.1,p34.2,rfl,aA,ax9,ay,hF⟩
def IM(ai:List Method)(aB:Access):Option (Bool):=
 ((iT aB.Method 0 (IntKind.i64.wrap ((ai.length:Int)-1))).bind fun r4=>
   bif r4 then ((ix ai aB.Method).bind fun x8=>
     some (((aB.Values.length:Int):Int)==(x8.Inputs.length:Int)))
   else (some false)).bind fun o2=>
 match o2 with
 |c15=>some c15
theorem Za{ai:List Method}{ae:Sv}{aB:Access}{aV:Sv}{R:Bool}(hF:IM ai aB=some R):
   Fw.Spec Tryz.prog 197 [ae.v,(zg [(zi aB.Method),aV.v])] [bW ae ai,ah aV aB.Values] (fun _:Unit=>(.bool R)) (fun _=>[]):=by
 refine Se 24 Tryz.func197 [.tmp 4] ?_
 intro H0 F0
 unfold IM at hF
 refine au ?_
 refine bP (fun k1=>?_)
 refine aU ?_
 obtain⟨o2,gz,hO3⟩:=bind_some hF
 refine dV [0,1,2,3,4,5,6,7,8,9,10,11,12,13,14,15,16,17,18,19] [0,1,0,4,12,31,63,127,255,511,127,127,2175,7295,15487,31871,64639,131071,262143,524287] [5] mixed (by decide+kernel) ?_
 refine kX (fun f' cs'=>∃(c15:Bool)(g:Fr),c15=o2/\f'=aQ g [(4,(.bool c15))]/\aO cs' []) ?_ ?_
 · replace hF:=gz
   refine t_ ?_
   refine bnd hF fun r4 hx5 hF=>fu (jT hx5) (fun _=>?_)
   refine du ?_
   rcases bD r4 with bq|bq
   · rw[bq]
     try rw[bq]at hF; dsimp only[aJ,aI]at hF
     refine xn ?_
     refine zI hF fun x8 akt lg hF=>?_
     refine Di lg (fun k12 j13=>?_)
     refine du ?_
     refine oz (R':=(aD 3 az)) iC.h rfl (.on 11 rfl rfl rfl) (.tmp rfl rfl) rfl .h P6 (fun w14=>?_)
     exact eD hF
   rw[bq]
   try rw[bq]at hF; dsimp only[aJ,aI]at hF
   exact eD hF
 rintro _ _ ⟨c15,g16,rfl,rfl,hE⟩
 replace hF:=hO3
 try dsimp only at hF
 refine bu hE ?_
 exact ze hF
def DY(ai:List Method)(aB:Access)(aR:Access)(nE:Nat)(x38:Int):List Int->Nat->Bool->Option (Sum (Bool) (Unit))
 |[],uF,kN=>if (!kN)then (
     some (.inl false))
   else (
     some (.inr ()))
 |TA::Ck,uF,kN=>(bif kN then (some true)
     else ((ix ai aR.Method).bind fun x64=>
       (ix x64.Inputs (uF:Int)).bind fun x71=>
       (ix ai aB.Method).bind fun x77=>
       (ix x77.Inputs (nE:Int)).bind fun x84=>
       bif ((x71:Int)==x84)then (some ((TA:Int)==x38))
       else (some false))).bind fun o61=>
   match o61 with
   |Uc=>DY ai aB aR nE x38 Ck (uF+1) Uc
def Gz(ai:List Method)(aB:Access)(aR:Access):List Int->Nat->Option (Bool)
 |[],nE=>some true
 |x38::Cn,nE=>((DY ai aB aR nE x38 aR.Values 0 false):Option (Sum (Bool) (Unit))).bind fun Gt=>
   match Gt with
   | .inl r=>some r
   | .inr _=>Gz ai aB aR Cn (nE+1)
def Od(ai:List Method)(aB:Access)(aR:Access):Option (Bool):=
 ((IM ai aB).bind fun r5=>
   bif (!r5)then (some true)
   else ((IM ai aR).bind fun r9=>
     bif (!r9)then (some true)
     else ((ix ai aB.Method).bind fun oI=>
       (ix ai aR.Method).bind fun NH=>
       bif ((oI.Rel:Int)!=NH.Rel)then (some true)
       else ((ix ai aB.Method).bind fun nR=>
         some ((nR.Limit:Int)!=0))))).bind fun o3=>
 match o3 with
 |c32=>if c32 then (
     some false)
   else (
     Gz ai aB aR aB.Values 0)
theorem alJ{ai:List Method}{ae:Sv}{aB:Access}{aV:Sv}{aR:Access}{dJ:Sv}{R:Bool}(hF:Od ai aB aR=some R):
   Fw.Spec Tryz.prog 189 [ae.v,(zg [(zi aB.Method),aV.v]),(zg [(zi aR.Method),dJ.v])] [bW ae ai,ah aV aB.Values,ah dJ aR.Values] (fun _:Unit=>(.bool R)) (fun _=>[]):=by
 refine Se 95 Tryz.func189 [.tmp 6] ?_
 intro H0 F0
 unfold Od at hF
 refine au ?_
 refine bP (fun k1=>?_)
 refine bP (fun k2=>?_)
 refine bv ?_
 obtain⟨o3,wy,hO4⟩:=bind_some hF
 refine dV [0,1,2,3,4,5,6,7,8,9,10,11,12,13,14,15,16,17,18,19,20,21,22,23,24,25,26,27,28,29,30,31,32,33] [0,0,3,7,15,31,31,127,255,511,1023,2047,2047,6143,16383,32767,65535,2047,2047,264191,919551,1968127,4065279,8388607,16777215,33554431,67108863,67108863,201326591,536870911,1073741823,2147483647,4294967295,8589934591] [2,7] mixed (by decide+kernel) ?_
 refine kX (fun f' cs'=>∃(c32:Bool)(g:Fr),c32=o3/\f'=aQ g [(0,ae.v),(4,(pz k1)),(5,(pz k2)),(43,(.bool c32))]/\aO cs' [bW ae ai,aX k1 45 (zg [(zi aB.Method),aV.v]),ah aV aB.Values,aX k2 45 (zg [(zi aR.Method),dJ.v]),ah dJ aR.Values]) ?_ ?_
 · replace hF:=wy
   refine bX ?_
   refine bnd hF fun r5 hx6 hF=>fu (Za hx6) (fun _=>?_)
   refine bX ?_
   rcases bD (!r5)with kw|kw
   · rw[kw]
     try rw[kw]at hF; dsimp only[aJ,aI]at hF
     exact eD hF
   rw[kw]
   try rw[kw]at hF; dsimp only[aJ,aI]at hF
   refine bX ?_
   refine bnd hF fun r9 jI hF=>fu (Za jI) (fun _=>?_)
   refine dD ?_
   rcases bD (!r9)with lI|lI
   · rw[lI]
     try rw[lI]at hF; dsimp only[aJ,aI]at hF
     exact eD hF
   rw[lI]
   try rw[lI]at hF; dsimp only[aJ,aI]at hF
   refine dD ?_
   refine zI hF fun oI Xf hx16 hF=>?_
   refine Di hx16 (fun k17 J5=>?_)
   refine du ?_
   refine Dl ahZ ?_
   refine dD ?_
   refine zI hF fun NH ax_ ug hF=>?_
   refine Di ug (fun k23 Yn=>?_)
   refine du ?_
   refine Dl ahZ ?_
   refine dD ?_
   rcases bD ((oI.Rel:Int)!=NH.Rel)with SB|SB
   · rw[SB]
     try rw[SB]at hF; dsimp only[aJ,aI]at hF
     exact eD hF
   rw[SB]
   try rw[SB]at hF; dsimp only[aJ,aI]at hF
   refine dD ?_
   refine zI hF fun nR Xu hx29 hF=>?_
   refine Di hx29 (fun Gn j31=>?_)
   refine du ?_
   refine Dl P7 ?_
   exact eD hF
 rintro _ _ ⟨c32,adf,rfl,rfl,hE⟩
 replace hF:=hO4
 try dsimp only at hF
 refine bu hE ?_
 refine Ci hF (fun aaY hF=>?_) (fun aaY hF=>?_)
 · exact ze hF
 refine aZ ?_
 refine bn (bU (m:=aB.Values.length) (fun AB f' cs'=>∃(g:Fr)(nE:Nat)(Cn:List Int),AB=Cn.length/\f'=aQ g [(0,ae.v),(4,(pz k1)),(5,(pz k2)),(7,(zi (nE:Int)))]/\List.drop nE aB.Values=Cn/\aO cs' [bW ae ai,aX k1 45 (zg [(zi aB.Method),aV.v]),ah aV aB.Values,aX k2 45 (zg [(zi aR.Method),dJ.v]),ah dJ aR.Values]/\Gz ai aB aR Cn nE=some R) ⟨_,0,_,rfl,aA,rfl,ay,hF⟩ ?_)
 rintro AB _ _ ⟨g35,nE,Cn,rfl,rfl,hd39,hE,hF⟩
 refine Kb hE aB.Values (fun aAX=>?_)
 rcases Cn with _|⟨x38,Cn⟩
 · have ax':=dn hd39
   rw[Gz]at hF
   refine dN ?_
   refine dL ?_
   exact ze hF
 obtain⟨ax',JI,aya⟩:=dA hd39
 rw[Gz]at hF
 refine dN ?_
 refine dK ?_
 refine au ?_
 obtain⟨Gt,aa8,XV⟩:=bind_some hF
 refine iF (fun f' cs'=>∃(g:Fr),Gt= .inr ()/\f'=aQ g [(0,ae.v),(4,(pz k1)),(5,(pz k2)),(7,(zi (nE:Int)))]/\aO cs' [bW ae ai,aX k1 45 (zg [(zi aB.Method),aV.v]),ah aV aB.Values,aX k2 45 (zg [(zi aR.Method),dJ.v]),ah dJ aR.Values]) ?_ ?_
 · replace hF:=aa8
   refine bn (dC (aN (jW (v:=(.bool false)) (.bool _)) ?_))
   refine aZ ?_
   refine bn (bU (m:=aR.Values.length) (fun m49 f' cs'=>∃(g:Fr)(uF:Nat)(Ck:List Int)(kN:Bool),m49=Ck.length/\f'=aQ g [(0,ae.v),(4,(pz k1)),(5,(pz k2)),(7,(zi (nE:Int))),(8,(.bool kN)),(9,(zi (uF:Int)))]/\List.drop uF aR.Values=Ck/\aO cs' [bW ae ai,aX k1 45 (zg [(zi aB.Method),aV.v]),ah aV aB.Values,aX k2 45 (zg [(zi aR.Method),dJ.v]),ah dJ aR.Values]/\DY ai aB aR nE x38 Ck uF kN=some Gt) ⟨_,0,_,_,rfl,aA,rfl,ay,hF⟩ ?_)
   rintro m49 _ _ ⟨g50,uF,Ck,kN,rfl,rfl,Xt,hE,hF⟩
   refine Kb hE aR.Values (fun aAY=>?_)
   rcases Ck with _|⟨TA,Ck⟩
   · have ayb:=dn Xt
     rw[DY]at hF
     refine dN ?_
     refine dL ?_
     refine dN ?_
     refine Ci hF (fun ayc hF=>?_) (fun ayc hF=>?_)
     · refine bi ?_
       cases hF
       replace hF:=XV
       try dsimp only at hF
       exact ze hF
     refine au ?_
     cases hF
     exact⟨_,rfl,aA,ay⟩
   obtain⟨ayb,CX,ayd⟩:=dA Xt
   rw[DY]at hF
   refine dN ?_
   refine dK ?_
   refine aU ?_
   obtain⟨o61,auO,aye⟩:=bind_some hF
   refine jD [0,1,2,3,4,5,6,7,8,9,10,11,12,13,14,15,16,17,18,19,20,21,22,23,24,25,26,27,28,29,30,31,32,33,34,35] [0,1,3,3,11,31,63,127,3,511,1023,3,3,4099,14339,30723,63491,3,260099,522243,1048575,2097151,4194303,8388607,4194303,33554431,67108863,4194303,138412031,4194303,943718399,2017460223,4294967295,8589934591,17179869183,34359738367] [] mixed (by decide+kernel) ?_
   refine kX (fun f' cs'=>∃(Uc:Bool)(g:Fr),Uc=o61/\f'=aQ g [(0,ae.v),(4,(pz k1)),(5,(pz k2)),(7,(zi (nE:Int))),(8,(.bool Uc)),(9,(zi (uF:Int)))]/\aO cs' [bW ae ai,aX k1 45 (zg [(zi aB.Method),aV.v]),ah aV aB.Values,aX k2 45 (zg [(zi aR.Method),dJ.v]),ah dJ aR.Values]) ?_ ?_
   · replace hF:=auO
     refine bX ?_
     rcases bD kN with SC|SC
     · rw[SC]
       try rw[SC]at hF; dsimp only[aJ,aI]at hF
       exact eD hF
     rw[SC]
     try rw[SC]at hF; dsimp only[aJ,aI]at hF
     refine dD ?_
     refine zI hF fun x64 aD1 Rj hF=>?_
     refine Di Rj (fun k68 j69=>?_)
     refine du ?_
     refine oz (R':=(aD 3 az)) iC.h rfl (.on 59 rfl rfl rfl) (.tmp rfl rfl) rfl .h P6 (fun w70=>?_)
     refine du ?_
     refine zI hF fun x71 aD2 acG hF=>?_
     refine Di acG (fun k75 j76=>?_)
     refine Dl dP ?_
     refine dD ?_
     refine zI hF fun x77 aD3 RF hF=>?_
     refine Di RF (fun wP j82=>?_)
     refine du ?_
     refine oz (R':=(aD 3 az)) iC.h rfl (.on 59 rfl rfl rfl) (.tmp rfl rfl) rfl .h P6 (fun w83=>?_)
     refine du ?_
     refine zI hF fun x84 aD4 adk hF=>?_
     refine Di adk (fun k88 j89=>?_)
     refine Dl dP ?_
     refine bX ?_
     rcases bD ((x71:Int)==x84)with SE|SE
     · rw[SE]
       try rw[SE]at hF; dsimp only[aJ,aI]at hF
       refine dD ?_
       refine Di CX (fun k91 j92=>?_)
       refine Dl dP ?_
       refine dD ?_
       refine Di JI (fun k93 j94=>?_)
       refine Dl dP ?_
       exact eD hF
     rw[SE]
     try rw[SE]at hF; dsimp only[aJ,aI]at hF
     exact eD hF
   rintro _ _ ⟨Uc,g97,rfl,rfl,hE⟩
   replace hF:=aye
   try dsimp only at hF
   refine bu hE ?_
   refine aZ ?_
   rw[wk uF]
   exact⟨_,bY _,_,uF+1,Ck,_,rfl,aA,ayd,ay,hF⟩
 rintro _ _ ⟨g99,rfl,rfl,hE⟩
 replace hF:=XV
 try dsimp only at hF
 refine bu hE ?_
 refine aZ ?_
 rw[wk nE]
 exact⟨_,bY _,_,nE+1,Cn,rfl,aA,aya,ay,hF⟩
def GL(aR:Access)(x6:Method)(c14:List Fact)(j3:Fact):Nat->Bool->Int->Option ((List Fact))
 |0,_,_=>none
 |Ku+1,jZ,c34=>if ((decide ((c34:Int)<(x6.Inputs.length:Int)))&&jZ)then (
     ((ix x6.Inputs c34).bind fun x47=>
       (iT x47 0 (IntKind.i64.wrap ((j3.Values.length:Int)-1))).bind fun NG=>
       bif NG then ((ix x6.Inputs c34).bind fun x63=>
         (ix j3.Values x63).bind fun x69=>
         (ix aR.Values c34).bind fun x75=>
         some ((x69:Int)==x75))
       else (some false)).bind fun Gt=>
     match Gt with
     |Ud=>GL aR x6 c14 j3 Ku Ud (IntKind.i64.wrap (c34+1)))
   else (
     if jZ then (
       (wX j3.Rel j3.Values).bind fun iq=>
       (app c14 ([iq]:List Fact)).bind fun z92=>
       some z92)
     else (
       some c14))
def GM(aR:Access)(x6:Method):List Fact->Nat->(List Fact)->Option ((List Fact))
 |[],k20,c14=>some c14
 |j3::lC,k20,c14=>(GL aR x6 c14 j3 (((x6.Inputs.length:Int)-0).toNat+2) ((j3.Rel:Int)==x6.Rel) 0).bind fun xI=>
   match xI with
   |xG=>GM aR x6 lC (k20+1) xG
def Ou(ai:List Method)(bO:List Fact)(aR:Access):Option ((List Fact)):=
 (IM ai aR).bind fun r3=>
 if (!r3)then (
   some ([]:List Fact))
 else (
   (ix ai aR.Method).bind fun x6=>
   GM aR x6 bO 0 ([]:List Fact))
theorem al0{ai:List Method}{ae:Sv}{bO:List Fact}{ax:Sv}{aR:Access}{dJ:Sv}{R:(List Fact)}(hF:Ou ai bO aR=some R):
   Fw.Spec Tryz.prog 190 [ae.v,ax.v,(zg [(zi aR.Method),dJ.v])] [bW ae ai,bH ax bO,ah dJ aR.Values] (fun p:Sv×List Nat=>p.1.v) (fun p=>[eP p.2 p.1 R]):=by
 refine Se 96 Tryz.func190 [.tmp 6] ?_
 intro H0 F0
 unfold Ou at hF
 refine au ?_
 refine bP (fun k1=>?_)
 refine bv ?_
 refine dH rfl (bQ (g:=true) gq.h dZ.h .nil (vs:=[]) rfl rfl rfl (by simp)) (fun k2=>?_)
 refine dR (.cons .h .nil) (bS (Ro:=gQ) (E:=70) (F:=[]) (xs:=([]:List Fact)) bR rfl rfl) ?_
 refine bE ?_
 refine bnd hF fun r3 hx4 hF=>bC (Za hx4) (fun _=>?_)
 refine aU ?_
 refine Ci hF (fun aa7 hF=>?_) (fun aa7 hF=>?_)
 · refine aZ ?_
   cases hF
   exact Er (⟨(some ⟨k2,0,none⟩),0,1⟩,(k2::[]))
 refine aZ ?_
 refine zI hF fun x6 hp8 bZ hF=>?_
 refine Ai bZ (fun k10 j11=>?_)
 refine ni (uO x6) vH (fun oL=>?_)
 refine d_ (fun k13=>?_)
 refine As (zg [(zi x6.Rel),oL.v,(zi x6.Limit),(zi x6.Cost),(zi x6.Quota)]) ?_
 refine aZ ?_
 refine bn (bU (m:=bO.length) (fun m18 f' cs'=>∃(g:Fr)(k20:Nat)(lC c14:List Fact)(v15:Sv)(zm:List Nat),m18=lC.length/\f'=aQ g [(1,ax.v),(5,(pz k1)),(7,v15.v),(8,(pz k13)),(9,(zi (k20:Int)))]/\List.drop k20 bO=lC/\aO cs' [bH ax bO,aX k1 45 (zg [(zi aR.Method),dJ.v]),ah dJ aR.Values,eP zm v15 c14,aW k13 57 (zg [(zi x6.Rel),oL.v,(zi x6.Limit),(zi x6.Cost),(zi x6.Quota)]),ah oL x6.Inputs]/\GM aR x6 lC k20 c14=some R) ⟨_,0,_,_,⟨(some ⟨k2,0,none⟩),0,1⟩,(k2::[]),rfl,aA,rfl,ay,hF⟩ ?_)
 rintro m18 _ _ ⟨g19,k20,lC,c14,v15,zm,rfl,rfl,FO,hE,hF⟩
 refine Kb hE bO (fun aiC=>?_)
 rcases lC with _|⟨j3,lC⟩
 · have JH:=dn FO
   rw[GM]at hF
   refine bJ ?_
   refine dL ?_
   refine gF ?_
   cases hF
   exact Er (v15,zm)
 obtain⟨JH,hx25,yB⟩:=dA FO
 rw[GM]at hF
 refine bJ ?_
 refine dK ?_
 refine au ?_
 obtain⟨xI,Qs,R5⟩:=bind_some hF
 refine iF (fun f' cs'=>∃(xG:List Fact)(YB:Sv)(F99:List Nat)(g:Fr),xG=xI/\f'=aQ g [(1,ax.v),(5,(pz k1)),(7,YB.v),(8,(pz k13)),(9,(zi (k20:Int)))]/\aO cs' [bH ax bO,aX k1 45 (zg [(zi aR.Method),dJ.v]),ah dJ aR.Values,eP F99 YB xG,aW k13 57 (zg [(zi x6.Rel),oL.v,(zi x6.Limit),(zi x6.Cost),(zi x6.Quota)]),ah oL x6.Inputs]) ?_ ?_
 · replace hF:=Qs
   refine bn (dV [0,1,2,3,4,5,6,7,8] [0,0,3,7,15,0,32,127,255] [] mixed (by decide+kernel) ?_)
   refine bX ?_
   refine Di hx25 (fun Gl Ym=>?_)
   refine du ?_
   refine Dl BR ?_
   refine du ?_
   refine dO rfl .no .q5 (fun ha hp=>fw (v:=(zi x6.Rel)) qd.h (EN ha (.tmp rfl rfl) rfl) hp.2 rfl rfl) ?_
   refine dD ?_
   refine bi ?_
   refine bn (bU (m:=(((x6.Inputs.length:Int)-0).toNat+2)) (fun Ku f' cs'=>∃(g:Fr)(jZ:Bool)(c34:Int),f'=aQ g [(1,ax.v),(5,(pz k1)),(7,v15.v),(8,(pz k13)),(9,(zi (k20:Int))),(10,(.bool jZ)),(11,(zi c34))]/\aO cs' [bH ax bO,aX k1 45 (zg [(zi aR.Method),dJ.v]),ah dJ aR.Values,eP zm v15 c14,aW k13 57 (zg [(zi x6.Rel),oL.v,(zi x6.Limit),(zi x6.Cost),(zi x6.Quota)]),ah oL x6.Inputs]/\GL aR x6 c14 j3 Ku jZ c34=some xI) ⟨_,_,_,aA,ay,hF⟩ ?_)
   rintro Ku _ _ ⟨g36,jZ,c34,rfl,hE,hF⟩
   refine bu hE ?_
   rcases Ku with _|Ku
   · rw[GL]at hF
     exact absurd hF (by simp)
   rw[GL]at hF
   refine aU ?_
   refine fe (fun f' cs'=>∃(g:Fr),f'=aQ g [(1,ax.v),(5,(pz k1)),(7,v15.v),(8,(pz k13)),(9,(zi (k20:Int))),(10,(.bool jZ)),(11,(zi c34)),(44,(.bool ((decide ((c34:Int)<(x6.Inputs.length:Int)))&&jZ)))]/\aO cs' [bH ax bO,aX k1 45 (zg [(zi aR.Method),dJ.v]),ah dJ aR.Values,eP zm v15 c14,aW k13 57 (zg [(zi x6.Rel),oL.v,(zi x6.Limit),(zi x6.Cost),(zi x6.Quota)]),ah oL x6.Inputs]) ?_ ?_
   · refine bE ?_
     rcases bD (decide ((c34:Int)<(x6.Inputs.length:Int)))with yF|yF
     · rw[yF]
       try rw[yF]at hF; dsimp only[aJ,aI]at hF
       refine bi ?_
       exact⟨_,aA,ay⟩
     rw[yF]
     try rw[yF]at hF; dsimp only[aJ,aI]at hF
     refine bv ?_
     exact⟨_,aA,ay⟩
   rintro _ _ ⟨g44,rfl,hE⟩
   refine bu hE ?_
   refine Ci hF (fun ayf hF=>?_) (fun ayf hF=>?_)
   · refine aU ?_
     obtain⟨Gt,aa8,XV⟩:=bind_some hF
     refine jD [0,1,2,3,4,5,6,7,8,9,10,11,12,13,14,15,16,17,18,19,20,21,22,23,24,25,26,27,28,29,30,31,32,33] [0,1,0,7,15,0,0,96,224,480,992,2016,4095,8191,16383,16383,65535,131071,262143,16383,540671,16383,3686399,7880703,16777215,33554431,16383,67125247,16383,469778431,1006649343,2147483647,4294967295,8589934591] [12] mixed (by decide+kernel) ?_
     refine kX (fun f' cs'=>∃(Ud:Bool)(g:Fr),Ud=Gt/\f'=aQ g [(1,ax.v),(5,(pz k1)),(7,v15.v),(8,(pz k13)),(9,(zi (k20:Int))),(10,(.bool Ud)),(11,(zi c34))]/\aO cs' [bH ax bO,aX k1 45 (zg [(zi aR.Method),dJ.v]),ah dJ aR.Values,eP zm v15 c14,aW k13 57 (zg [(zi x6.Rel),oL.v,(zi x6.Limit),(zi x6.Cost),(zi x6.Quota)]),ah oL x6.Inputs]) ?_ ?_
     · replace hF:=aa8
       refine du ?_
       refine dO rfl .no .q4 (fun ha hp=>fw (v:=oL.v) iC.h (EN ha (.tmp rfl rfl) rfl) hp.2 rfl rfl) ?_
       refine du ?_
       refine zI hF fun x47 aD5 Nc hF=>?_
       refine Di Nc (fun uF j52=>?_)
       refine Dl dP ?_
       refine bX ?_
       refine Di hx25 (fun k53 j54=>?_)
       refine du ?_
       refine oz (R':=(aD 3 az)) iC.h rfl .no (.tmp rfl rfl) rfl .h E_ (fun w55=>?_)
       refine bX ?_
       refine bnd hF fun NG R7 hF=>fu (jT R7) (fun _=>?_)
       refine du ?_
       rcases bD NG with SF|SF
       · rw[SF]
         try rw[SF]at hF; dsimp only[aJ,aI]at hF
         refine bX ?_
         refine Di hx25 (fun za j61=>?_)
         refine du ?_
         refine oz (R':=(aD 3 az)) iC.h rfl (.on 60 rfl rfl rfl) (.tmp rfl rfl) rfl .h E_ (fun w62=>?_)
         refine du ?_
         refine dO rfl (.on 60 rfl rfl rfl) .q9 (fun ha hp=>fw (v:=oL.v) iC.h (EN ha (.tmp rfl rfl) rfl) hp.2 rfl rfl) ?_
         refine du ?_
         refine zI hF fun x63 aD6 acI hF=>?_
         refine Di acI (fun k67 j68=>?_)
         refine Dl dP ?_
         refine zI hF fun x69 axe RD hF=>?_
         refine Di RD (fun k73 j74=>?_)
         refine Dl dP ?_
         refine dD ?_
         refine zI hF fun x75 aD7 adl hF=>?_
         refine Di adl (fun k79 j80=>?_)
         refine Dl dP ?_
         exact eD hF
       rw[SF]
       try rw[SF]at hF; dsimp only[aJ,aI]at hF
       exact eD hF
     rintro _ _ ⟨Ud,g82,rfl,rfl,hE⟩
     replace hF:=XV
     try dsimp only at hF
     refine bu hE ?_
     refine aZ ?_
     exact⟨Ku,bY _,_,_,_,aA,ay,hF⟩
   refine bJ ?_
   refine Ci hF (fun ayg hF=>?_) (fun ayg hF=>?_)
   · refine jD [0,1,2,3,4,5,6,7,8,9,10,11,12,13,14] [0,0,0,6,14,30,0,0,192,448,960,2046,4094,8191,16383] [11,13] mixed (by decide+kernel) ?_
     refine dD ?_
     refine Di hx25 (fun k83 j84=>?_)
     refine du ?_
     refine Dl BR ?_
     refine bX ?_
     refine Di hx25 (fun k85 j86=>?_)
     refine du ?_
     refine oz (R':=(aD 3 az)) iC.h rfl .no (.tmp rfl rfl) rfl .h E_ (fun w87=>?_)
     refine bnd hF fun iq adm hF=>qE (EK adm) (fun fo=>?_)
     refine iy rfl .no rfl (fun ha=>bQ (g:=true) (len:=1) (parts:=[(0,.tmp 92)]) gq.h dZ.h (.cons (EN ha (.tmp rfl rfl) rfl) .nil) (vs:=[(zg [(zi iq.Rel),fo.1.v])]) rfl rfl rfl (by intro v hv; simp at hv; rcases hv with rfl<;>rfl)) (fun k91=>?_)
     refine jk (.cons .h (.cons .h .nil)) (bS (Ro:=gQ) (E:=70) (F:=(fo.2++[])) (xs:=([iq]:List Fact)) (ed yn bR cK) rfl rfl) ?_
     refine bnd hF fun z92 hx93 hF=>cO rfl rfl .no (.cons .q7 (.cons .h .nil)) (.dep rfl .nil) (fun ha=>dX (Ro:=gQ) gq.h yo dZ.h rfl rfl rfl (EN ha (.tmp rfl rfl) rfl) (EN ha (.tmp rfl rfl) rfl) hx93 fU) (fun Kr=>?_)
     refine bX ?_
     cases hF
     exact⟨_,Kr.1,Kr.2,_,rfl,aA,ay⟩
   refine au ?_
   cases hF
   exact⟨_,v15,zm,_,rfl,aA,ay⟩
 rintro _ _ ⟨xG,YB,F99,adf,rfl,rfl,hE⟩
 replace hF:=R5
 try dsimp only at hF
 refine bu hE ?_
 refine aZ ?_
 rw[wk k20]
 exact⟨_,bY _,_,k20+1,lC,_,YB,F99,rfl,aA,yB,ay,hF⟩
def Gx(ai:List Method)(aj:Cache)(aR:Access)(eB:Int):List cB->Nat->Option ((List Fact)×Bool)
 |[],k24=>some (([]:List Fact),false)
 |nR::Co,k24=>((LB aj nR eB).bind fun wR=>
     bif wR then ((Od ai nR.Access aR).bind fun xC=>
       some xC)
     else (some false)).bind fun Kv=>
   match Kv with
   |c49=>if c49 then (
       (Ou ai nR.Facts aR).bind fun wN=>
       some (wN,true))
     else (
       Gx ai aj aR eB Co (k24+1))
def N7(ag:List Int)(ai:List Method)(aj:Cache)(aR:Access)(eB:Int):Option ((List Fact)×Bool):=
 ((IU ag ai aj).bind fun r5=>
   bif (!r5)then (some true)
   else ((Bd ag ai aR).bind fun r9=>
     bif (!r9)then (some true)
     else ((ix ai aR.Method).bind fun oI=>
       some ((oI.Limit:Int)!=0)))).bind fun o3=>
 match o3 with
 |c19=>if c19 then (
     some (([]:List Fact),false))
   else (
     Gx ai aj aR eB aj.Entries 0)
theorem alx{ag:List Int}{ae:Sv}{ai:List Method}{ax:Sv}{aj:Cache}{bM:Sv}{aR:Access}{wE:Sv}{eB:Int}{R:(List Fact)×Bool}(hF:N7 ag ai aj aR eB=some R):
   Fw.Spec Tryz.prog 172 [ae.v,ax.v,(zg [bM.v,(zi aj.Age)]),(zg [(zi aR.Method),wE.v]),(zi eB)] [ah ae ag,bW ax ai,dM bM aj.Entries,ah wE aR.Values] (fun p:Sv×List Nat=>(.tuple [p.1.v,(.bool R.2)].toArray)) (fun p=>[eP p.2 p.1 R.1]):=by
 refine Se 71 Tryz.func172 [.tmp 10,.tmp 11] ?_
 intro H0 F0
 unfold N7 at hF
 refine au ?_
 refine bP (fun k1=>?_)
 refine bP (fun k2=>?_)
 refine bi ?_
 obtain⟨o3,wy,hO4⟩:=bind_some hF
 refine au ?_
 refine fe (fun f' cs'=>∃(c19:Bool)(g:Fr),c19=o3/\f'=aQ g [(1,ax.v),(4,(zi eB)),(7,(pz k1)),(8,(pz k2)),(33,(.bool c19))]/\aO cs' [bW ax ai,aX k1 32 (zg [bM.v,(zi aj.Age)]),dM bM aj.Entries,aX k2 45 (zg [(zi aR.Method),wE.v]),ah wE aR.Values]) ?_ ?_
 · replace hF:=wy
   refine bv ?_
   refine bnd hF fun r5 hx6 hF=>bC (Ze hx6) (fun _=>?_)
   refine aU ?_
   rcases bD (!r5)with kw|kw
   · rw[kw]
     try rw[kw]at hF; dsimp only[aJ,aI]at hF
     exact bK hF
   rw[kw]
   try rw[kw]at hF; dsimp only[aJ,aI]at hF
   refine bJ ?_
   refine bnd hF fun r9 jI hF=>bC (UV jI) (fun _=>?_)
   refine bi ?_
   rcases bD (!r9)with lI|lI
   · rw[lI]
     try rw[lI]at hF; dsimp only[aJ,aI]at hF
     exact bK hF
   rw[lI]
   try rw[lI]at hF; dsimp only[aJ,aI]at hF
   refine bJ ?_
   refine zI hF fun oI Xf hx16 hF=>?_
   refine Ai hx16 (fun k17 J5=>?_)
   refine bv ?_
   refine Al P7 ?_
   exact bK hF
 rintro _ _ ⟨c19,g60,rfl,rfl,hE⟩
 replace hF:=hO4
 try dsimp only at hF
 refine bu hE ?_
 refine Ci hF (fun ayh hF=>?_) (fun ayh hF=>?_)
 · refine au ?_
   refine dH rfl (bQ (g:=true) gq.h dZ.h .nil (vs:=[]) rfl rfl rfl (by simp)) (fun k20=>?_)
   refine dR (.cons .h .nil) (bS (Ro:=gQ) (E:=70) (F:=[]) (xs:=([]:List Fact)) bR rfl rfl) ?_
   refine bi ?_
   cases hF
   exact Er (⟨(some ⟨k20,0,none⟩),0,1⟩,(k20::[]))
 refine aZ ?_
 refine bn (bU (m:=aj.Entries.length) (fun m22 f' cs'=>∃(g:Fr)(k24:Nat)(Co:List cB),m22=Co.length/\f'=aQ g [(1,ax.v),(4,(zi eB)),(7,(pz k1)),(8,(pz k2)),(12,(zi (k24:Int)))]/\List.drop k24 aj.Entries=Co/\aO cs' [bW ax ai,aX k1 32 (zg [bM.v,(zi aj.Age)]),dM bM aj.Entries,aX k2 45 (zg [(zi aR.Method),wE.v]),ah wE aR.Values]/\Gx ai aj aR eB Co k24=some R) ⟨_,0,_,rfl,aA,rfl,ay,hF⟩ ?_)
 rintro m22 _ _ ⟨g23,k24,Co,rfl,rfl,hd27,hE,hF⟩
 refine Kb hE aj.Entries (fun aAZ=>?_)
 rcases Co with _|⟨nR,Co⟩
 · have ayi:=dn hd27
   rw[Gx]at hF
   refine dN ?_
   refine dL ?_
   refine aZ ?_
   refine dH rfl (bQ (g:=true) gq.h dZ.h .nil (vs:=[]) rfl rfl rfl (by simp)) (fun xB=>?_)
   refine dR (.cons .h .nil) (bS (Ro:=gQ) (E:=70) (F:=[]) (xs:=([]:List Fact)) bR rfl rfl) ?_
   refine bi ?_
   cases hF
   exact Er (⟨(some ⟨xB,0,none⟩),0,1⟩,(xB::[]))
 obtain⟨ayi,hx29,z_⟩:=dA hd27
 rw[Gx]at hF
 refine dN ?_
 refine dK ?_
 refine aU ?_
 obtain⟨Kv,aa9,adn⟩:=bind_some hF
 refine dV [0,1,2,3,4,5,6,7,8,9,10,11,12,13,14,15,16,17,18] [0,0,2,0,14,30,0,127,255,511,511,1535,511,7679,15871,32255,511,131071,262143] [7,17] mixed (by decide+kernel) ?_
 refine kX (fun f' cs'=>∃(c49:Bool)(g:Fr),c49=Kv/\f'=aQ g [(1,ax.v),(4,(zi eB)),(7,(pz k1)),(8,(pz k2)),(12,(zi (k24:Int))),(60,(.bool c49))]/\aO cs' [bW ax ai,aX k1 32 (zg [bM.v,(zi aj.Age)]),dM bM aj.Entries,aX k2 45 (zg [(zi aR.Method),wE.v]),ah wE aR.Values]) ?_ ?_
 · replace hF:=aa9
   refine nZ ?_
   refine Di hx29 (fun nE T_=>?_)
   refine zZ (wV nR) xQ (fun p38=>?_)
   refine du ?_
   refine bnd hF fun wR uh hF=>fu (afm uh) (fun _=>?_)
   refine du ?_
   rcases bD wR with rC|rC
   · rw[rC]
     try rw[rC]at hF; dsimp only[aJ,aI]at hF
     refine nZ ?_
     refine Di hx29 (fun Yy j44=>?_)
     refine du ?_
     refine jR (Pw nR) Vo (fun p45=>?_)
     refine du ?_
     refine bnd hF fun xC Dc hF=>fu (alJ Dc) (fun _=>?_)
     exact eD hF
   rw[rC]
   try rw[rC]at hF; dsimp only[aJ,aI]at hF
   exact eD hF
 rintro _ _ ⟨c49,g58,rfl,rfl,hE⟩
 replace hF:=adn
 try dsimp only at hF
 refine bu hE ?_
 refine Ci hF (fun Dh hF=>?_) (fun Dh hF=>?_)
 · refine dV [0,1,2,3,4,5,6,7,8,9,10] [0,0,2,0,14,30,62,0,255,511,1023] [8] mixed (by decide+kernel) ?_
   refine nZ ?_
   refine Di hx29 (fun Yr Yt=>?_)
   refine du ?_
   refine oz (R':=(aD 70 mP)) ym.h rfl .no (.tmp rfl rfl) rfl .h ah0 (fun w52=>?_)
   refine du ?_
   refine bnd hF fun wN ui hF=>qE (al0 ui) (fun p55=>?_)
   refine dD ?_
   refine au ?_
   cases hF
   exact Er (p55.1,p55.2)
 refine bE ?_
 rw[wk k24]
 exact⟨_,bY _,_,k24+1,Co,rfl,aA,z_,ay,hF⟩
def G8(aa:Method)(kU:List Int):List Fact->Nat->(List Fact)->Option ((List Fact))
 |[],k9,c3=>some c3
 |iO::gJ,k9,c3=>((Md aa kU iO).bind fun uI=>
     if uI then (
       (wX iO.Rel iO.Values).bind fun Gr=>
       (app c3 ([Gr]:List Fact)).bind fun z35=>
       some z35)
     else (
       some c3)).bind fun kS=>
   match kS with
   |kC=>G8 aa kU gJ (k9+1) kC
def EI(aa:Method)(kU:List Int)(bO:List Fact):Option ((List Fact)):=
 G8 aa kU bO 0 ([]:List Fact)
theorem Y1{aa:Method}{aP:Sv}{kU:List Int}{ax:Sv}{bO:List Fact}{bM:Sv}{R:(List Fact)}(hF:EI aa kU bO=some R):
   Fw.Spec Tryz.prog 32 [(zg [(zi aa.Rel),aP.v,(zi aa.Limit),(zi aa.Cost),(zi aa.Quota)]),ax.v,bM.v] [ah aP aa.Inputs,ah ax kU,bH bM bO] (fun p:Sv×List Nat=>p.1.v) (fun p=>[eP p.2 p.1 R]):=by
 refine Se 38 Tryz.func32 [.tmp 6] ?_
 intro H0 F0
 unfold EI at hF
 refine au ?_
 refine bP (fun k1=>?_)
 refine bv ?_
 refine dH rfl (bQ (g:=true) gq.h dZ.h .nil (vs:=[]) rfl rfl rfl (by simp)) (fun k2=>?_)
 refine dR (.cons .h .nil) (bS (Ro:=gQ) (E:=70) (F:=[]) (xs:=([]:List Fact)) bR rfl rfl) ?_
 refine bE ?_
 refine bn (bU (m:=bO.length) (fun m7 f' cs'=>∃(g:Fr)(k9:Nat)(gJ c3:List Fact)(v4:Sv)(F5:List Nat),m7=gJ.length/\f'=aQ g [(1,ax.v),(2,bM.v),(3,(pz k1)),(7,v4.v),(8,(zi (k9:Int)))]/\List.drop k9 bO=gJ/\aO cs' [ah ax kU,bH bM bO,aX k1 57 (zg [(zi aa.Rel),aP.v,(zi aa.Limit),(zi aa.Cost),(zi aa.Quota)]),ah aP aa.Inputs,eP F5 v4 c3]/\G8 aa kU gJ k9 c3=some R) ⟨_,0,_,_,⟨(some ⟨k2,0,none⟩),0,1⟩,(k2::[]),rfl,aA,rfl,ay,hF⟩ ?_)
 rintro m7 _ _ ⟨g8,k9,gJ,c3,v4,F5,rfl,rfl,mR,hE,hF⟩
 refine Kb hE bO (fun Qp=>?_)
 rcases gJ with _|⟨iO,gJ⟩
 · have yL:=dn mR
   rw[G8]at hF
   refine bJ ?_
   refine dL ?_
   refine gF ?_
   cases hF
   exact Er (v4,F5)
 obtain⟨yL,kr,rF⟩:=dA mR
 rw[G8]at hF
 refine bJ ?_
 refine dK ?_
 refine au ?_
 obtain⟨kS,vQ,wz⟩:=bind_some hF
 refine iF (fun f' cs'=>∃(kC:List Fact)(v40:Sv)(Kw:List Nat)(g:Fr),kC=kS/\f'=aQ g [(1,ax.v),(2,bM.v),(3,(pz k1)),(7,v40.v),(8,(zi (k9:Int)))]/\aO cs' [ah ax kU,bH bM bO,aX k1 57 (zg [(zi aa.Rel),aP.v,(zi aa.Limit),(zi aa.Cost),(zi aa.Quota)]),ah aP aa.Inputs,eP Kw v40 kC]) ?_ ?_
 · replace hF:=vQ
   refine bn (dV [0,1,2,3,4,5,6] [0,0,0,0,12,28,63] [6] mixed (by decide+kernel) ?_)
   refine nZ ?_
   refine Di kr (fun k20 DF=>?_)
   refine jR (lZ iO) mq (fun AA=>?_)
   refine bnd hF fun uI hx24 hF=>fu (af8 hx24) (fun _=>?_)
   refine du ?_
   refine Ci hF (fun Jy hF=>?_) (fun Jy hF=>?_)
   · refine jD [0,1,2,3,4,5,6,7,8,9,10,11,12,13,14] [0,0,0,6,14,30,0,0,192,448,960,2046,4094,8191,16383] [11,13] mixed (by decide+kernel) ?_
     refine dD ?_
     refine Di kr (fun k26 TU=>?_)
     refine du ?_
     refine Dl BR ?_
     refine bX ?_
     refine Di kr (fun k28 Yp=>?_)
     refine du ?_
     refine oz (R':=(aD 3 az)) iC.h rfl .no (.tmp rfl rfl) rfl .h E_ (fun w30=>?_)
     refine bnd hF fun Gr hx32 hF=>qE (EK hx32) (fun p33=>?_)
     refine iy rfl .no rfl (fun ha=>bQ (g:=true) (len:=1) (parts:=[(0,.tmp 34)]) gq.h dZ.h (.cons (EN ha (.tmp rfl rfl) rfl) .nil) (vs:=[(zg [(zi Gr.Rel),p33.1.v])]) rfl rfl rfl (by intro v hv; simp at hv; rcases hv with rfl<;>rfl)) (fun k34=>?_)
     refine jk (.cons .h (.cons .h .nil)) (bS (Ro:=gQ) (E:=70) (F:=(p33.2++[])) (xs:=([Gr]:List Fact)) (ed yn bR cK) rfl rfl) ?_
     refine bnd hF fun z35 JA hF=>cO rfl rfl .no (.cons .q10 (.cons .h .nil)) (.dep rfl .nil) (fun ha=>dX (Ro:=gQ) gq.h yo dZ.h rfl rfl rfl (EN ha (.tmp rfl rfl) rfl) (EN ha (.tmp rfl rfl) rfl) JA fU) (fun p37=>?_)
     refine bX ?_
     cases hF
     exact⟨_,p37.1,p37.2,_,rfl,aA,ay⟩
   refine au ?_
   cases hF
   exact⟨_,v4,F5,_,rfl,aA,ay⟩
 rintro _ _ ⟨kC,v40,Kw,g43,rfl,rfl,hE⟩
 replace hF:=wz
 try dsimp only at hF
 refine bu hE ?_
 refine aZ ?_
 rw[wk k9]
 exact⟨_,bY _,_,k9+1,gJ,_,v40,Kw,rfl,aA,rF,ay,hF⟩
def zy(aB:Access)(aR:Access):Option (Bool):=
 (bif ((aB.Method:Int)==aR.Method)then ((Mj aB.Values aR.Values).bind fun r6=>
     some r6)
   else (some false)).bind fun o3=>
 match o3 with
 |c9=>some c9
theorem U_{aB:Access}{aP:Sv}{aR:Access}{aV:Sv}{R:Bool}(hF:zy aB aR=some R):
   Fw.Spec Tryz.prog 30 [(zg [(zi aB.Method),aP.v]),(zg [(zi aR.Method),aV.v])] [ah aP aB.Values,ah aV aR.Values] (fun _:Unit=>(.bool R)) (fun _=>[]):=by
 refine Se 17 Tryz.func30 [.tmp 4] ?_
 intro H0 F0
 unfold zy at hF
 refine au ?_
 refine bP (fun k1=>?_)
 refine bP (fun k2=>?_)
 refine aU ?_
 obtain⟨o3,wy,hO4⟩:=bind_some hF
 refine au ?_
 refine fe (fun f' cs'=>∃(c9:Bool)(g:Fr),c9=o3/\f'=aQ g [(4,(.bool c9))]/\aO cs' []) ?_ ?_
 · replace hF:=wy
   refine bE ?_
   rcases bD ((aB.Method:Int)==aR.Method)with hg5|hg5
   · rw[hg5]
     try rw[hg5]at hF; dsimp only[aJ,aI]at hF
     refine gF ?_
     refine bnd hF fun r6 hx7 hF=>bC (Zo hx7) (fun _=>?_)
     exact bK hF
   rw[hg5]
   try rw[hg5]at hF; dsimp only[aJ,aI]at hF
   exact bK hF
 rintro _ _ ⟨c9,g10,rfl,rfl,hE⟩
 replace hF:=hO4
 try dsimp only at hF
 refine bu hE ?_
 exact ze hF
def zo(aB:Access):List cB->Nat->Option (Int)
 |[],k6=>some (-1)
 |x8::jQ,k6=>(zy x8.Access aB).bind fun nz=>
   if nz then (
     some (k6:Int))
   else (
     zo aB jQ (k6+1))
def Lf(aj:Cache)(aB:Access):Option (Int):=
 zo aB aj.Entries 0
theorem aeP{aj:Cache}{ae:Sv}{aB:Access}{aV:Sv}{R:Int}(hF:Lf aj aB=some R):
   Fw.Spec Tryz.prog 22 [(zg [ae.v,(zi aj.Age)]),(zg [(zi aB.Method),aV.v])] [dM ae aj.Entries,ah aV aB.Values] (fun _:Unit=>(zi R)) (fun _=>[]):=by
 refine Se 22 Tryz.func22 [.tmp 4] ?_
 intro H0 F0
 unfold Lf at hF
 refine au ?_
 refine bP (fun k1=>?_)
 refine bP (fun k2=>?_)
 refine bE ?_
 refine bn (bU (m:=aj.Entries.length) (fun m4 f' cs'=>∃(g:Fr)(k6:Nat)(jQ:List cB),m4=jQ.length/\f'=aQ g [(2,(pz k1)),(3,(pz k2)),(5,(zi (k6:Int)))]/\List.drop k6 aj.Entries=jQ/\aO cs' [aX k1 32 (zg [ae.v,(zi aj.Age)]),dM ae aj.Entries,aX k2 45 (zg [(zi aB.Method),aV.v]),ah aV aB.Values]/\zo aB jQ k6=some R) ⟨_,0,_,rfl,aA,rfl,ay,hF⟩ ?_)
 rintro m4 _ _ ⟨g5,k6,jQ,rfl,rfl,y_,hE,hF⟩
 refine Kb hE aj.Entries (fun aaT=>?_)
 rcases jQ with _|⟨x8,jQ⟩
 · have hk10:=dn y_
   rw[zo]at hF
   refine dN ?_
   refine dL ?_
   exact ze hF
 obtain⟨hk10,lg,mR⟩:=dA y_
 rw[zo]at hF
 refine dN ?_
 refine dK ?_
 refine aU ?_
 refine dV [0,1,2,3,4,5,6,7] [0,1,0,7,15,31,0,127] [7] mixed (by decide+kernel) ?_
 refine dD ?_
 refine Di lg (fun k15 Yq=>?_)
 refine du ?_
 refine jR (Pw x8) Vo (fun ny=>?_)
 refine du ?_
 refine bnd hF fun nz kR hF=>fu (U_ kR) (fun _=>?_)
 refine du ?_
 refine Ci hF (fun vZ hF=>?_) (fun vZ hF=>?_)
 · exact ze hF
 refine bE ?_
 rw[wk k6]
 exact⟨_,bY _,_,k6+1,jQ,rfl,aA,mR,ay,hF⟩
def En(aj:Cache)(aB:Access)(eB:Int)(r5:Access):List cB->Nat->(List cB)->(List Fact)->Bool->Option (Cache)
 |[],wB,c203,c206,c208=>if (!c208)then (
     (app c203 ([(⟨r5,c206,eB⟩:cB)]:List cB)).bind fun z222=>
     some (⟨z222,aj.Age⟩:Cache))
   else (
     some (⟨c203,aj.Age⟩:Cache))
 |ado::BL,wB,c203,c206,c208=>((IC ado).bind fun pX=>
     (zy pX.Access aB).bind fun aku=>
     if aku then (
       some (c203,c208))
     else (
       (bif (!c208)then ((LQ aB pX.Access).bind fun akv=>
           some akv)
         else (some false)).bind fun adp=>
       match adp with
       |SG=>if SG then (
           (app c203 ([(⟨r5,c206,eB⟩:cB)]:List cB)).bind fun akw=>
           (app akw ([pX]:List cB)).bind fun akx=>
           some (akx,true))
         else (
           (app c203 ([pX]:List cB)).bind fun aky=>
           some (aky,c208)))).bind fun adq=>
   match adq with
   |(xx,wC)=>En aj aB eB r5 BL (wB+1) xx c206 wC
def Pi(aj:Cache)(aB:Access)(bO:List Fact)(eB:Int):Option (Cache):=
 (Bc aB.Method aB.Values).bind fun r5=>
 (L_ bO).bind fun r8=>
 En aj aB eB r5 aj.Entries 0 ([]:List cB) r8 false
theorem am'{aj:Cache}{ae:Sv}{aB:Access}{aV:Sv}{bO:List Fact}{bM:Sv}{eB:Int}{R:Cache}(hF:Pi aj aB bO eB=some R):
   Fw.Spec Tryz.prog 173 [(zg [ae.v,(zi aj.Age)]),(zg [(zi aB.Method),aV.v]),bM.v,(zi eB)] [dM ae aj.Entries,ah aV aB.Values,bH bM bO] (fun p:Sv=>(zg [p.v,(zi R.Age)])) (fun p=>[dM p R.Entries]):=by
 refine Se 72 Tryz.func173 [.cell 8 32] ?_
 intro H0 F0
 unfold Pi at hF
 refine au ?_
 refine bP (fun k1=>?_)
 refine bP (fun k2=>?_)
 refine d_ (fun k3=>?_)
 refine bi ?_
 refine aN (iD oW.h rfl (vs:=[(zi aj.Age)]) cu (cells:=[(.slice none 0 0),(zi aj.Age)]) rfl) ?_
 refine d_ (fun k4=>?_)
 refine As (zg [(.slice none 0 0),(zi aj.Age)]) ?_
 refine bE ?_
 refine bnd hF fun r5 hx6 hF=>ek (.rd .q5 rfl .nil) (E9 (post':=fun p7:Sv×List Nat=>[ah p7.1 r5.Values]) (fun p7=>(.frz .h aG ay)) (bV ajs.h cu (Ol hx6))) (fun p7=>?_)
 refine au ?_
 refine bnd hF fun r8 bZ hF=>gB (Zm bZ) (fun fT=>?_)
 refine au ?_
 refine aN (iD qz.h rfl (vs:=[(zg [(zi r5.Method),p7.1.v]),fT.1.v,(zi eB)]) cu (cells:=[(zi r5.Method),p7.1.v,fT.1.v,(zi eB)]) rfl) ?_
 refine d_ (fun k11=>?_)
 refine As (zg [(zi r5.Method),p7.1.v,fT.1.v,(zi eB)]) ?_
 refine dN ?_
 refine bn (bU (m:=aj.Entries.length) (fun akz f' cs'=>∃(g:Fr)(wB:Nat)(BL c203:List cB)(c206:List Fact)(c208:Bool)(F3:Sv)(XW:List Nat)(Af:Sv),akz=BL.length/\f'=aQ g [(4,(pz k1)),(5,(pz k2)),(8,(pz k3)),(9,(pz k4)),(10,(pz k11)),(11,(.bool c208)),(12,(zi (wB:Int)))]/\List.drop wB aj.Entries=BL/\aO cs' [aX k1 32 (zg [ae.v,(zi aj.Age)]),dM ae aj.Entries,aX k2 45 (zg [(zi aB.Method),aV.v]),ah aV aB.Values,aW k3 32 (zg [(.slice none 0 0),(zi 0)]),aW k4 32 (zg [F3.v,(zi aj.Age)]),ab7 XW F3 c203,aW k11 47 (zg [(zi r5.Method),p7.1.v,Af.v,(zi eB)]),ah p7.1 r5.Values,bH Af c206]/\En aj aB eB r5 BL wB c203 c206 c208=some R) ⟨_,0,_,_,_,_,⟨none,0,0⟩,[],fT.1,rfl,aA,rfl,(.conv .nil (gV (Ro:=(aC oV)) (E:=47)) (.cons .nil) (.frz .q2 aG ay)),hF⟩ ?_)
 rintro akz _ _ ⟨aD8,wB,BL,c203,c206,c208,F3,XW,Af,rfl,rfl,aiL,hE,hF⟩
 refine Kb hE aj.Entries (fun azB=>?_)
 rcases BL with _|⟨ado,BL⟩
 · have auP:=dn aiL
   rw[En]at hF
   refine dN ?_
   refine dL ?_
   refine gF ?_
   refine Ci hF (fun auQ hF=>?_) (fun auQ hF=>?_)
   · refine bi ?_
     refine dH rfl (bQ (g:=true) u_.h qz.h cu (vs:=[(zg [(zi r5.Method),p7.1.v,Af.v,(zi eB)])]) rfl rfl rfl (by intro v hv; simp at hv; rcases hv with rfl<;>rfl)) (fun aD9=>?_)
     refine dR (.cons .h (.rd .q8 rfl (.rd .q9 rfl .nil))) (bS (Ro:=(aC oV)) (E:=47) (F:=([]++[])) (xs:=([(⟨r5,c206,eB⟩:cB)]:List cB)) (ed (ajy (a:=(⟨r5,c206,eB⟩:cB))) bR cK) rfl rfl) ?_
     refine bnd hF fun z222 Qt hF=>ek (.cons .q7 (.cons .h .nil)) (dX (Ro:=(aC oV)) u_.h M7 qz.h rfl rfl rfl (.tmp rfl rfl) (.tmp rfl rfl) Qt fU) (fun adr=>?_)
     refine au ?_
     refine As (zg [adr.1.v,(zi aj.Age)]) ?_
     refine bv ?_
     refine As (zg [adr.1.v,(zi aj.Age)]) ?_
     refine aU ?_
     cases hF
     exact gU adr.1 (.cellA rfl rfl .h rfl u7.h oW.h.sz rfl rfl .nil) rfl (.frz .q2 aG (.sel (.rd .h rfl .nil)))
   refine bv ?_
   refine As (zg [F3.v,(zi aj.Age)]) ?_
   refine aU ?_
   cases hF
   exact gU F3 (.cellA rfl rfl .h rfl u7.h oW.h.sz rfl rfl .nil) rfl (.frz .q6 aG (.sel (.rd .h rfl .nil)))
 obtain⟨auP,auR,auS⟩:=dA aiL
 rw[En]at hF
 refine dN ?_
 refine dK ?_
 refine au ?_
 obtain⟨adq,aqA,auT⟩:=bind_some hF
 refine iF (fun f' cs'=>∃(xx:List cB)(wC:Bool)(Dq:Sv)(Nl:List Nat)(g:Fr),adq=(xx,wC)/\f'=aQ g [(4,(pz k1)),(5,(pz k2)),(8,(pz k3)),(9,(pz k4)),(10,(pz k11)),(11,(.bool wC)),(12,(zi (wB:Int)))]/\aO cs' [aX k1 32 (zg [ae.v,(zi aj.Age)]),dM ae aj.Entries,aX k2 45 (zg [(zi aB.Method),aV.v]),ah aV aB.Values,aW k3 32 (zg [(.slice none 0 0),(zi 0)]),aW k4 32 (zg [Dq.v,(zi aj.Age)]),ab7 Nl Dq xx,aW k11 47 (zg [(zi r5.Method),p7.1.v,Af.v,(zi eB)]),ah p7.1 r5.Values,bH Af c206]) ?_ ?_
 · replace hF:=aqA
   refine bn (dC (aN (iK (off:=0) VX.h (.tmp rfl rfl)) ?_))
   refine aU ?_
   refine Ai auR (fun aD_ aD'=>?_)
   refine yj (wV ado) xQ (fun aEa=>?_)
   refine bnd hF fun pX auU hF=>Av (Y_ auU) (fun qB=>?_)
   refine d_ (fun akA=>?_)
   refine As (zg [(zi pX.Access.Method),qB.1.v,qB.2.2.1.v,(zi pX.At)]) ?_
   refine bi ?_
   refine eu .h (fun hp=>j_ (s:=2) (l:=[(zi pX.Access.Method),qB.1.v]) vY.h ky.h.sz (.tmp rfl rfl) hp.2 rfl (by decide) (Nat.le_of_ble_eq_true rfl) rfl) ?_
   refine au ?_
   refine bnd hF fun aku auV hF=>ek (.cons (.t .h) (.rd .q8 rfl .nil)) (jV aG (fun _=>.nil) (bV aws.h cu (U_ auV))) (fun _=>?_)
   refine au ?_
   refine Ci hF (fun auW hF=>?_) (fun auW hF=>?_)
   · refine bv ?_
     cases hF
     exact⟨_,_,F3,XW,_,rfl,aA,ay⟩
   refine aU ?_
   obtain⟨adp,aqB,auX⟩:=bind_some hF
   refine au ?_
   refine fe (fun f' cs'=>∃(SG:Bool)(g:Fr),SG=adp/\f'=aQ g [(4,(pz k1)),(5,(pz k2)),(8,(pz k3)),(9,(pz k4)),(10,(pz k11)),(11,(.bool c208)),(12,(zi (wB:Int))),(13,(pz akA)),(50,(.bool SG))]/\aO cs' [aX k1 32 (zg [ae.v,(zi aj.Age)]),dM ae aj.Entries,aX k2 45 (zg [(zi aB.Method),aV.v]),ah aV aB.Values,aW k3 32 (zg [(.slice none 0 0),(zi 0)]),aW k4 32 (zg [F3.v,(zi aj.Age)]),ab7 XW F3 c203,aW k11 47 (zg [(zi r5.Method),p7.1.v,Af.v,(zi eB)]),ah p7.1 r5.Values,bH Af c206,aW akA 47 (zg [(zi pX.Access.Method),qB.1.v,qB.2.2.1.v,(zi pX.At)]),bI qB.2.1 qB.1 pX.Access.Values,eP qB.2.2.2 qB.2.2.1 pX.Facts]) ?_ ?_
   · replace hF:=aqB
     refine bv ?_
     rcases bD (!c208)with Qz|Qz
     · rw[Qz]
       try rw[Qz]at hF; dsimp only[aJ,aI]at hF
       refine aZ ?_
       refine eu (.t .h) (fun hp=>j_ (s:=2) (l:=[(zi pX.Access.Method),qB.1.v]) vY.h ky.h.sz (.tmp rfl rfl) hp.2 rfl (by decide) (Nat.le_of_ble_eq_true rfl) rfl) ?_
       refine au ?_
       refine bnd hF fun akv auY hF=>ek (.cons .h (.rd .q8 rfl .nil)) (jV aG (fun _=>.nil) (jm (.rd (.t .h) rfl (.rd .h rfl .nil)) (bV asB.h cu (afG auY)))) (fun _=>?_)
       exact bK hF
     rw[Qz]
     try rw[Qz]at hF; dsimp only[aJ,aI]at hF
     exact bK hF
   rintro _ _ ⟨SG,aEb,rfl,rfl,hE⟩
   replace hF:=auX
   try dsimp only at hF
   refine bu hE ?_
   refine Ci hF (fun auZ hF=>?_) (fun auZ hF=>?_)
   · refine bi ?_
     refine dH rfl (bQ (g:=true) u_.h qz.h cu (vs:=[(zg [(zi r5.Method),p7.1.v,Af.v,(zi eB)])]) rfl rfl rfl (by intro v hv; simp at hv; rcases hv with rfl<;>rfl)) (fun aEc=>?_)
     refine dR (.cons .h (.rd .q8 rfl (.rd .q9 rfl .nil))) (bS (Ro:=(aC oV)) (E:=47) (F:=([]++[])) (xs:=([(⟨r5,c206,eB⟩:cB)]:List cB)) (ed (ajy (a:=(⟨r5,c206,eB⟩:cB))) bR cK) rfl rfl) ?_
     refine bnd hF fun akw au0 hF=>ek (.cons .q7 (.cons .h .nil)) (dX (Ro:=(aC oV)) u_.h M7 qz.h rfl rfl rfl (.tmp rfl rfl) (.tmp rfl rfl) au0 fU) (fun ayj=>?_)
     refine au ?_
     refine As (zg [ayj.1.v,(zi aj.Age)]) ?_
     refine dN ?_
     refine dH rfl (bQ (g:=true) u_.h qz.h cu (vs:=[(zg [(zi pX.Access.Method),qB.1.v,qB.2.2.1.v,(zi pX.At)])]) rfl rfl rfl (by intro v hv; simp at hv; rcases hv with rfl<;>rfl)) (fun aEd=>?_)
     refine dR (.cons .h (.cons .q11 (.cons .q11 .nil))) (bS (Ro:=qY) (E:=47) (F:=((qB.2.1++qB.2.2.2)++[])) (xs:=([pX]:List cB)) (ed W9 bR cK) rfl rfl) ?_
     refine aig .h aG ?_
     refine bnd hF fun akx au1 hF=>ek (.cons .q2 (.rd .h rfl .nil)) (dX (Ro:=(aC oV)) u_.h M7 qz.h rfl rfl rfl (.tmp rfl rfl) (.tmp rfl rfl) au1 mr) (fun ads=>?_)
     refine au ?_
     refine As (zg [ads.1.v,(zi aj.Age)]) ?_
     refine au ?_
     cases hF
     exact⟨_,_,ads.1,ads.2,_,rfl,aA,ay⟩
   refine aZ ?_
   refine dH rfl (bQ (g:=true) u_.h qz.h cu (vs:=[(zg [(zi pX.Access.Method),qB.1.v,qB.2.2.1.v,(zi pX.At)])]) rfl rfl rfl (by intro v hv; simp at hv; rcases hv with rfl<;>rfl)) (fun aEe=>?_)
   refine dR (.cons .h (.cons .q11 (.cons .q11 .nil))) (bS (Ro:=qY) (E:=47) (F:=((qB.2.1++qB.2.2.2)++[])) (xs:=([pX]:List cB)) (ed W9 bR cK) rfl rfl) ?_
   refine aig .h aG ?_
   refine bnd hF fun aky hx255 hF=>ek (.cons .q7 (.rd .h rfl .nil)) (dX (Ro:=(aC oV)) u_.h M7 qz.h rfl rfl rfl (.tmp rfl rfl) (.tmp rfl rfl) hx255 mr) (fun adt=>?_)
   refine au ?_
   refine As (zg [adt.1.v,(zi aj.Age)]) ?_
   refine au ?_
   cases hF
   exact⟨_,_,adt.1,adt.2,_,rfl,aA,ay⟩
 rintro _ _ ⟨xx,wC,Dq,Nl,axF,rfl,rfl,hE⟩
 replace hF:=auT
 try dsimp only at hF
 refine bu hE ?_
 refine aZ ?_
 rw[wk wB]
 exact⟨_,bY _,_,wB+1,BL,_,_,_,Dq,Nl,Af,rfl,aA,auS,ay,hF⟩
def D_(jN:Atom)(mK:List bz)(lS:bz)(mM:(List Fact))(uR:List Access)(zG:Cache):List Fact->Nat->(List Fact)->Option ((List Access)×(List Fact)×(List cB)×Int×(List bz))
 |[],CE,Fu=>(Bf ([lS]:List bz) jN mM).bind fun aiM=>
   (app mK aiM).bind fun aiN=>
   some (uR,Fu,zG.Entries,zG.Age,aiN)
 |Ws::Bp,CE,Fu=>(xS Fu Ws).bind fun aiO=>
   D_ jN mK lS mM uR zG Bp (CE+1) aiO
def Ea(jN:Atom)(mZ:List cB)(nX:Int)(mK:List bz)(lS:bz)(mM:(List Fact))(uR:List Access):List Fact->Nat->(List Fact)->Option ((List Access)×(List Fact)×(List cB)×Int×(List bz))
 |[],CG,Fv=>(Bf ([lS]:List bz) jN mM).bind fun aiP=>
   (app mK aiP).bind fun aiQ=>
   some (uR,Fv,mZ,nX,aiQ)
 |Wu::Bq,CG,Fv=>(xS Fv Wu).bind fun aiR=>
   Ea jN mZ nX mK lS mM uR Bq (CG+1) aiR
def Eb(jN:Atom)(vR:List Access)(mZ:List cB)(nX:Int)(mK:List bz)(lS:bz)(vS:(List Fact)×Bool):List Fact->Nat->(List Fact)->Option ((List Access)×(List Fact)×(List cB)×Int×(List bz))
 |[],CJ,Fx=>(Bf ([lS]:List bz) jN vS.1).bind fun aiS=>
   (app mK aiS).bind fun aiT=>
   some (vR,Fx,mZ,nX,aiT)
 |Wv::Br,CJ,Fx=>(xS Fx Wv).bind fun aiU=>
   Eb jN vR mZ nX mK lS vS Br (CJ+1) aiU
def GX(ag:List Int)(ai:List Method)(bO:List Fact)(eB:Int)(oC:Step)(jN:Atom):List bz->Nat->(List Access)->(List Fact)->(List cB)->Int->(List bz)->Option ((List Access)×(List Fact)×(List cB)×Int×(List bz))
 |[],uS,vR,zH,mZ,nX,mK=>some (vR,zH,mZ,nX,mK)
 |lS::Bt,uS,vR,zH,mZ,nX,mK=>((ix ai oC.Method).bind fun Ww=>
     (ZE Ww jN lS).bind fun zJ=>
     (N7 ag ai (⟨mZ,nX⟩:Cache) (⟨oC.Method,zJ⟩:Access) eB).bind fun vS=>
     if (!vS.2)then (
       (ix ai oC.Method).bind fun aa_=>
       (EI aa_ zJ bO).bind fun mM=>
       (app vR ([(⟨oC.Method,zJ⟩:Access)]:List Access)).bind fun uR=>
       (bif (decide (((mZ.length:Int):Int)<100))then (some true)
         else ((Lf (⟨mZ,nX⟩:Cache) (⟨oC.Method,zJ⟩:Access)).bind fun aiV=>
           some (decide ((0:Int)<=aiV)))).bind fun aa'=>
       match aa' with
       |QA=>if QA then (
           (Pi (⟨mZ,nX⟩:Cache) (⟨oC.Method,zJ⟩:Access) mM eB).bind fun zG=>
           D_ jN mK lS mM uR zG mM 0 zH)
         else (
           Ea jN mZ nX mK lS mM uR mM 0 zH))
     else (
       Eb jN vR mZ nX mK lS vS vS.1 0 zH)).bind fun MK=>
   match MK with
   |(QB,QC,QD,QE,QF)=>GX ag ai bO eB oC jN Bt (uS+1) QB QC QD QE QF
def Ed(ag:List Int)(ai:List Method)(aK:Query)(bO:List Fact)(eB:Int):List Step->Nat->(List Access)->(List Fact)->(List cB)->Int->(List bz)->Option (Run×Cache)
 |[],sw,CK,Jl,Jm,CL,qQ=>(Vj aK qQ).bind fun aiW=>
   (PE ai CK).bind fun QG=>
   some ((⟨aiW,CK,Jl,QG⟩:Run),(⟨Jm,CL⟩:Cache))
 |oC::Bu,sw,CK,Jl,Jm,CL,qQ=>((ix aK.Atoms oC.Atom).bind fun jN=>
     GX ag ai bO eB oC jN qQ 0 CK Jl Jm CL ([]:List bz)).bind fun Wx=>
   match Wx with
   |(QH,QI,QJ,QK,QL)=>Ed ag ai aK bO eB Bu (sw+1) QH QI QJ QK QL
def OW(ag:List Int)(ai:List Method)(aK:Query)(dY:List Step)(bO:List Fact)(aj:Cache)(eB:Int):Option (Run×Cache):=
 (Px aj).bind fun r6=>
 ((PD ag ai aK dY).bind fun dz=>
   bif (!dz)then (some true)
   else ((Vp ai dY).bind fun r16=>
     bif (!r16)then (some true)
     else ((II ag bO).bind fun jP=>
       bif (!jP)then (some true)
       else ((IU ag ai aj).bind fun DD=>
         bif (!DD)then (some true)
         else ((iT eB 0 10000).bind fun Kt=>
           some (!Kt)))))).bind fun o10=>
 match o10 with
 |c31=>if c31 then (
     some ((⟨[],[],[],0⟩:Run),r6))
   else (
     Ed ag ai aK bO eB dY 0 ([]:List Access) ([]:List Fact) r6.Entries r6.Age ([(⟨[],[]⟩:bz)]:List bz))
theorem amD{ag:List Int}{ae:Sv}{ai:List Method}{ax:Sv}{aK:Query}{bM dJ:Sv}{dY:List Step}{ig:Sv}{bO:List Fact}{kL:Sv}{aj:Cache}{akB:Sv}{eB:Int}{R:Run×Cache}(hF:OW ag ai aK dY bO aj eB=some R):
   Fw.Spec Tryz.prog 139 [ae.v,ax.v,(zg [bM.v,dJ.v]),ig.v,kL.v,(zg [akB.v,(zi aj.Age)]),(zi eB)] [ah ae ag,bW ax ai,ah bM aK.Head,eX dJ aK.Atoms,iH ig dY,bH kL bO,dM akB aj.Entries] (fun p:Sv×List Nat×Sv×Sv×List Nat×Sv=>(.tuple [(zg [p.1.v,p.2.2.1.v,p.2.2.2.1.v,(zi R.1.Cost)]),(zg [p.2.2.2.2.2.v,(zi R.2.Age)])].toArray)) (fun p=>[aT (aF 24 (aF 3 (aC az))) p.2.1 p.1.v R.1.Answers,eH p.2.2.1 R.1.Log,eP p.2.2.2.2.1 p.2.2.2.1 R.1.Got,dM p.2.2.2.2.2 R.2.Entries]):=by
 refine Se 183 Tryz.func139 [.cell 14 154,.cell 15 32] ?_
 intro H0 F0
 unfold OW at hF
 refine au ?_
 refine bP (fun k1=>?_)
 refine bP (fun k2=>?_)
 refine d_ (fun k3=>?_)
 refine d_ (fun k4=>?_)
 refine aU ?_
 refine aN (iD Jj.h rfl (vs:=[]) .nil (cells:=[(.slice none 0 0),(.slice none 0 0),(.slice none 0 0),(zi 0)]) rfl) ?_
 refine d_ (fun k5=>?_)
 refine As (zg [(.slice none 0 0),(.slice none 0 0),(.slice none 0 0),(zi 0)]) ?_
 refine bv ?_
 refine bnd hF fun r6 hx7 hF=>gB (afF hx7) (fun p8=>?_)
 refine d_ (fun k9=>?_)
 refine As (zg [p8.1.v,(zi r6.Age)]) ?_
 refine aU ?_
 obtain⟨o10,au2,ayk⟩:=bind_some hF
 refine au ?_
 refine fe (fun f' cs'=>∃(c31:Bool)(g:Fr),c31=o10/\f'=aQ g [(0,ae.v),(1,ax.v),(3,ig.v),(4,kL.v),(6,(zi eB)),(9,(pz k1)),(14,(pz k3)),(15,(pz k4)),(16,(pz k5)),(17,(pz k9)),(59,(.bool c31))]/\aO cs' [ah ae ag,bW ax ai,iH ig dY,bH kL bO,aX k1 120 (zg [bM.v,dJ.v]),ah bM aK.Head,eX dJ aK.Atoms,aW k3 154 (zg [(.slice none 0 0),(.slice none 0 0),(.slice none 0 0),(zi 0)]),aW k4 32 (zg [(.slice none 0 0),(zi 0)]),aW k5 154 (zg [(.slice none 0 0),(.slice none 0 0),(.slice none 0 0),(zi 0)]),aW k9 32 (zg [p8.1.v,(zi r6.Age)]),oF p8.2 p8.1 r6.Entries]) ?_ ?_
 · replace hF:=au2
   refine bi ?_
   refine bnd hF fun dz iJ hF=>bC (anL iJ) (fun _=>?_)
   refine aU ?_
   rcases bD (!dz)with jJ|jJ
   · rw[jJ]
     try rw[jJ]at hF; dsimp only[aJ,aI]at hF
     exact bK hF
   rw[jJ]
   try rw[jJ]at hF; dsimp only[aJ,aI]at hF
   refine aZ ?_
   refine bnd hF fun r16 jO hF=>bC (anM jO) (fun _=>?_)
   refine bi ?_
   rcases bD (!r16)with iN|iN
   · rw[iN]
     try rw[iN]at hF; dsimp only[aJ,aI]at hF
     exact bK hF
   rw[iN]
   try rw[iN]at hF; dsimp only[aJ,aI]at hF
   refine aZ ?_
   refine bnd hF fun jP lG hF=>bC (UU lG) (fun _=>?_)
   refine bi ?_
   rcases bD (!jP)with ku|ku
   · rw[ku]
     try rw[ku]at hF; dsimp only[aJ,aI]at hF
     exact bK hF
   rw[ku]
   try rw[ku]at hF; dsimp only[aJ,aI]at hF
   refine bJ ?_
   refine bnd hF fun DD hx25 hF=>bC (Ze hx25) (fun _=>?_)
   refine bi ?_
   rcases bD (!DD)with SH|SH
   · rw[SH]
     try rw[SH]at hF; dsimp only[aJ,aI]at hF
     exact bK hF
   rw[SH]
   try rw[SH]at hF; dsimp only[aJ,aI]at hF
   refine bv ?_
   refine bnd hF fun Kt hx29 hF=>bC (jT hx29) (fun _=>?_)
   exact bK hF
 rintro _ _ ⟨c31,aA0,rfl,rfl,hE⟩
 replace hF:=ayk
 try dsimp only at hF
 refine bu hE ?_
 refine Ci hF (fun aqC hF=>?_) (fun aqC hF=>?_)
 · refine dV [0,1,2,3] [0,0,1,7] [2,3] mixed (by decide+kernel) ?_
   refine dO rfl .no .q9 (fun ha hp=>fP Wo.h Jj.h.sz rfl (EN ha (.tmp rfl rfl) rfl) hp.2 rfl) ?_
   refine dO rfl .no .q10 (fun ha hp=>fP u7.h oW.h.sz rfl (EN ha (.tmp rfl rfl) rfl) hp.2 rfl) ?_
   refine cO rfl rfl .no (.cons .q7 .nil) (.own .q9 (fun _ h=>h) (.dep rfl .nil)) (fun ha=>gD (e':=(zg [(.slice none 0 0),(.slice none 0 0),(.slice none 0 0),(zi 0)])) (v:=(zg [(.slice none 0 0),(.slice none 0 0),(.slice none 0 0),(zi 0)])) Jj.h.sz (EN ha (.tmp rfl rfl) rfl) (EN ha (.tmp rfl rfl) rfl) rfl rfl rfl rfl rfl) (fun _=>?_)
   refine cO rfl rfl .no (.cons .q8 .nil) (.dep rfl (.dep rfl .nil)) (fun ha=>gD (e':=(zg [p8.1.v,(zi r6.Age)])) (v:=(zg [p8.1.v,(zi r6.Age)])) oW.h.sz (EN ha (.tmp rfl rfl) rfl) (EN ha (.tmp rfl rfl) rfl) rfl rfl rfl rfl rfl) (fun _=>?_)
   refine du ?_
   refine au ?_
   cases hF
   exact gU (⟨none,0,0⟩,[],⟨none,0,0⟩,⟨none,0,0⟩,[],p8.1) (.cellA rfl rfl (.t .h) rfl Wo.h Jj.h.sz rfl rfl (.cellA rfl rfl .h rfl u7.h oW.h.sz rfl rfl .nil)) rfl (.conv .nil (gV (Ro:=(aF 3 (aC az))) (E:=24)) (.cons .nil) (.conv .nil (PU (R:=qZ) (E:=45)) (.cons .nil) (.conv .nil (gV (Ro:=gQ) (E:=70)) (.cons .nil) (.frz .q14 aG (.sel (.cons .q3 (.rd .q2 rfl (.cons (.t .h) (.rd .h rfl .nil)))))))))
 refine aU ?_
 refine aN (iD iL.h rfl (vs:=[]) .nil (cells:=[(.slice none 0 0),(.slice none 0 0)]) rfl) ?_
 refine dH rfl (bQ (g:=true) w_.h iL.h cu (vs:=[(.agg ([(.slice none 0 0),(.slice none 0 0)]:List Value).toArray)]) rfl rfl rfl (by intro v hv; simp at hv; rcases hv with rfl<;>rfl)) (fun TI=>?_)
 iterate 2 refine Mv .nil (gV (Ro:=(aC az)) (E:=3)) cK ?_
 refine dR (.cons .q2 (.cons (.t .h) (.cons .h .nil))) (bS (Ro:=sj) (E:=183) (F:=(([]++[])++[])) (xs:=([(⟨[],[]⟩:bz)]:List bz)) (ed (aaL (v0:=⟨none,0,0⟩) (v1:=⟨none,0,0⟩) (a:=(⟨[],[]⟩:bz))) bR cK) rfl rfl) ?_
 refine bE ?_
 refine bn (bU (m:=dY.length) (fun aiX f' cs'=>∃(g:Fr)(sw:Nat)(Bu:List Step)(CK:List Access)(Jl:List Fact)(Jm:List cB)(CL:Int)(qQ:List bz)(zK:Sv)(aba:List Nat)(CO:Sv)(Wy:List Nat)(Jn sD:Sv)(aiY:List Nat),aiX=Bu.length/\f'=aQ g [(0,ae.v),(1,ax.v),(3,ig.v),(4,kL.v),(6,(zi eB)),(9,(pz k1)),(14,(pz k3)),(15,(pz k4)),(16,(pz k5)),(17,(pz k9)),(18,sD.v),(19,(zi (sw:Int)))]/\List.drop sw dY=Bu/\aO cs' [ah ae ag,bW ax ai,iH ig dY,bH kL bO,aX k1 120 (zg [bM.v,dJ.v]),ah bM aK.Head,eX dJ aK.Atoms,aW k3 154 (zg [(.slice none 0 0),(.slice none 0 0),(.slice none 0 0),(zi 0)]),aW k4 32 (zg [(.slice none 0 0),(zi 0)]),aW k5 154 (zg [(.slice none 0 0),zK.v,CO.v,(zi 0)]),FI aba zK CK,eP Wy CO Jl,aW k9 32 (zg [Jn.v,(zi CL)]),dM Jn Jm,tL aiY sD qQ]/\Ed ag ai aK bO eB Bu sw CK Jl Jm CL qQ=some R) ⟨_,0,_,_,_,_,_,_,⟨none,0,0⟩,[],⟨none,0,0⟩,[],p8.1,⟨(some ⟨TI,0,none⟩),1,1⟩,(TI::(([]++[])++[])),rfl,aA,rfl,(.conv .nil (gV (Ro:=(aC qZ)) (E:=45)) (.cons .nil) (.conv .nil (gV (Ro:=gQ) (E:=70)) (.cons .nil) (.frz .q14 aG ay))),hF⟩ ?_)
 rintro aiX _ _ ⟨aA1,sw,Bu,CK,Jl,Jm,CL,qQ,zK,aba,CO,Wy,Jn,sD,aiY,rfl,rfl,ah1,hE,hF⟩
 refine Kb hE dY (fun ay9=>?_)
 rcases Bu with _|⟨oC,Bu⟩
 · have aqD:=dn ah1
   rw[Ed]at hF
   refine bJ ?_
   refine dL ?_
   refine bJ ?_
   refine bnd hF fun aiW aqE hF=>uZ (.cons .q14 (.rd .q5 rfl (.rd .q6 rfl .nil))) (jV aG (fun _=>(.cons .nil)) (jm (.rd (.t .h) rfl (.rd .q2 rfl (.rd .h rfl .nil))) (bV asR.h cu (@am9 aK bM dJ qQ sD _ aqE)))) (fun ML=>?_)
   refine au ?_
   refine As (zg [ML.1.v,zK.v,CO.v,(zi 0)]) ?_
   refine aZ ?_
   refine bnd hF fun QG aqF hF=>ek (.cons .q12 (.rd .q4 rfl .nil)) (jV aG (fun _=>.nil) (jm (.rd (.t .h) rfl (.rd .h rfl .nil)) (bV awo.h cu (@afJ ai ax CK zK _ aqF)))) (fun _=>?_)
   refine au ?_
   refine As (zg [ML.1.v,zK.v,CO.v,(zi QG)]) ?_
   refine au ?_
   refine dV [0,1,2,3] [0,0,1,7] [2,3] mixed (by decide+kernel) ?_
   refine dO rfl .no .h (fun ha hp=>fP Wo.h Jj.h.sz rfl (EN ha (.tmp rfl rfl) rfl) hp.2 rfl) ?_
   refine dO rfl .no .q14 (fun ha hp=>fP u7.h oW.h.sz rfl (EN ha (.tmp rfl rfl) rfl) hp.2 rfl) ?_
   refine cO rfl rfl .no (.cons .q11 .nil) (.own .q13 (fun _ h=>h) (.dep rfl .nil)) (fun ha=>gD (e':=(zg [ML.1.v,zK.v,CO.v,(zi QG)])) (v:=(zg [ML.1.v,zK.v,CO.v,(zi QG)])) Jj.h.sz (EN ha (.tmp rfl rfl) rfl) (EN ha (.tmp rfl rfl) rfl) rfl rfl rfl rfl rfl) (fun _=>?_)
   refine cO rfl rfl .no (.cons .q12 .nil) (.dep rfl (.dep rfl .nil)) (fun ha=>gD (e':=(zg [Jn.v,(zi CL)])) (v:=(zg [Jn.v,(zi CL)])) oW.h.sz (EN ha (.tmp rfl rfl) rfl) (EN ha (.tmp rfl rfl) rfl) rfl rfl rfl rfl rfl) (fun _=>?_)
   refine du ?_
   refine au ?_
   cases hF
   exact gU (ML.1,ML.2,zK,CO,Wy,Jn) (.cellA rfl rfl (.t .h) rfl Wo.h Jj.h.sz rfl rfl (.cellA rfl rfl .h rfl u7.h oW.h.sz rfl rfl .nil)) rfl (.frz .q3 aG (.sel (.cons .q5 (.rd .h rfl (.cons .q12 (.rd .q13 rfl .nil))))))
 obtain⟨aqD,aar,aqG⟩:=dA ah1
 rw[Ed]at hF
 refine bJ ?_
 refine dK ?_
 refine au ?_
 obtain⟨Wx,apG,aqH⟩:=bind_some hF
 refine iF (fun f' cs'=>∃(QH:List Access)(QI:List Fact)(QJ:List cB)(QK:Int)(QL:List bz)(Wz:Sv)(abb:List Nat)(WA:Sv)(abd:List Nat)(WB WC:Sv)(abe:List Nat)(g:Fr),Wx=(QH,QI,QJ,QK,QL)/\f'=aQ g [(0,ae.v),(1,ax.v),(3,ig.v),(4,kL.v),(6,(zi eB)),(9,(pz k1)),(14,(pz k3)),(15,(pz k4)),(16,(pz k5)),(17,(pz k9)),(18,WC.v),(19,(zi (sw:Int)))]/\aO cs' [ah ae ag,bW ax ai,iH ig dY,bH kL bO,aX k1 120 (zg [bM.v,dJ.v]),ah bM aK.Head,eX dJ aK.Atoms,aW k3 154 (zg [(.slice none 0 0),(.slice none 0 0),(.slice none 0 0),(zi 0)]),aW k4 32 (zg [(.slice none 0 0),(zi 0)]),aW k5 154 (zg [(.slice none 0 0),Wz.v,WA.v,(zi 0)]),FI abb Wz QH,eP abd WA QI,aW k9 32 (zg [WB.v,(zi QK)]),dM WB QJ,tL abe WC QL]) ?_ ?_
 · replace hF:=apG
   refine bn (dC (dH rfl (bQ (g:=true) w_.h iL.h .nil (vs:=[]) rfl rfl rfl (by simp)) (fun aiZ=>?_)))
   refine dR (.cons .h .nil) (bS (Ro:=sj) (E:=183) (F:=[]) (xs:=([]:List bz)) bR rfl rfl) ?_
   refine aU ?_
   refine dV [0,1,2,3,4,5,6,7,8,9,10] [0,1,0,0,12,28,60,127,255,0,1023] [10] mixed (by decide+kernel) ?_
   refine nZ ?_
   refine Di aar (fun aA2 aA3=>?_)
   refine du ?_
   refine Dl I_ ?_
   refine zI hF fun jN azC aqI hF=>?_
   refine Di aqI (fun aA4 aA5=>?_)
   refine jR (EC jN) Ij (fun qp=>?_)
   refine iy rfl .no rfl (fun ha=>rY (g:=true) qO.h rfl rfl) (fun xc=>?_)
   refine cO rfl rfl .no (.cons .h .nil) (.dep rfl .nil) (fun ha=>gD (e':=(zg [(zi jN.Rel),qp.v])) (v:=(zg [(zi jN.Rel),qp.v])) qO.h.sz (EN ha (.tmp rfl rfl) rfl) (EN ha (.tmp rfl rfl) rfl) rfl rfl rfl rfl rfl) (fun _=>?_)
   refine du ?_
   refine bi ?_
   refine bn (iG (.t (.t (.t (.t (.t (.t (.t (.t (.t (.t (.t (.t (.t (.t (.t (.t (.t (.t (.t .h))))))))))))))))))) aG ?_)
   refine bU (m:=qQ.length) (fun ai0 f' cs'=>∃(g:Fr)(uS:Nat)(Bt:List bz)(vR:List Access)(zH:List Fact)(mZ:List cB)(nX:Int)(mK:List bz)(Fy:Sv)(QM:List Nat)(zL:Sv)(Jo:List Nat)(xe xg:Sv)(Jp:List Nat),ai0=Bt.length/\f'=aQ g [(0,ae.v),(1,ax.v),(3,ig.v),(4,kL.v),(6,(zi eB)),(9,(pz k1)),(14,(pz k3)),(15,(pz k4)),(16,(pz k5)),(17,(pz k9)),(18,sD.v),(19,(zi (sw:Int))),(20,xg.v),(21,(pz xc)),(22,(zi (uS:Int)))]/\List.drop uS qQ=Bt/\aO cs' [ah ae ag,bW ax ai,iH ig dY,bH kL bO,aX k1 120 (zg [bM.v,dJ.v]),ah bM aK.Head,eX dJ aK.Atoms,aW k3 154 (zg [(.slice none 0 0),(.slice none 0 0),(.slice none 0 0),(zi 0)]),aW k4 32 (zg [(.slice none 0 0),(zi 0)]),aW k5 154 (zg [(.slice none 0 0),Fy.v,zL.v,(zi 0)]),FI QM Fy vR,eP Jo zL zH,aW k9 32 (zg [xe.v,(zi nX)]),dM xe mZ,su sD qQ,tL Jp xg mK,aW xc 159 (zg [(zi jN.Rel),qp.v]),ah qp jN.Terms]/\GX ag ai bO eB oC jN Bt uS vR zH mZ nX mK=some Wx) ⟨_,0,_,_,_,_,_,_,zK,aba,CO,Wy,Jn,⟨(some ⟨aiZ,0,none⟩),0,1⟩,(aiZ::[]),rfl,aA,rfl,ay,hF⟩ ?_
   rintro ai0 _ _ ⟨aA6,uS,Bt,vR,zH,mZ,nX,mK,Fy,QM,zL,Jo,xe,xg,Jp,rfl,rfl,ah2,hE,hF⟩
   refine Kb hE qQ (fun ay_=>?_)
   rcases Bt with _|⟨lS,Bt⟩
   · have aqJ:=dn ah2
     rw[GX]at hF
     refine bJ ?_
     refine dL ?_
     refine dN ?_
     cases hF
     exact⟨_,_,_,_,_,Fy,QM,zL,Jo,xe,xg,Jp,_,rfl,aA,ay⟩
   obtain⟨aqJ,VY,aqK⟩:=dA ah2
   rw[GX]at hF
   refine bJ ?_
   refine dK ?_
   refine au ?_
   obtain⟨MK,apH,aqL⟩:=bind_some hF
   refine iF (fun f' cs'=>∃(QB:List Access)(QC:List Fact)(QD:List cB)(QE:Int)(QF:List bz)(WE:Sv)(abf:List Nat)(WF:Sv)(abg:List Nat)(WG WH:Sv)(abh:List Nat)(g:Fr),MK=(QB,QC,QD,QE,QF)/\f'=aQ g [(0,ae.v),(1,ax.v),(3,ig.v),(4,kL.v),(6,(zi eB)),(9,(pz k1)),(14,(pz k3)),(15,(pz k4)),(16,(pz k5)),(17,(pz k9)),(18,sD.v),(19,(zi (sw:Int))),(20,WH.v),(21,(pz xc)),(22,(zi (uS:Int)))]/\aO cs' [ah ae ag,bW ax ai,iH ig dY,bH kL bO,aX k1 120 (zg [bM.v,dJ.v]),ah bM aK.Head,eX dJ aK.Atoms,aW k3 154 (zg [(.slice none 0 0),(.slice none 0 0),(.slice none 0 0),(zi 0)]),aW k4 32 (zg [(.slice none 0 0),(zi 0)]),aW k5 154 (zg [(.slice none 0 0),WE.v,WF.v,(zi 0)]),FI abf WE QB,eP abg WF QC,aW k9 32 (zg [WG.v,(zi QE)]),dM WG QD,su sD qQ,tL abh WH QF,aW xc 159 (zg [(zi jN.Rel),qp.v]),ah qp jN.Terms]) ?_ ?_
   · replace hF:=apH
     refine bn (dV [0,1,2,3,4,5,6,7,8,9,10,11,12,13,14,15,16,17,20,18,19,21] [0,0,3,7,15,0,0,0,192,448,960,2016,4064,0,0,0,49152,114688,262112,524287,0,2097151] [18,21] mixed (by decide+kernel) ?_)
     refine bX ?_
     refine Di aar (fun aA7 aA8=>?_)
     refine du ?_
     refine Dl Bz ?_
     refine dD ?_
     refine Di aar (fun aA9 aA_=>?_)
     refine du ?_
     refine Dl Bz ?_
     refine zI hF fun Ww azD aqM hF=>?_
     refine Di aqM (fun aA' aBa=>?_)
     refine jR (uO Ww) vH (fun au3=>?_)
     refine dO rfl .no (.t (.t (.t (.t (.t (.t (.t (.t (.t (.t (.t (.t (.t (.t (.t (.t (.t (.t (.t (.t .h)))))))))))))))))))) (fun ha hp=>fP We.h qO.h.sz rfl (EN ha (.tmp rfl rfl) rfl) hp.2 rfl) ?_
     refine bX ?_
     refine Di VY (fun aBb aBc=>?_)
     refine zZ (A9 lS) ED (fun ai1=>?_)
     refine iy rfl .no rfl (fun ha=>rY (g:=true) ky.h rfl rfl) (fun ai2=>?_)
     refine bnd hF fun zJ aqN hF=>cO rfl rfl .no (.rd .q4 rfl (.rd (.t (.t (.t (.t (.t (.t (.t (.t (.t (.t (.t (.t (.t (.t (.t (.t (.t (.t (.t (.t (.t (.t (.t (.t (.t .h))))))))))))))))))))))))) rfl (.rd (.t .h) rfl (.rd .q2 rfl .nil)))) (.own .h (fun _ h=>h) (.dep rfl .nil)) (fun ha=>E9 (post':=fun yf:Sv×List Nat=>[ah yf.1 zJ]) (fun yf=>(.frz .h aG ay)) (bV asT.h (.cons (EN ha (.tmp rfl rfl) rfl) (.cons (EN ha (.tmp rfl rfl) rfl) (.cons (EN ha (.tmp rfl rfl) rfl) .nil))) (@am_ Ww au3 jN qp lS ai1.1 ai1.2 _ aqN))) (fun yf=>?_)
     refine bN rfl .no (fun ha=>iD ky.h rfl (vs:=[(zi oC.Method),yf.1.v]) (.cons (EN ha (.tmp rfl rfl) rfl) (.cons (EN ha (.tmp rfl rfl) rfl) .nil)) (cells:=[(zi oC.Method),yf.1.v]) rfl) ?_
     refine cO rfl rfl .no (.cons (.t .h) .nil) (.dep rfl (.dep rfl .nil)) (fun ha=>gD (e':=(zg [(zi oC.Method),yf.1.v])) (v:=(zg [(zi oC.Method),yf.1.v])) ky.h.sz (EN ha (.tmp rfl rfl) rfl) (EN ha (.tmp rfl rfl) rfl) rfl rfl rfl rfl rfl) (fun _=>?_)
     refine du ?_
     refine bE ?_
     refine bnd hF fun vS aqO hF=>gB (alx aqO) (fun abj=>?_)
     refine au ?_
     refine zx ?_
     refine zx ?_
     refine dN ?_
     refine Ci hF (fun aqP hF=>?_) (fun aqP hF=>?_)
     · refine dV [0,1,2,3,4,5,6,7,8,9] [0,0,2,7,15,0,32,0,255,511] [8] mixed (by decide+kernel) ?_
       refine bX ?_
       refine dO rfl .no (.t .h) (fun ha hp=>fw (v:=(zi oC.Method)) qd.h (EN ha (.tmp rfl rfl) rfl) hp.2 rfl rfl) ?_
       refine zI hF fun aa_ azE aqQ hF=>?_
       refine Di aqQ (fun aBd aBe=>?_)
       refine jR (uO aa_) vH (fun aBf=>?_)
       refine du ?_
       refine dO rfl .no .q3 (fun ha hp=>fw (v:=yf.1.v) iC.h (EN ha (.tmp rfl rfl) rfl) hp.2 rfl rfl) ?_
       refine du ?_
       refine bnd hF fun mM aqR hF=>qE (Y1 aqR) (fun CP=>?_)
       refine bX ?_
       refine bi ?_
       refine dH rfl (bQ (g:=true) pR.h ky.h cu (vs:=[(zg [(zi oC.Method),yf.1.v])]) rfl rfl rfl (by intro v hv; simp at hv; rcases hv with rfl<;>rfl)) (fun aBg=>?_)
       refine dR (.cons .h (.rd .q5 rfl .nil)) (bS (Ro:=(aC qZ)) (E:=45) (F:=([]++[])) (xs:=([(⟨oC.Method,zJ⟩:Access)]:List Access)) (ed (awt (a:=(⟨oC.Method,zJ⟩:Access))) bR cK) rfl rfl) ?_
       refine bnd hF fun uR aqS hF=>ek (.cons (.t (.t (.t (.t (.t (.t (.t (.t (.t (.t (.t (.t (.t (.t (.t (.t (.t (.t (.t (.t (.t (.t (.t (.t .h)))))))))))))))))))))))) (.cons .h .nil)) (dX (Ro:=(aC qZ)) pR.h Rc ky.h rfl rfl rfl (.tmp rfl rfl) (.tmp rfl rfl) aqS fU) (fun sF=>?_)
       refine au ?_
       refine As (zg [(.slice none 0 0),sF.1.v,zL.v,(zi 0)]) ?_
       refine au ?_
       obtain⟨aa',apI,aqT⟩:=bind_some hF
       refine au ?_
       refine fe (fun f' cs'=>∃(QA:Bool)(g:Fr),QA=aa'/\f'=aQ g [(0,ae.v),(1,ax.v),(3,ig.v),(4,kL.v),(6,(zi eB)),(9,(pz k1)),(14,(pz k3)),(15,(pz k4)),(16,(pz k5)),(17,(pz k9)),(18,sD.v),(19,(zi (sw:Int))),(20,xg.v),(21,(pz xc)),(22,(zi (uS:Int))),(23,(pz ai2)),(24,CP.1.v),(141,(.bool QA))]/\aO cs' [ah ae ag,bW ax ai,iH ig dY,bH kL bO,aX k1 120 (zg [bM.v,dJ.v]),ah bM aK.Head,eX dJ aK.Atoms,aW k3 154 (zg [(.slice none 0 0),(.slice none 0 0),(.slice none 0 0),(zi 0)]),aW k4 32 (zg [(.slice none 0 0),(zi 0)]),aW k5 154 (zg [(.slice none 0 0),sF.1.v,zL.v,(zi 0)]),FI sF.2 sF.1 uR,eP Jo zL zH,aW k9 32 (zg [xe.v,(zi nX)]),dM xe mZ,su sD qQ,tL Jp xg mK,aW xc 159 (zg [(zi jN.Rel),qp.v]),ah qp jN.Terms,aW ai2 45 (zg [(zi oC.Method),yf.1.v]),ah yf.1 zJ,eP CP.2 CP.1 mM]) ?_ ?_
       · replace hF:=apI
         refine aZ ?_
         rcases bD (decide (((mZ.length:Int):Int)<100))with P9|P9
         · rw[P9]
           try rw[P9]at hF; dsimp only[aJ,aI]at hF
           exact bK hF
         rw[P9]
         try rw[P9]at hF; dsimp only[aJ,aI]at hF
         refine aZ ?_
         refine bnd hF fun aiV aqU hF=>bC (aeP aqU) (fun _=>?_)
         exact bK hF
       rintro _ _ ⟨QA,aBh,rfl,rfl,hE⟩
       replace hF:=aqT
       try dsimp only at hF
       refine bu hE ?_
       refine Ci hF (fun aqV hF=>?_) (fun aqV hF=>?_)
       · refine iG (.t (.t (.t (.t (.t (.t (.t (.t (.t (.t (.t (.t (.t (.t (.t (.t (.t (.t (.t (.t .h)))))))))))))))))))) aG ?_
         refine aZ ?_
         refine bnd hF fun zG aqW hF=>gB (am' aqW) (fun WI=>?_)
         refine As (zg [WI.v,(zi zG.Age)]) ?_
         refine aZ ?_
         refine bn (bU (m:=mM.length) (fun ai3 f' cs'=>∃(g:Fr)(CE:Nat)(Bp Fu:List Fact)(MM:Sv)(abk:List Nat),ai3=Bp.length/\f'=aQ g [(0,ae.v),(1,ax.v),(3,ig.v),(4,kL.v),(6,(zi eB)),(9,(pz k1)),(14,(pz k3)),(15,(pz k4)),(16,(pz k5)),(17,(pz k9)),(18,sD.v),(19,(zi (sw:Int))),(20,xg.v),(21,(pz xc)),(22,(zi (uS:Int))),(24,CP.1.v),(26,(zi (CE:Int)))]/\List.drop CE mM=Bp/\aO cs' [ah ae ag,bW ax ai,iH ig dY,bH kL bO,aX k1 120 (zg [bM.v,dJ.v]),ah bM aK.Head,eX dJ aK.Atoms,aW k3 154 (zg [(.slice none 0 0),(.slice none 0 0),(.slice none 0 0),(zi 0)]),aW k4 32 (zg [(.slice none 0 0),(zi 0)]),aW k5 154 (zg [(.slice none 0 0),sF.1.v,MM.v,(zi 0)]),FI sF.2 sF.1 uR,eP abk MM Fu,aW k9 32 (zg [WI.v,(zi zG.Age)]),dM WI zG.Entries,su sD qQ,tL Jp xg mK,aW xc 159 (zg [(zi jN.Rel),qp.v]),ah qp jN.Terms,bH CP.1 mM]/\D_ jN mK lS mM uR zG Bp CE Fu=some MK) ⟨_,0,_,_,zL,Jo,rfl,aA,rfl,ay,hF⟩ ?_)
         rintro ai3 _ _ ⟨aBi,CE,Bp,Fu,MM,abk,rfl,rfl,ah3,hE,hF⟩
         refine Kb hE mM (fun ay'=>?_)
         rcases Bp with _|⟨Ws,Bp⟩
         · have aqX:=dn ah3
           rw[D_]at hF
           refine bJ ?_
           refine dL ?_
           refine bi ?_
           refine jD [0,1,2,3,4,5,6,7,8,9,10] [0,0,0,6,14,30,0,0,254,511,1023] [8,9] mixed (by decide+kernel) ?_
           refine dD ?_
           refine Di VY (fun aBj aBk=>?_)
           refine zZ (A9 lS) ED (fun ai4=>?_)
           refine iy rfl .no rfl (fun ha=>bQ (g:=true) (len:=1) (parts:=[(0,.tmp 165)]) w_.h iL.h (.cons (EN ha (.tmp rfl rfl) rfl) .nil) (vs:=[(zg [ai4.1.v,ai4.2.v])]) rfl rfl rfl (by intro v hv; simp at hv; rcases hv with rfl<;>rfl)) (fun au4=>?_)
           refine jk (.cons .h (.rd .h rfl (.rd (.t .h) rfl .nil))) (bS (Ro:=(aC Cy)) (E:=183) (F:=([]++[])) (xs:=([lS]:List bz)) (ed aaN bR cK) rfl rfl) ?_
           refine dO rfl .no (.t (.t (.t (.t (.t (.t (.t (.t (.t (.t (.t (.t (.t (.t (.t (.t (.t (.t (.t (.t .h)))))))))))))))))))) (fun ha hp=>fP We.h qO.h.sz rfl (EN ha (.tmp rfl rfl) rfl) hp.2 rfl) ?_
           refine du ?_
           refine bnd hF fun aiM aqY hF=>pq rfl rfl .no (.cons .h (.rd (.t (.t (.t (.t (.t (.t (.t (.t (.t (.t (.t (.t (.t (.t (.t (.t (.t (.t (.t (.t .h)))))))))))))))))))) rfl (.rd (.t (.t (.t (.t (.t (.t (.t (.t (.t (.t (.t (.t (.t (.t (.t (.t (.t (.t (.t (.t (.t .h))))))))))))))))))))) rfl .nil))) (.dep rfl (.dep rfl .nil)) (fun ha=>jV aG (fun _=>(.cons .nil)) (bV Wm.h (.cons (EN ha (.tmp rfl rfl) rfl) (.cons (EN ha (.tmp rfl rfl) rfl) (.cons (EN ha (.tmp rfl rfl) rfl) .nil))) (@UX ([lS]:List bz) (⟨(some ⟨au4,0,none⟩),1,1⟩) jN qp mM CP.1 _ aqY))) (fun aBl=>?_)
           refine bnd hF fun aiN aqZ hF=>cO rfl rfl .no (.cons (.t (.t (.t (.t (.t (.t (.t (.t (.t (.t (.t (.t (.t (.t (.t (.t (.t (.t (.t (.t .h)))))))))))))))))))) (.cons (.t .h) .nil)) (.dep rfl (.dep rfl .nil)) (fun ha=>dX (Ro:=sj) w_.h Wn iL.h rfl rfl rfl (EN ha (.tmp rfl rfl) rfl) (EN ha (.tmp rfl rfl) rfl) aqZ fU) (fun ai5=>?_)
           refine bX ?_
           cases hF
           exact⟨_,_,_,_,_,sF.1,sF.2,MM,abk,WI,ai5.1,ai5.2,_,rfl,aA,ay⟩
         obtain⟨aqX,aq0,aq1⟩:=dA ah3
         rw[D_]at hF
         refine bJ ?_
         refine dK ?_
         refine aU ?_
         refine jD [0,1,2,3,4,5,6,7,8] [0,1,0,0,12,28,63,127,255] [6,8] mixed (by decide+kernel) ?_
         refine du ?_
         refine dO rfl .no .q9 (fun ha hp=>fw (v:=MM.v) ym.h (EN ha (.tmp rfl rfl) rfl) hp.2 rfl rfl) ?_
         refine bX ?_
         refine Di aq0 (fun aBm aBn=>?_)
         refine jR (lZ Ws) mq (fun au5=>?_)
         refine bnd hF fun aiO aq2 hF=>pq rfl rfl .no (.cons .q13 (.rd .h rfl .nil)) (.dep rfl .nil) (fun ha=>jV aG (fun _=>(.cons .nil)) (bV Rh.h (.cons (EN ha (.tmp rfl rfl) rfl) (.cons (EN ha (.tmp rfl rfl) rfl) .nil)) (@Ld Fu MM Ws au5 _ aq2))) (fun abl=>?_)
         refine du ?_
         refine cO rfl rfl .no (.cons .q13 .nil) (.dep rfl .nil) (fun ha=>gD (e':=(zg [(.slice none 0 0),sF.1.v,abl.1.v,(zi 0)])) Xe.h.sz (EN ha (.tmp rfl rfl) rfl) (EN ha (.tmp rfl rfl) rfl) rfl rfl rfl rfl rfl) (fun _=>?_)
         refine du ?_
         refine aZ ?_
         rw[wk CE]
         exact⟨_,bY _,_,CE+1,Bp,_,abl.1,abl.2,rfl,aA,aq1,ay,hF⟩
       refine aZ ?_
       refine bn (iG (.t (.t (.t (.t (.t (.t (.t (.t (.t (.t (.t (.t (.t (.t (.t (.t (.t (.t (.t (.t .h)))))))))))))))))))) aG ?_)
       refine bU (m:=mM.length) (fun ai6 f' cs'=>∃(g:Fr)(CG:Nat)(Bq Fv:List Fact)(MN:Sv)(abm:List Nat),ai6=Bq.length/\f'=aQ g [(0,ae.v),(1,ax.v),(3,ig.v),(4,kL.v),(6,(zi eB)),(9,(pz k1)),(14,(pz k3)),(15,(pz k4)),(16,(pz k5)),(17,(pz k9)),(18,sD.v),(19,(zi (sw:Int))),(20,xg.v),(21,(pz xc)),(22,(zi (uS:Int))),(24,CP.1.v),(26,(zi (CG:Int)))]/\List.drop CG mM=Bq/\aO cs' [ah ae ag,bW ax ai,iH ig dY,bH kL bO,aX k1 120 (zg [bM.v,dJ.v]),ah bM aK.Head,eX dJ aK.Atoms,aW k3 154 (zg [(.slice none 0 0),(.slice none 0 0),(.slice none 0 0),(zi 0)]),aW k4 32 (zg [(.slice none 0 0),(zi 0)]),aW k5 154 (zg [(.slice none 0 0),sF.1.v,MN.v,(zi 0)]),FI sF.2 sF.1 uR,eP abm MN Fv,aW k9 32 (zg [xe.v,(zi nX)]),dM xe mZ,su sD qQ,tL Jp xg mK,aW xc 159 (zg [(zi jN.Rel),qp.v]),ah qp jN.Terms,bH CP.1 mM]/\Ea jN mZ nX mK lS mM uR Bq CG Fv=some MK) ⟨_,0,_,_,zL,Jo,rfl,aA,rfl,ay,hF⟩ ?_
       rintro ai6 _ _ ⟨aBo,CG,Bq,Fv,MN,abm,rfl,rfl,ah4,hE,hF⟩
       refine Kb hE mM (fun aza=>?_)
       rcases Bq with _|⟨Wu,Bq⟩
       · have aq3:=dn ah4
         rw[Ea]at hF
         refine bJ ?_
         refine dL ?_
         refine bi ?_
         refine jD [0,1,2,3,4,5,6,7,8,9,10] [0,0,0,6,14,30,0,0,254,511,1023] [8,9] mixed (by decide+kernel) ?_
         refine dD ?_
         refine Di VY (fun aBp aBq=>?_)
         refine zZ (A9 lS) ED (fun ai7=>?_)
         refine iy rfl .no rfl (fun ha=>bQ (g:=true) (len:=1) (parts:=[(0,.tmp 165)]) w_.h iL.h (.cons (EN ha (.tmp rfl rfl) rfl) .nil) (vs:=[(zg [ai7.1.v,ai7.2.v])]) rfl rfl rfl (by intro v hv; simp at hv; rcases hv with rfl<;>rfl)) (fun au6=>?_)
         refine jk (.cons .h (.rd .h rfl (.rd (.t .h) rfl .nil))) (bS (Ro:=(aC Cy)) (E:=183) (F:=([]++[])) (xs:=([lS]:List bz)) (ed aaN bR cK) rfl rfl) ?_
         refine dO rfl .no (.t (.t (.t (.t (.t (.t (.t (.t (.t (.t (.t (.t (.t (.t (.t (.t (.t (.t (.t (.t .h)))))))))))))))))))) (fun ha hp=>fP We.h qO.h.sz rfl (EN ha (.tmp rfl rfl) rfl) hp.2 rfl) ?_
         refine du ?_
         refine bnd hF fun aiP aq4 hF=>pq rfl rfl .no (.cons .h (.rd (.t (.t (.t (.t (.t (.t (.t (.t (.t (.t (.t (.t (.t (.t (.t (.t (.t (.t (.t (.t .h)))))))))))))))))))) rfl (.rd (.t (.t (.t (.t (.t (.t (.t (.t (.t (.t (.t (.t (.t (.t (.t (.t (.t (.t (.t (.t (.t .h))))))))))))))))))))) rfl .nil))) (.dep rfl (.dep rfl .nil)) (fun ha=>jV aG (fun _=>(.cons .nil)) (bV Wm.h (.cons (EN ha (.tmp rfl rfl) rfl) (.cons (EN ha (.tmp rfl rfl) rfl) (.cons (EN ha (.tmp rfl rfl) rfl) .nil))) (@UX ([lS]:List bz) (⟨(some ⟨au6,0,none⟩),1,1⟩) jN qp mM CP.1 _ aq4))) (fun aBr=>?_)
         refine bnd hF fun aiQ aq5 hF=>cO rfl rfl .no (.cons (.t (.t (.t (.t (.t (.t (.t (.t (.t (.t (.t (.t (.t (.t (.t (.t (.t (.t (.t (.t .h)))))))))))))))))))) (.cons (.t .h) .nil)) (.dep rfl (.dep rfl .nil)) (fun ha=>dX (Ro:=sj) w_.h Wn iL.h rfl rfl rfl (EN ha (.tmp rfl rfl) rfl) (EN ha (.tmp rfl rfl) rfl) aq5 fU) (fun ai8=>?_)
         refine bX ?_
         cases hF
         exact⟨_,_,_,_,_,sF.1,sF.2,MN,abm,xe,ai8.1,ai8.2,_,rfl,aA,ay⟩
       obtain⟨aq3,aq6,aq7⟩:=dA ah4
       rw[Ea]at hF
       refine bJ ?_
       refine dK ?_
       refine aU ?_
       refine jD [0,1,2,3,4,5,6,7,8] [0,1,0,0,12,28,63,127,255] [6,8] mixed (by decide+kernel) ?_
       refine du ?_
       refine dO rfl .no .q9 (fun ha hp=>fw (v:=MN.v) ym.h (EN ha (.tmp rfl rfl) rfl) hp.2 rfl rfl) ?_
       refine bX ?_
       refine Di aq6 (fun aBs aBt=>?_)
       refine jR (lZ Wu) mq (fun au7=>?_)
       refine bnd hF fun aiR aq8 hF=>pq rfl rfl .no (.cons .q13 (.rd .h rfl .nil)) (.dep rfl .nil) (fun ha=>jV aG (fun _=>(.cons .nil)) (bV Rh.h (.cons (EN ha (.tmp rfl rfl) rfl) (.cons (EN ha (.tmp rfl rfl) rfl) .nil)) (@Ld Fv MN Wu au7 _ aq8))) (fun abn=>?_)
       refine du ?_
       refine cO rfl rfl .no (.cons .q13 .nil) (.dep rfl .nil) (fun ha=>gD (e':=(zg [(.slice none 0 0),sF.1.v,abn.1.v,(zi 0)])) Xe.h.sz (EN ha (.tmp rfl rfl) rfl) (EN ha (.tmp rfl rfl) rfl) rfl rfl rfl rfl rfl) (fun _=>?_)
       refine du ?_
       refine aZ ?_
       rw[wk CG]
       exact⟨_,bY _,_,CG+1,Bq,_,abn.1,abn.2,rfl,aA,aq7,ay,hF⟩
     refine aZ ?_
     refine bn (iG .h aG ?_)
     refine bU (m:=vS.1.length) (fun ai9 f' cs'=>∃(g:Fr)(CJ:Nat)(Br Fx:List Fact)(MO:Sv)(abo:List Nat),ai9=Br.length/\f'=aQ g [(0,ae.v),(1,ax.v),(3,ig.v),(4,kL.v),(6,(zi eB)),(9,(pz k1)),(14,(pz k3)),(15,(pz k4)),(16,(pz k5)),(17,(pz k9)),(18,sD.v),(19,(zi (sw:Int))),(20,xg.v),(21,(pz xc)),(22,(zi (uS:Int))),(24,abj.1.v),(26,(zi (CJ:Int)))]/\List.drop CJ vS.1=Br/\aO cs' [ah ae ag,bW ax ai,iH ig dY,bH kL bO,aX k1 120 (zg [bM.v,dJ.v]),ah bM aK.Head,eX dJ aK.Atoms,aW k3 154 (zg [(.slice none 0 0),(.slice none 0 0),(.slice none 0 0),(zi 0)]),aW k4 32 (zg [(.slice none 0 0),(zi 0)]),aW k5 154 (zg [(.slice none 0 0),Fy.v,MO.v,(zi 0)]),FI QM Fy vR,eP abo MO Fx,aW k9 32 (zg [xe.v,(zi nX)]),dM xe mZ,su sD qQ,tL Jp xg mK,aW xc 159 (zg [(zi jN.Rel),qp.v]),ah qp jN.Terms,bH abj.1 vS.1]/\Eb jN vR mZ nX mK lS vS Br CJ Fx=some MK) ⟨_,0,_,_,zL,Jo,rfl,aA,rfl,ay,hF⟩ ?_
     rintro ai9 _ _ ⟨aBu,CJ,Br,Fx,MO,abo,rfl,rfl,ah5,hE,hF⟩
     refine Kb hE vS.1 (fun azb=>?_)
     rcases Br with _|⟨Wv,Br⟩
     · have aq9:=dn ah5
       rw[Eb]at hF
       refine bJ ?_
       refine dL ?_
       refine bi ?_
       refine jD [0,1,2,3,4,5,6,7,8,9,10] [0,0,0,6,14,30,0,0,254,511,1023] [8,9] mixed (by decide+kernel) ?_
       refine dD ?_
       refine Di VY (fun aBv aBw=>?_)
       refine zZ (A9 lS) ED (fun ai_=>?_)
       refine iy rfl .no rfl (fun ha=>bQ (g:=true) (len:=1) (parts:=[(0,.tmp 165)]) w_.h iL.h (.cons (EN ha (.tmp rfl rfl) rfl) .nil) (vs:=[(zg [ai_.1.v,ai_.2.v])]) rfl rfl rfl (by intro v hv; simp at hv; rcases hv with rfl<;>rfl)) (fun au8=>?_)
       refine jk (.cons .h (.rd .h rfl (.rd (.t .h) rfl .nil))) (bS (Ro:=(aC Cy)) (E:=183) (F:=([]++[])) (xs:=([lS]:List bz)) (ed aaN bR cK) rfl rfl) ?_
       refine dO rfl .no (.t (.t (.t (.t (.t (.t (.t (.t (.t (.t (.t (.t (.t (.t (.t (.t (.t (.t (.t (.t .h)))))))))))))))))))) (fun ha hp=>fP We.h qO.h.sz rfl (EN ha (.tmp rfl rfl) rfl) hp.2 rfl) ?_
       refine du ?_
       refine bnd hF fun aiS aq_ hF=>pq rfl rfl .no (.cons .h (.rd (.t (.t (.t (.t (.t (.t (.t (.t (.t (.t (.t (.t (.t (.t (.t (.t (.t (.t (.t (.t .h)))))))))))))))))))) rfl (.rd (.t (.t (.t (.t (.t (.t (.t (.t (.t (.t (.t (.t (.t (.t (.t (.t (.t (.t (.t (.t (.t .h))))))))))))))))))))) rfl .nil))) (.dep rfl (.dep rfl .nil)) (fun ha=>jV aG (fun _=>(.cons .nil)) (bV Wm.h (.cons (EN ha (.tmp rfl rfl) rfl) (.cons (EN ha (.tmp rfl rfl) rfl) (.cons (EN ha (.tmp rfl rfl) rfl) .nil))) (@UX ([lS]:List bz) (⟨(some ⟨au8,0,none⟩),1,1⟩) jN qp vS.1 abj.1 _ aq_))) (fun aBx=>?_)
       refine bnd hF fun aiT ara hF=>cO rfl rfl .no (.cons (.t (.t (.t (.t (.t (.t (.t (.t (.t (.t (.t (.t (.t (.t (.t (.t (.t (.t (.t (.t .h)))))))))))))))))))) (.cons (.t .h) .nil)) (.dep rfl (.dep rfl .nil)) (fun ha=>dX (Ro:=sj) w_.h Wn iL.h rfl rfl rfl (EN ha (.tmp rfl rfl) rfl) (EN ha (.tmp rfl rfl) rfl) ara fU) (fun ai'=>?_)
       refine bX ?_
       cases hF
       exact⟨_,_,_,_,_,Fy,QM,MO,abo,xe,ai'.1,ai'.2,_,rfl,aA,ay⟩
     obtain⟨aq9,arb,arc⟩:=dA ah5
     rw[Eb]at hF
     refine bJ ?_
     refine dK ?_
     refine aU ?_
     refine jD [0,1,2,3,4,5,6,7,8] [0,1,0,0,12,28,63,127,255] [6,8] mixed (by decide+kernel) ?_
     refine du ?_
     refine dO rfl .no .q9 (fun ha hp=>fw (v:=MO.v) ym.h (EN ha (.tmp rfl rfl) rfl) hp.2 rfl rfl) ?_
     refine bX ?_
     refine Di arb (fun aBy aBz=>?_)
     refine jR (lZ Wv) mq (fun au9=>?_)
     refine bnd hF fun aiU ard hF=>pq rfl rfl .no (.cons .q13 (.rd .h rfl .nil)) (.dep rfl .nil) (fun ha=>jV aG (fun _=>(.cons .nil)) (bV Rh.h (.cons (EN ha (.tmp rfl rfl) rfl) (.cons (EN ha (.tmp rfl rfl) rfl) .nil)) (@Ld Fx MO Wv au9 _ ard))) (fun abp=>?_)
     refine du ?_
     refine cO rfl rfl .no (.cons .q13 .nil) (.dep rfl .nil) (fun ha=>gD (e':=(zg [(.slice none 0 0),Fy.v,abp.1.v,(zi 0)])) Xe.h.sz (EN ha (.tmp rfl rfl) rfl) (EN ha (.tmp rfl rfl) rfl) rfl rfl rfl rfl rfl) (fun _=>?_)
     refine du ?_
     refine aZ ?_
     rw[wk CJ]
     exact⟨_,bY _,_,CJ+1,Br,_,abp.1,abp.2,rfl,aA,arc,ay,hF⟩
   rintro _ _ ⟨QB,QC,QD,QE,QF,WE,abf,WF,abg,WG,WH,abh,aBA,rfl,rfl,hE⟩
   replace hF:=aqL
   try dsimp only at hF
   refine bu hE ?_
   refine aZ ?_
   rw[wk uS]
   exact⟨_,bY _,_,uS+1,Bt,_,_,_,_,_,WE,abf,WF,abg,WG,WH,abh,rfl,aA,aqK,ay,hF⟩
 rintro _ _ ⟨QH,QI,QJ,QK,QL,Wz,abb,WA,abd,WB,WC,abe,aBB,rfl,rfl,hE⟩
 replace hF:=aqH
 try dsimp only at hF
 refine bu hE ?_
 refine aZ ?_
 rw[wk sw]
 exact⟨_,bY _,_,sw+1,Bu,_,_,_,_,_,Wz,abb,WA,abd,WB,WC,abe,rfl,aA,aqG,ay,hF⟩
def Eo(aa:aY)(r4:aY)(gX:Run×Cache):List Access->Nat->(List Access)->(List Int)->Option (aY×Bool)
 |[],DK,oo,Ky=>(OT gX.1.Answers).bind fun r83=>
   (app r4.Results ([r83]:List (List (List Int)))).bind fun z87=>
   some ((⟨r4.Schema,r4.Methods,r4.Rules,r4.Source,gX.2,r4.Now,oo,Ky,(IntKind.i64.wrap (aa.Spent+gX.1.Cost)),z87⟩:aY),true)
 |x76::Cq,DK,oo,Ky=>(Bc x76.Method x76.Values).bind fun Kq=>
   (app oo ([Kq]:List Access)).bind fun z99=>
   (app Ky ([aa.Now]:List Int)).bind fun akC=>
   Eo aa r4 gX Cq (DK+1) z99 akC
def Bg(fuel:Nat)(aa:aY)(aK:Query):Option (aY×Bool):=
 (Bi aa).bind fun r4=>
 ((qK aa).bind fun lX=>
   bif (!lX)then (some true)
   else ((zw aa.Schema aK).bind fun jY=>
     bif (!jY)then (some true)
     else (bif (decide ((500:Int)<(aa.Log.length:Int)))then (some true)
       else (bif (decide ((900000:Int)<aa.Spent))then (some true)
         else (some (decide ((100:Int)<=(aa.Results.length:Int)))))))).bind fun o8=>
 match o8 with
 |c20=>if c20 then (
     some (r4,false))
   else (
     (Oc fuel aa.Schema aa.Methods aK).bind fun oM=>
     if (!oM.2)then (
       some (r4,false))
     else (
       (OW aa.Schema aa.Methods oM.1.Query oM.1.Steps aa.Source.Facts aa.Cache aa.Now).bind fun gX=>
       if (decide ((1000:Int)<(IntKind.i64.wrap ((aa.Log.length:Int)+(gX.1.Log.length:Int)))))then (
         some (r4,false))
       else (
         Eo aa r4 gX gX.1.Log 0 r4.Log r4.Times)))
theorem UY{fuel:Nat}{aa:aY}{ae aP cz dB dw dE dG dI:Sv}{aK:Query}{ax aV:Sv}{R:aY×Bool}(hF:Bg fuel aa aK=some R):
   Fw.Spec Tryz.prog 101 [(zg [ae.v,aP.v,cz.v,dB.v,(zi aa.Source.Version),dw.v,(zi aa.Cache.Age),(zi aa.Now),dE.v,dG.v,(zi aa.Spent),dI.v]),(zg [ax.v,aV.v])] [ah ae aa.Schema,bW aP aa.Methods,fq cz aa.Rules,bH dB aa.Source.Facts,dM dw aa.Cache.Entries,eH dE aa.Log,ah dG aa.Times,bB (aD 152 (aD 24 (aD 3 az))) dI.v aa.Results,ah ax aK.Head,eX aV aK.Atoms] (fun p:Sv×List Nat×Sv×List Nat×Sv×List Nat×Sv×List Nat×Sv×Sv×List Nat×Sv×List Nat×Sv×List Nat=>(.tuple [(zg [p.1.v,p.2.2.1.v,p.2.2.2.2.1.v,p.2.2.2.2.2.2.1.v,(zi R.1.Source.Version),p.2.2.2.2.2.2.2.2.1.v,(zi R.1.Cache.Age),(zi R.1.Now),p.2.2.2.2.2.2.2.2.2.1.v,p.2.2.2.2.2.2.2.2.2.2.2.1.v,(zi R.1.Spent),p.2.2.2.2.2.2.2.2.2.2.2.2.2.1.v]),(.bool R.2)].toArray)) (fun p=>[bI p.2.1 p.1 R.1.Schema,nJ p.2.2.2.1 p.2.2.1 R.1.Methods,mE p.2.2.2.2.2.1 p.2.2.2.2.1 R.1.Rules,eP p.2.2.2.2.2.2.2.1 p.2.2.2.2.2.2.1 R.1.Source.Facts,dM p.2.2.2.2.2.2.2.2.1 R.1.Cache.Entries,kK p.2.2.2.2.2.2.2.2.2.2.1 p.2.2.2.2.2.2.2.2.2.1 R.1.Log,bI p.2.2.2.2.2.2.2.2.2.2.2.2.1 p.2.2.2.2.2.2.2.2.2.2.2.1 R.1.Times,aT (aF 152 (aF 24 (aF 3 (aC az)))) p.2.2.2.2.2.2.2.2.2.2.2.2.2.2 p.2.2.2.2.2.2.2.2.2.2.2.2.2.1.v R.1.Results]):=by
 refine Se 131 Tryz.func101 [.cell 4 36,.tmp 5] ?_
 intro H0 F0
 unfold Bg at hF
 refine au ?_
 refine bP (fun k1=>?_)
 refine bP (fun k2=>?_)
 refine d_ (fun k3=>?_)
 refine bi ?_
 refine bnd hF fun r4 hx5 hF=>Ty (OC hx5) (fun p6=>?_)
 refine d_ (fun k7=>?_)
 refine As (zg [p6.1.v,p6.2.2.1.v,p6.2.2.2.2.1.v,p6.2.2.2.2.2.2.1.v,(zi r4.Source.Version),p6.2.2.2.2.2.2.2.2.1.v,(zi r4.Cache.Age),(zi r4.Now),p6.2.2.2.2.2.2.2.2.2.2.1.v,p6.2.2.2.2.2.2.2.2.2.2.2.2.1.v,(zi r4.Spent),p6.2.2.2.2.2.2.2.2.2.2.2.2.2.2.1.v]) ?_
 refine aU ?_
 obtain⟨o8,JC,Kg⟩:=bind_some hF
 refine au ?_
 refine fe (fun f' cs'=>∃(c20:Bool)(g:Fr),c20=o8/\f'=aQ g [(2,(pz k1)),(3,(pz k2)),(4,(pz k3)),(6,(pz k7)),(40,(.bool c20))]/\aO cs' [aX k1 36 (zg [ae.v,aP.v,cz.v,dB.v,(zi aa.Source.Version),dw.v,(zi aa.Cache.Age),(zi aa.Now),dE.v,dG.v,(zi aa.Spent),dI.v]),ah ae aa.Schema,bW aP aa.Methods,fq cz aa.Rules,bH dB aa.Source.Facts,dM dw aa.Cache.Entries,eH dE aa.Log,ah dG aa.Times,bB (aD 152 (aD 24 (aD 3 az))) dI.v aa.Results,aX k2 120 (zg [ax.v,aV.v]),ah ax aK.Head,eX aV aK.Atoms,aW k3 36 (.agg ([(.slice none 0 0),(.slice none 0 0),(.slice none 0 0),(.slice none 0 0),(zi 0),(.slice none 0 0),(zi 0),(zi 0),(.slice none 0 0),(.slice none 0 0),(zi 0),(.slice none 0 0)]:List Value).toArray),aW k7 36 (zg [p6.1.v,p6.2.2.1.v,p6.2.2.2.2.1.v,p6.2.2.2.2.2.2.1.v,(zi r4.Source.Version),p6.2.2.2.2.2.2.2.2.1.v,(zi r4.Cache.Age),(zi r4.Now),p6.2.2.2.2.2.2.2.2.2.2.1.v,p6.2.2.2.2.2.2.2.2.2.2.2.2.1.v,(zi r4.Spent),p6.2.2.2.2.2.2.2.2.2.2.2.2.2.2.1.v]),bI p6.2.1 p6.1 r4.Schema,nJ p6.2.2.2.1 p6.2.2.1 r4.Methods,mE p6.2.2.2.2.2.1 p6.2.2.2.2.1 r4.Rules,eP p6.2.2.2.2.2.2.2.1 p6.2.2.2.2.2.2.1 r4.Source.Facts,oF p6.2.2.2.2.2.2.2.2.2.1 p6.2.2.2.2.2.2.2.2.1 r4.Cache.Entries,kK p6.2.2.2.2.2.2.2.2.2.2.2.1 p6.2.2.2.2.2.2.2.2.2.2.1 r4.Log,bI p6.2.2.2.2.2.2.2.2.2.2.2.2.2.1 p6.2.2.2.2.2.2.2.2.2.2.2.2.1 r4.Times,aT (aF 152 (aF 24 (aF 3 (aC az)))) p6.2.2.2.2.2.2.2.2.2.2.2.2.2.2.2 p6.2.2.2.2.2.2.2.2.2.2.2.2.2.2.1.v r4.Results]) ?_ ?_
 · replace hF:=JC
   refine au ?_
   refine bnd hF fun lX lg hF=>bC (vG lg) (fun _=>?_)
   refine aU ?_
   rcases bD (!lX)with jL|jL
   · rw[jL]
     try rw[jL]at hF; dsimp only[aJ,aI]at hF
     exact bK hF
   rw[jL]
   try rw[jL]at hF; dsimp only[aJ,aI]at hF
   refine bJ ?_
   refine bnd hF fun jY kG hF=>bC (Le kG) (fun _=>?_)
   refine bi ?_
   rcases bD (!jY)with lH|lH
   · rw[lH]
     try rw[lH]at hF; dsimp only[aJ,aI]at hF
     exact bK hF
   rw[lH]
   try rw[lH]at hF; dsimp only[aJ,aI]at hF
   refine kF ?_
   rcases bD (decide ((500:Int)<(aa.Log.length:Int)))with jK|jK
   · rw[jK]
     try rw[jK]at hF; dsimp only[aJ,aI]at hF
     exact bK hF
   rw[jK]
   try rw[jK]at hF; dsimp only[aJ,aI]at hF
   refine dN ?_
   rcases bD (decide ((900000:Int)<aa.Spent))with iN|iN
   · rw[iN]
     try rw[iN]at hF; dsimp only[aJ,aI]at hF
     exact bK hF
   rw[iN]
   try rw[iN]at hF; dsimp only[aJ,aI]at hF
   exact bK hF
 rintro _ _ ⟨c20,ayl,rfl,rfl,hE⟩
 replace hF:=Kg
 try dsimp only at hF
 refine bu hE ?_
 refine Ci hF (fun au_ hF=>?_) (fun au_ hF=>?_)
 · refine aU ?_
   refine As (zg [p6.1.v,p6.2.2.1.v,p6.2.2.2.2.1.v,p6.2.2.2.2.2.2.1.v,(zi r4.Source.Version),p6.2.2.2.2.2.2.2.2.1.v,(zi r4.Cache.Age),(zi r4.Now),p6.2.2.2.2.2.2.2.2.2.2.1.v,p6.2.2.2.2.2.2.2.2.2.2.2.2.1.v,(zi r4.Spent),p6.2.2.2.2.2.2.2.2.2.2.2.2.2.2.1.v]) ?_
   refine bv ?_
   cases hF
   exact gU (p6.1,p6.2.1,p6.2.2.1,p6.2.2.2.1,p6.2.2.2.2.1,p6.2.2.2.2.2.1,p6.2.2.2.2.2.2.1,p6.2.2.2.2.2.2.2.1,p6.2.2.2.2.2.2.2.2.1,p6.2.2.2.2.2.2.2.2.2.2.1,p6.2.2.2.2.2.2.2.2.2.2.2.1,p6.2.2.2.2.2.2.2.2.2.2.2.2.1,p6.2.2.2.2.2.2.2.2.2.2.2.2.2.1,p6.2.2.2.2.2.2.2.2.2.2.2.2.2.2.1,p6.2.2.2.2.2.2.2.2.2.2.2.2.2.2.2) (.cellA rfl rfl .h rfl gP.h eG.h.sz rfl rfl (.tmp rfl rfl .nil)) rfl (.frz (.t (.t (.t (.t (.t (.t (.t (.t (.t (.t (.t (.t (.t (.t (.t (.t (.t (.t .h)))))))))))))))))) aG (.sel (.cons (.t (.t (.t (.t (.t (.t (.t (.t (.t (.t (.t (.t (.t (.t (.t .h))))))))))))))) (.cons (.t (.t (.t (.t (.t (.t (.t (.t (.t (.t (.t (.t (.t (.t (.t .h))))))))))))))) (.cons (.t (.t (.t (.t (.t (.t (.t (.t (.t (.t (.t (.t (.t (.t (.t .h))))))))))))))) (.cons (.t (.t (.t (.t (.t (.t (.t (.t (.t (.t (.t (.t (.t (.t (.t .h))))))))))))))) (.rd .h rfl (.cons (.t (.t (.t (.t (.t (.t (.t (.t (.t (.t (.t (.t (.t (.t (.t .h))))))))))))))) (.cons (.t (.t (.t (.t (.t (.t (.t (.t (.t (.t (.t (.t (.t (.t (.t .h))))))))))))))) (.cons (.t (.t (.t (.t (.t (.t (.t (.t (.t (.t (.t (.t (.t (.t (.t .h))))))))))))))) .nil))))))))))
 refine bJ ?_
 refine bnd hF fun oM ug hF=>Cx3 (alI ug) (fun o6=>?_)
 refine au ?_
 refine zx ?_
 refine zx ?_
 refine d_ (fun k24=>?_)
 refine As (zg [o6.1.v,o6.2.2.1.v,o6.2.2.2.2.v,(zi oM.1.Cost)]) ?_
 refine bJ ?_
 refine Ci hF (fun au' hF=>?_) (fun au' hF=>?_)
 · refine aU ?_
   refine As (zg [p6.1.v,p6.2.2.1.v,p6.2.2.2.2.1.v,p6.2.2.2.2.2.2.1.v,(zi r4.Source.Version),p6.2.2.2.2.2.2.2.2.1.v,(zi r4.Cache.Age),(zi r4.Now),p6.2.2.2.2.2.2.2.2.2.2.1.v,p6.2.2.2.2.2.2.2.2.2.2.2.2.1.v,(zi r4.Spent),p6.2.2.2.2.2.2.2.2.2.2.2.2.2.2.1.v]) ?_
   refine bv ?_
   cases hF
   exact gU (p6.1,p6.2.1,p6.2.2.1,p6.2.2.2.1,p6.2.2.2.2.1,p6.2.2.2.2.2.1,p6.2.2.2.2.2.2.1,p6.2.2.2.2.2.2.2.1,p6.2.2.2.2.2.2.2.2.1,p6.2.2.2.2.2.2.2.2.2.2.1,p6.2.2.2.2.2.2.2.2.2.2.2.1,p6.2.2.2.2.2.2.2.2.2.2.2.2.1,p6.2.2.2.2.2.2.2.2.2.2.2.2.2.1,p6.2.2.2.2.2.2.2.2.2.2.2.2.2.2.1,p6.2.2.2.2.2.2.2.2.2.2.2.2.2.2.2) (.cellA rfl rfl .h rfl gP.h eG.h.sz rfl rfl (.tmp rfl rfl .nil)) rfl (.frz (.t (.t (.t (.t (.t (.t (.t (.t (.t (.t (.t (.t (.t (.t (.t (.t (.t (.t (.t (.t (.t (.t .h)))))))))))))))))))))) aG (.sel (.cons (.t (.t (.t (.t (.t (.t (.t (.t (.t (.t (.t (.t (.t (.t (.t (.t (.t (.t (.t .h))))))))))))))))))) (.cons (.t (.t (.t (.t (.t (.t (.t (.t (.t (.t (.t (.t (.t (.t (.t (.t (.t (.t (.t .h))))))))))))))))))) (.cons (.t (.t (.t (.t (.t (.t (.t (.t (.t (.t (.t (.t (.t (.t (.t (.t (.t (.t (.t .h))))))))))))))))))) (.cons (.t (.t (.t (.t (.t (.t (.t (.t (.t (.t (.t (.t (.t (.t (.t (.t (.t (.t (.t .h))))))))))))))))))) (.rd .h rfl (.cons (.t (.t (.t (.t (.t (.t (.t (.t (.t (.t (.t (.t (.t (.t (.t (.t (.t (.t (.t .h))))))))))))))))))) (.cons (.t (.t (.t (.t (.t (.t (.t (.t (.t (.t (.t (.t (.t (.t (.t (.t (.t (.t (.t .h))))))))))))))))))) (.cons (.t (.t (.t (.t (.t (.t (.t (.t (.t (.t (.t (.t (.t (.t (.t (.t (.t (.t (.t .h))))))))))))))))))) .nil))))))))))
 refine au ?_
 refine iG (.t .h) aG ?_
 refine iG .q2 aG ?_
 refine bE ?_
 refine eu .q2 (fun hp=>j_ (s:=2) (l:=[o6.1.v,o6.2.2.1.v]) asD.h Ji.h.sz (.tmp rfl rfl) hp.2 rfl (by decide) (Nat.le_of_ble_eq_true rfl) rfl) ?_
 refine bE ?_
 refine eu .q4 (fun hp=>j_ (s:=2) (l:=[dw.v,(zi aa.Cache.Age)]) u7.h oW.h.sz (.tmp rfl rfl) hp.2 rfl (by decide) (Nat.le_of_ble_eq_true rfl) rfl) ?_
 refine aU ?_
 refine bnd hF fun gX nL hF=>Cx4 (amD nL) (fun p27=>?_)
 refine au ?_
 refine zx ?_
 refine zx ?_
 refine d_ (fun k28=>?_)
 refine d_ (fun sP=>?_)
 refine As (zg [p27.1.v,p27.2.2.1.v,p27.2.2.2.1.v,(zi gX.1.Cost)]) ?_
 refine As (zg [p27.2.2.2.2.2.v,(zi gX.2.Age)]) ?_
 refine Fs ?_
 refine Ci hF (fun aaX hF=>?_) (fun aaX hF=>?_)
 · refine aU ?_
   refine As (zg [p6.1.v,p6.2.2.1.v,p6.2.2.2.2.1.v,p6.2.2.2.2.2.2.1.v,(zi r4.Source.Version),p6.2.2.2.2.2.2.2.2.1.v,(zi r4.Cache.Age),(zi r4.Now),p6.2.2.2.2.2.2.2.2.2.2.1.v,p6.2.2.2.2.2.2.2.2.2.2.2.2.1.v,(zi r4.Spent),p6.2.2.2.2.2.2.2.2.2.2.2.2.2.2.1.v]) ?_
   refine bv ?_
   cases hF
   exact gU (p6.1,p6.2.1,p6.2.2.1,p6.2.2.2.1,p6.2.2.2.2.1,p6.2.2.2.2.2.1,p6.2.2.2.2.2.2.1,p6.2.2.2.2.2.2.2.1,p6.2.2.2.2.2.2.2.2.1,p6.2.2.2.2.2.2.2.2.2.2.1,p6.2.2.2.2.2.2.2.2.2.2.2.1,p6.2.2.2.2.2.2.2.2.2.2.2.2.1,p6.2.2.2.2.2.2.2.2.2.2.2.2.2.1,p6.2.2.2.2.2.2.2.2.2.2.2.2.2.2.1,p6.2.2.2.2.2.2.2.2.2.2.2.2.2.2.2) (.cellA rfl rfl .h rfl gP.h eG.h.sz rfl rfl (.tmp rfl rfl .nil)) rfl (.frz (.t (.t (.t (.t (.t (.t (.t (.t (.t (.t (.t (.t (.t (.t (.t (.t (.t (.t (.t (.t (.t (.t (.t (.t (.t (.t (.t (.t .h)))))))))))))))))))))))))))) aG (.sel (.cons (.t (.t (.t (.t (.t (.t (.t (.t (.t (.t (.t (.t (.t (.t (.t (.t (.t (.t (.t (.t (.t (.t (.t (.t (.t .h))))))))))))))))))))))))) (.cons (.t (.t (.t (.t (.t (.t (.t (.t (.t (.t (.t (.t (.t (.t (.t (.t (.t (.t (.t (.t (.t (.t (.t (.t (.t .h))))))))))))))))))))))))) (.cons (.t (.t (.t (.t (.t (.t (.t (.t (.t (.t (.t (.t (.t (.t (.t (.t (.t (.t (.t (.t (.t (.t (.t (.t (.t .h))))))))))))))))))))))))) (.cons (.t (.t (.t (.t (.t (.t (.t (.t (.t (.t (.t (.t (.t (.t (.t (.t (.t (.t (.t (.t (.t (.t (.t (.t (.t .h))))))))))))))))))))))))) (.rd .h rfl (.cons (.t (.t (.t (.t (.t (.t (.t (.t (.t (.t (.t (.t (.t (.t (.t (.t (.t (.t (.t (.t (.t (.t (.t (.t (.t .h))))))))))))))))))))))))) (.cons (.t (.t (.t (.t (.t (.t (.t (.t (.t (.t (.t (.t (.t (.t (.t (.t (.t (.t (.t (.t (.t (.t (.t (.t (.t .h))))))))))))))))))))))))) (.cons (.t (.t (.t (.t (.t (.t (.t (.t (.t (.t (.t (.t (.t (.t (.t (.t (.t (.t (.t (.t (.t (.t (.t (.t (.t .h))))))))))))))))))))))))) .nil))))))))))
 refine aZ ?_
 refine bn (bU (m:=gX.1.Log.length) (fun m72 f' cs'=>∃(g:Fr)(DK:Nat)(Cq oo:List Access)(Ky:List Int)(v66:Sv)(xH:List Nat)(v69:Sv)(F70:List Nat),m72=Cq.length/\f'=aQ g [(2,(pz k1)),(4,(pz k3)),(6,(pz k7)),(9,(pz k28)),(10,(pz sP)),(11,(zi (DK:Int)))]/\List.drop DK gX.1.Log=Cq/\aO cs' [aX k1 36 (zg [ae.v,aP.v,cz.v,dB.v,(zi aa.Source.Version),dw.v,(zi aa.Cache.Age),(zi aa.Now),dE.v,dG.v,(zi aa.Spent),dI.v]),ah ae aa.Schema,bW aP aa.Methods,fq cz aa.Rules,bH dB aa.Source.Facts,dM dw aa.Cache.Entries,eH dE aa.Log,ah dG aa.Times,bB (aD 152 (aD 24 (aD 3 az))) dI.v aa.Results,aW k3 36 (.agg ([(.slice none 0 0),(.slice none 0 0),(.slice none 0 0),(.slice none 0 0),(zi 0),(.slice none 0 0),(zi 0),(zi 0),(.slice none 0 0),(.slice none 0 0),(zi 0),(.slice none 0 0)]:List Value).toArray),aW k7 36 (zg [p6.1.v,p6.2.2.1.v,p6.2.2.2.2.1.v,p6.2.2.2.2.2.2.1.v,(zi r4.Source.Version),p6.2.2.2.2.2.2.2.2.1.v,(zi r4.Cache.Age),(zi r4.Now),v66.v,v69.v,(zi r4.Spent),p6.2.2.2.2.2.2.2.2.2.2.2.2.2.2.1.v]),bI p6.2.1 p6.1 r4.Schema,nJ p6.2.2.2.1 p6.2.2.1 r4.Methods,mE p6.2.2.2.2.2.1 p6.2.2.2.2.1 r4.Rules,eP p6.2.2.2.2.2.2.2.1 p6.2.2.2.2.2.2.1 r4.Source.Facts,oF p6.2.2.2.2.2.2.2.2.2.1 p6.2.2.2.2.2.2.2.2.1 r4.Cache.Entries,kK xH v66 oo,bI F70 v69 Ky,aT (aF 152 (aF 24 (aF 3 (aC az)))) p6.2.2.2.2.2.2.2.2.2.2.2.2.2.2.2 p6.2.2.2.2.2.2.2.2.2.2.2.2.2.2.1.v r4.Results,aW k28 154 (zg [p27.1.v,p27.2.2.1.v,p27.2.2.2.1.v,(zi gX.1.Cost)]),aT (aF 24 (aF 3 (aC az))) p27.2.1 p27.1.v gX.1.Answers,eH p27.2.2.1 gX.1.Log,eP p27.2.2.2.2.1 p27.2.2.2.1 gX.1.Got,aW sP 32 (zg [p27.2.2.2.2.2.v,(zi gX.2.Age)]),dM p27.2.2.2.2.2 gX.2.Entries]/\Eo aa r4 gX Cq DK oo Ky=some R) ⟨_,0,_,_,_,p6.2.2.2.2.2.2.2.2.2.2.1,p6.2.2.2.2.2.2.2.2.2.2.2.1,p6.2.2.2.2.2.2.2.2.2.2.2.2.1,p6.2.2.2.2.2.2.2.2.2.2.2.2.2.1,rfl,aA,rfl,ay,hF⟩ ?_)
 rintro m72 _ _ ⟨g73,DK,Cq,oo,Ky,v66,xH,v69,F70,rfl,rfl,Xp,hE,hF⟩
 refine Kb hE gX.1.Log (fun aBC=>?_)
 rcases Cq with _|⟨x76,Cq⟩
 · have aym:=dn Xp
   rw[Eo]at hF
   refine dN ?_
   refine dL ?_
   refine bJ ?_
   refine As (zg [p6.1.v,p6.2.2.1.v,p6.2.2.2.2.1.v,p6.2.2.2.2.2.2.1.v,(zi r4.Source.Version),p27.2.2.2.2.2.v,(zi gX.2.Age),(zi r4.Now),v66.v,v69.v,(zi r4.Spent),p6.2.2.2.2.2.2.2.2.2.2.2.2.2.2.1.v]) ?_
   refine dN ?_
   refine As (zg [p6.1.v,p6.2.2.1.v,p6.2.2.2.2.1.v,p6.2.2.2.2.2.2.1.v,(zi r4.Source.Version),p27.2.2.2.2.2.v,(zi gX.2.Age),(zi r4.Now),v66.v,v69.v,(zi (IntKind.i64.wrap (aa.Spent+gX.1.Cost))),p6.2.2.2.2.2.2.2.2.2.2.2.2.2.2.1.v]) ?_
   refine au ?_
   refine dV [0,1,2,3,4,5,6,7,8] [0,1,0,4,12,28,63,127,255] [4,6,8] mixed (by decide+kernel) ?_
   refine du ?_
   refine dO rfl .no .h (fun ha hp=>fw (v:=p6.2.2.2.2.2.2.2.2.2.2.2.2.2.2.1.v) ajt.h (EN ha (.tmp rfl rfl) rfl) hp.2 rfl rfl) ?_
   refine du ?_
   refine dO rfl .no (.t (.t (.t (.t (.t (.t (.t (.t (.t (.t (.t (.t (.t (.t (.t (.t (.t (.t (.t .h))))))))))))))))))) (fun ha hp=>fw (v:=p27.1.v) ain.h (EN ha (.tmp rfl rfl) rfl) hp.2 rfl rfl) ?_
   refine bnd hF fun r83 ayn hF=>pq rfl rfl .no (.cons (.t (.t (.t (.t (.t (.t (.t (.t (.t (.t (.t (.t (.t (.t (.t (.t (.t (.t (.t (.t .h)))))))))))))))))))) .nil) (.dep rfl (.own .h (fun _ h=>h) .nil)) (fun ha=>jV aG (fun _=>(.cons .nil)) (bV asz.h (.cons (EN ha (.tmp rfl rfl) rfl) .nil) (ae6 ayn))) (fun p85=>?_)
   refine iy rfl .no rfl (fun ha=>bQ (g:=true) (len:=1) (parts:=[(0,.tmp 126)]) Re.h V9.h (.cons (EN ha (.tmp rfl rfl) rfl) .nil) (vs:=[p85.1.v]) rfl rfl rfl (by intro v hv; simp at hv; rcases hv with rfl<;>rfl)) (fun k86=>?_)
   refine jk (.cons .h (.cons (.t .h) .nil)) (bS (Ro:=(aF 24 (aF 3 (aC az)))) (E:=152) (F:=(p85.2++[])) (xs:=([r83]:List (List (List Int)))) (ed Jb bR cK) rfl rfl) ?_
   refine bnd hF fun z87 ayo hF=>cO rfl rfl .no (.cons (.t (.t (.t (.t (.t (.t (.t (.t (.t (.t (.t (.t (.t (.t (.t (.t (.t (.t (.t (.t .h)))))))))))))))))))) (.cons .h .nil)) (.dep rfl (.dep rfl (.dep rfl .nil))) (fun ha=>dX (Ro:=(aF 24 (aF 3 (aC az)))) Re.h aju V9.h rfl rfl rfl (EN ha (.tmp rfl rfl) rfl) (EN ha (.tmp rfl rfl) rfl) ayo fU) (fun YC=>?_)
   refine du ?_
   refine cO rfl rfl .no (.cons .q2 .nil) (.dep rfl (.dep rfl (.dep rfl .nil))) (fun ha=>gD (e':=(zg [p6.1.v,p6.2.2.1.v,p6.2.2.2.2.1.v,p6.2.2.2.2.2.2.1.v,(zi r4.Source.Version),p27.2.2.2.2.2.v,(zi gX.2.Age),(zi r4.Now),v66.v,v69.v,(zi (IntKind.i64.wrap (aa.Spent+gX.1.Cost))),YC.1.v])) awh.h.sz (EN ha (.tmp rfl rfl) rfl) (EN ha (.tmp rfl rfl) rfl) rfl rfl rfl rfl rfl) (fun _=>?_)
   refine du ?_
   refine aU ?_
   refine As (zg [p6.1.v,p6.2.2.1.v,p6.2.2.2.2.1.v,p6.2.2.2.2.2.2.1.v,(zi r4.Source.Version),p27.2.2.2.2.2.v,(zi gX.2.Age),(zi r4.Now),v66.v,v69.v,(zi (IntKind.i64.wrap (aa.Spent+gX.1.Cost))),YC.1.v]) ?_
   refine bv ?_
   cases hF
   exact gU (p6.1,p6.2.1,p6.2.2.1,p6.2.2.2.1,p6.2.2.2.2.1,p6.2.2.2.2.2.1,p6.2.2.2.2.2.2.1,p6.2.2.2.2.2.2.2.1,p27.2.2.2.2.2,v66,xH,v69,F70,YC.1,YC.2) (.cellA rfl rfl .h rfl gP.h eG.h.sz rfl rfl (.tmp rfl rfl .nil)) rfl (.sel (.cons .q13 (.cons .q13 (.cons .q13 (.cons .q13 (.rd (.t (.t (.t (.t (.t (.t (.t (.t (.t (.t (.t (.t (.t (.t (.t (.t (.t (.t (.t (.t .h)))))))))))))))))))) rfl (.cons .q14 (.cons .q14 (.cons .q2 .nil)))))))))
 obtain⟨aym,akD,ayp⟩:=dA Xp
 rw[Eo]at hF
 refine dN ?_
 refine dK ?_
 refine aU ?_
 refine dV [0,1,2,3,4,5,6,7,8,9,10,11,12,13,14,15,16,17,18] [0,1,0,4,0,28,60,124,0,256,0,1792,3840,7936,16380,32764,65535,131071,262143] [14,16,18] mixed (by decide+kernel) ?_
 refine du ?_
 refine dO rfl .no .q10 (fun ha hp=>fw (v:=v66.v) M6.h (EN ha (.tmp rfl rfl) rfl) hp.2 rfl rfl) ?_
 refine du ?_
 refine dO rfl .no (.t (.t (.t (.t (.t (.t (.t (.t (.t (.t (.t (.t (.t (.t (.t (.t (.t (.t (.t .h))))))))))))))))))) (fun ha hp=>fw (v:=p27.2.2.1.v) M6.h (EN ha (.tmp rfl rfl) rfl) hp.2 rfl rfl) ?_
 refine du ?_
 refine Di akD (fun k90 j91=>?_)
 refine du ?_
 refine Dl MB ?_
 refine du ?_
 refine dO rfl .no (.t (.t (.t (.t (.t (.t (.t (.t (.t (.t (.t (.t (.t (.t (.t (.t (.t (.t (.t (.t .h)))))))))))))))))))) (fun ha hp=>fw (v:=p27.2.2.1.v) M6.h (EN ha (.tmp rfl rfl) rfl) hp.2 rfl rfl) ?_
 refine du ?_
 refine Di akD (fun k92 j93=>?_)
 refine du ?_
 refine oz (R':=(aD 3 az)) iC.h rfl .no (.tmp rfl rfl) rfl .h ahX (fun w94=>?_)
 refine bnd hF fun Kq hx96 hF=>cO rfl rfl .no (.rd .h rfl .nil) (.dep rfl (.dep rfl (.own .q13 (fun _ h=>h) .nil))) (fun ha=>bV ajs.h (.cons (EN ha (.tmp rfl rfl) rfl) (.cons (EN ha (.tmp rfl rfl) rfl) .nil)) (Ol hx96)) (fun Yz=>?_)
 refine iy rfl .no rfl (fun ha=>bQ (g:=true) (len:=1) (parts:=[(0,.tmp 103)]) pR.h ky.h (.cons (EN ha (.tmp rfl rfl) rfl) .nil) (vs:=[(zg [(zi Kq.Method),Yz.1.v])]) rfl rfl rfl (by intro v hv; simp at hv; rcases hv with rfl<;>rfl)) (fun k98=>?_)
 refine jk (.cons .h (.cons .h .nil)) (bS (Ro:=nk) (E:=45) (F:=(Yz.2++[])) (xs:=([Kq]:List Access)) (ed W_ bR cK) rfl rfl) ?_
 refine bnd hF fun z99 ava hF=>cO rfl rfl .no (.cons (.t (.t (.t (.t (.t (.t (.t (.t (.t (.t (.t (.t (.t (.t (.t (.t (.t (.t (.t (.t .h)))))))))))))))))))) (.cons .h .nil)) (.dep rfl (.dep rfl (.dep rfl (.dep rfl .nil)))) (fun ha=>dX (Ro:=nk) pR.h Rc ky.h rfl rfl rfl (EN ha (.tmp rfl rfl) rfl) (EN ha (.tmp rfl rfl) rfl) ava fU) (fun XX=>?_)
 refine du ?_
 refine cO rfl rfl .no (.cons .q14 .nil) (.dep rfl (.dep rfl (.dep rfl (.dep rfl .nil)))) (fun ha=>gD (e':=(zg [p6.1.v,p6.2.2.1.v,p6.2.2.2.2.1.v,p6.2.2.2.2.2.2.1.v,(zi r4.Source.Version),p6.2.2.2.2.2.2.2.2.1.v,(zi r4.Cache.Age),(zi r4.Now),XX.1.v,v69.v,(zi r4.Spent),p6.2.2.2.2.2.2.2.2.2.2.2.2.2.2.1.v])) awq.h.sz (EN ha (.tmp rfl rfl) rfl) (EN ha (.tmp rfl rfl) rfl) rfl rfl rfl rfl rfl) (fun _=>?_)
 refine du ?_
 refine aZ ?_
 refine dH rfl (bQ (g:=true) di.h dx.h cu (vs:=[(zi aa.Now)]) rfl rfl rfl (by intro v hv; simp at hv; rcases hv with rfl<;>rfl)) (fun aEf=>?_)
 refine dR (.cons .h .nil) (bS (Ro:=(aC az)) (E:=3) (F:=([]++[])) (xs:=([aa.Now]:List Int)) (ed (jF (fun _=>rfl)) bR cK) rfl rfl) ?_
 refine bnd hF fun akC hx104 hF=>ek (.cons (.t (.t (.t (.t (.t (.t (.t (.t (.t (.t (.t (.t (.t (.t (.t (.t (.t (.t (.t (.t (.t .h))))))))))))))))))))) (.cons .h .nil)) (dX (Ro:=(aC az)) di.h jc dx.h rfl rfl rfl (.tmp rfl rfl) (.tmp rfl rfl) hx104 fU) (fun adu=>?_)
 refine au ?_
 refine As (zg [p6.1.v,p6.2.2.1.v,p6.2.2.2.2.1.v,p6.2.2.2.2.2.2.1.v,(zi r4.Source.Version),p6.2.2.2.2.2.2.2.2.1.v,(zi r4.Cache.Age),(zi r4.Now),XX.1.v,adu.1.v,(zi r4.Spent),p6.2.2.2.2.2.2.2.2.2.2.2.2.2.2.1.v]) ?_
 refine bE ?_
 rw[wk DK]
 exact⟨_,bY _,_,DK+1,Cq,_,_,XX.1,XX.2,adu.1,adu.2,rfl,aA,ayp,ay,hF⟩
end Go.Proofs.YtfcjmpkenaiomaaGreat
