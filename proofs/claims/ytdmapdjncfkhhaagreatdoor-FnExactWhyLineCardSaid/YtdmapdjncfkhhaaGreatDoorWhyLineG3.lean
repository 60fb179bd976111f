/-
  Functions of the program as Lean functions, and that the calls return what these say: part 4. No conditions.
-/
import Derived.Shelf.Sort.Plain
import Derived.Shelf.Slices.In.SortNone
import Derived.Shelf.Slices.CompactI
import Derived.Shelf.Strings.OnBuilder
import Derived.Shelf.Strconv.Itoa3
import Derived.Test.YtdmapdjncfkhhaaGreatDoorWhyLineG2
import Derived.KernelRfl
set_option maxRecDepth 100000
set_option maxHeartbeats 1000000
set_option linter.unusedVariables false
namespace Go.Proofs.YtdmapdjncfkhhaaGreatDoor
open Go Go.Fw

def D7(bG:Rule)(aU:Fact):List Int->Nat->(List Int)->Option (Fact×Bool)
 |[],gW,jv=>some ((⟨bG.To,jv⟩:Fact),true)
 |lw::iJ,gW,jv=>(ix aU.Values lw).bind fun Dx=>
   (app jv ([Dx]:List Int)).bind fun z53=>
   D7 bG aU iJ (gW+1) z53
def Io(bG:Rule)(aU:Fact):Option (Fact×Bool):=
 if ((aU.Rel:Int)!=bG.From)then (
   some ((⟨0,[]⟩:Fact),false))
 else (
   D7 bG aU bG.Map 0 ([]:List Int))
theorem afn{bG:Rule}{gK:Sv}{aU:Fact}{aW:Sv}{R:Fact×Bool}(hF:Io bG aU=some R):
   Fw.Spec Tryz.prog 256 [(zg [(zi bG.From),(zi bG.To),gK.v]),(zg [(zi aU.Rel),aW.v])] [ag gK bG.Map,ag aW aU.Values] (fun p:Sv×List Nat=>(.tuple [(zg [(zi R.1.Rel),p.1.v]),(.bool R.2)].toArray)) (fun p=>[a_ p.2 p.1 R.1.Values]):=by
 refine Se 37 Tryz.func256 [.cell 4 147,.tmp 5] ?_
 intro H0 F0
 unfold Io at hF
 refine au ?_
 refine bM (fun k1=>?_)
 refine bM (fun k2=>?_)
 refine dJ (fun k3=>?_)
 refine jD ?_
 refine Ci hF (fun TT hF=>?_) (fun TT hF=>?_)
 · refine au ?_
   refine aO (gy dA.h rfl (vs:=[]) .nil (cells:=[(zi 0),(.slice none 0 0)]) rfl) ?_
   refine As (.agg ([(zi 0),(.slice none 0 0)]:List Value).toArray) ?_
   refine bC ?_
   cases hF
   exact gL (⟨none,0,0⟩,[]) (.cellA rfl rfl .h rfl qb.h dA.h.sz rfl rfl (.tmp rfl rfl .nil)) rfl (.conv .nil (fH (Ro:=(aj aH)) (E:=3)) (.cons .nil) (.sel (.cons .h .nil)))
 refine aP ?_
 refine aO (gy dA.h rfl (vs:=[(zi bG.To)]) bN (cells:=[(zi bG.To),(.slice none 0 0)]) rfl) ?_
 refine dJ (fun k4=>?_)
 refine As (zg [(zi bG.To),(.slice none 0 0)]) ?_
 refine eD ?_
 refine aY (bK (m:=bG.Map.length) (fun y5 f' cs'=>∃(g:Fr)(gW:Nat)(iJ jv:List Int)(v30:Sv)(rA:List Nat),y5=iJ.length/\f'=aN g [(3,(pz k2)),(4,(pz k3)),(6,(pz k4)),(19,gK.v),(20,(zi (bG.Map.length:Int))),(21,(zi (gW:Int)))]/\List.drop gW bG.Map=iJ/\aK cs' [aQ k2 147 (zg [(zi aU.Rel),aW.v]),ag aW aU.Values,bS k3 147 (.agg ([(zi 0),(.slice none 0 0)]:List Value).toArray),bS k4 147 (zg [(zi bG.To),v30.v]),a_ rA v30 jv,ag gK bG.Map]/\D7 bG aU iJ gW jv=some R) ⟨_,0,_,_,⟨none,0,0⟩,[],rfl,ay,rfl,(.conv .nil (fH (Ro:=(aj aH)) (E:=3)) (.cons .nil) ax),hF⟩ ?_)
 rintro y5 _ _ ⟨g34,gW,iJ,jv,v30,rA,rfl,rfl,hd38,hE,hF⟩
 refine Kb hE bG.Map (fun acL=>?_)
 rcases iJ with _|⟨lw,iJ⟩
 · have KE:=dn hd38
   rw[D7]at hF
   refine aP ?_
   refine cO ?_
   refine bu ?_
   refine As (zg [(zi bG.To),v30.v]) ?_
   refine bC ?_
   cases hF
   exact gL (v30,rA) (.cellA rfl rfl .h rfl qb.h dA.h.sz rfl rfl (.tmp rfl rfl .nil)) rfl (.sel (.cons .q4 .nil))
 obtain⟨KE,vV,zZ⟩:=bW hd38
 rw[D7]at hF
 refine aP ?_
 refine cK ?_
 refine bC ?_
 refine Ai vV (fun K3 Z7=>?_)
 refine Al dG ?_
 refine bg ?_
 refine kM [0,1,2,3,4,5,6,7,8,9,10] [0,1,0,4,0,28,60,124,255,511,1023] [8,10] mixed (by decide+kernel) ?_
 refine du ?_
 refine ed rfl .no .q4 (fun ha hp=>fI (v:=v30.v) iF.h (EN ha (.tmp rfl rfl) rfl) hp.2 rfl rfl) ?_
 refine fT ?_
 refine zI hF fun Dx aAK kU hF=>?_
 refine Di kU (fun kY j51=>?_)
 refine Dl dG ?_
 refine iq rfl .no rfl (fun ha=>bV (g:=true) (len:=1) (parts:=[(0,.tmp 31)]) cz.h cZ.h (.cons (EN ha (.tmp rfl rfl) rfl) .nil) (vs:=[(zi Dx)]) rfl rfl rfl (by intro v hv; simp at hv; rcases hv with rfl<;>rfl)) (fun k52=>?_)
 refine jF (.cons .h .nil) (bY (Ro:=(aj aH)) (E:=3) (F:=([]++[])) (xs:=([Dx]:List Int)) (eF (jd (fun _=>rfl)) bX dm) rfl rfl) ?_
 refine bnd hF fun z53 yJ hF=>df rfl rfl .no (.cons .q7 (.cons .h .nil)) (.dep rfl (.dep rfl .nil)) (fun ha=>ek (Ro:=(aj aH)) cz.h iL cZ.h rfl rfl rfl (EN ha (.tmp rfl rfl) rfl) (EN ha (.tmp rfl rfl) rfl) yJ fM) (fun p55=>?_)
 refine du ?_
 refine df rfl rfl .no (.cons .q6 .nil) (.dep rfl (.dep rfl .nil)) (fun ha=>gF (e':=(zg [(zi bG.To),p55.1.v])) lQ.h.sz (EN ha (.tmp rfl rfl) rfl) (EN ha (.tmp rfl rfl) rfl) rfl rfl rfl rfl rfl) (fun _=>?_)
 refine du ?_
 refine aP ?_
 rw[wk gW]
 exact⟨_,bO _,_,gW+1,iJ,_,p55.1,p55.2,rfl,ay,zZ,ax,hF⟩
def IV(bn:List Fact)(dz:Fact):List Rule->Nat->(List Fact)->Option ((List Fact))
 |[],vv,c23=>some c23
 |x31::Cf,vv,c23=>((Io x31 dz).bind fun iN=>
     (bif iN.2 then ((EX bn iN.1).bind fun qw=>
         some (!qw))
       else (some false)).bind fun Vu=>
     match Vu with
     |wG=>if wG then (
         (zB c23 iN.1).bind fun Ld=>
         some Ld)
       else (
         some c23)).bind fun o38=>
   match o38 with
   |wE=>IV bn dz Cf (vv+1) wE
def IW(ai:List Rule)(bn:List Fact):List Fact->Nat->(List Fact)->Option ((List Fact))
 |[],k8,c2=>some c2
 |dz::dE,k8,c2=>(IV bn dz ai 0 c2).bind fun ru=>
   match ru with
   |oh=>IW ai bn dE (k8+1) oh
def M_(ai:List Rule)(bn:List Fact):Option ((List Fact)):=
 IW ai bn bn 0 ([]:List Fact)
theorem agk{ai:List Rule}{aa:Sv}{bn:List Fact}{aA:Sv}{R:(List Fact)}(hF:M_ ai bn=some R):
   Fw.Spec Tryz.prog 193 [aa.v,aA.v] [dV aa ai,dD aA bn] (fun p:Sv×List Nat=>p.1.v) (fun p=>[fV p.2 p.1 R]):=by
 refine Se 44 Tryz.func193 [.tmp 4] ?_
 intro H0 F0
 unfold M_ at hF
 refine aP ?_
 refine dx rfl (bV (g:=true) dX.h dA.h .nil (vs:=[]) rfl rfl rfl (by simp)) (fun k1=>?_)
 refine dH (.cons .h .nil) (bY (Ro:=fP) (E:=147) (F:=[]) (xs:=([]:List Fact)) bX rfl rfl) ?_
 refine eD ?_
 refine aY (bK (m:=bn.length) (fun m6 f' cs'=>∃(g:Fr)(k8:Nat)(dE c2:List Fact)(v3:Sv)(F4:List Nat),m6=dE.length/\f'=aN g [(0,aa.v),(1,aA.v),(5,v3.v),(13,aA.v),(14,(zi (bn.length:Int))),(15,(zi (k8:Int)))]/\List.drop k8 bn=dE/\aK cs' [dV aa ai,dD aA bn,fV F4 v3 c2]/\IW ai bn dE k8 c2=some R) ⟨_,0,_,_,⟨(some ⟨k1,0,none⟩),0,1⟩,(k1::[]),rfl,ay,rfl,ax,hF⟩ ?_)
 rintro m6 _ _ ⟨g7,k8,dE,c2,v3,F4,rfl,rfl,fZ,hE,hF⟩
 refine Kb hE bn (fun Cs=>?_)
 rcases dE with _|⟨dz,dE⟩
 · have o7:=dn fZ
   rw[IW]at hF
   refine aP ?_
   refine cO ?_
   refine eG ?_
   cases hF
   exact Er (v3,F4)
 obtain⟨o7,iM,o9⟩:=bW fZ
 rw[IW]at hF
 refine aP ?_
 refine cK ?_
 refine au ?_
 obtain⟨ru,JF,Kl⟩:=bind_some hF
 refine fD (fun f' cs'=>∃(oh:List Fact)(v66:Sv)(Aq:List Nat)(g:Fr),oh=ru/\f'=aN g [(0,aa.v),(1,aA.v),(5,v66.v),(13,aA.v),(14,(zi (bn.length:Int))),(15,(zi (k8:Int)))]/\aK cs' [dV aa ai,dD aA bn,fV Aq v66 oh]) ?_ ?_
 · replace hF:=JF
   refine aY (cu (pY (a:=dz) dX.h dA.h.sz (.tmp rfl rfl) (.tmp rfl rfl) (.t .h) (Int.natCast_nonneg k8) iM (fun k19 GV=>?_)))
   refine iw (ky dz) kL (fun mM=>?_)
   refine dJ (fun k22=>?_)
   refine As (zg [(zi dz.Rel),mM.v]) ?_
   refine bu ?_
   refine aY (bK (m:=ai.length) (fun m27 f' cs'=>∃(g:Fr)(vv:Nat)(Cf:List Rule)(c23:List Fact)(v24:Sv)(Dw:List Nat),m27=Cf.length/\f'=aN g [(0,aa.v),(1,aA.v),(5,v24.v),(7,(pz k22)),(13,aA.v),(14,(zi (bn.length:Int))),(15,(zi (k8:Int))),(19,aa.v),(20,(zi (ai.length:Int))),(21,(zi (vv:Int)))]/\List.drop vv ai=Cf/\aK cs' [dV aa ai,dD aA bn,fV Dw v24 c23,bS k22 147 (zg [(zi dz.Rel),mM.v]),ag mM dz.Values]/\IV bn dz Cf vv c23=some ru) ⟨_,0,_,_,v3,F4,rfl,ay,rfl,ax,hF⟩ ?_)
   rintro m27 _ _ ⟨g28,vv,Cf,c23,v24,Dw,rfl,rfl,hd32,hE,hF⟩
   refine Kb hE ai (fun aFx=>?_)
   rcases Cf with _|⟨x31,Cf⟩
   · have aBL:=dn hd32
     rw[IV]at hF
     refine aP ?_
     refine cO ?_
     refine aP ?_
     cases hF
     exact⟨_,v24,Dw,_,rfl,ay,ax⟩
   obtain⟨aBL,hx34,Kh⟩:=bW hd32
   rw[IV]at hF
   refine aP ?_
   refine cK ?_
   refine au ?_
   obtain⟨o38,ay5,aBM⟩:=bind_some hF
   refine fD (fun f' cs'=>∃(wE:List Fact)(v61:Sv)(F62:List Nat)(g:Fr),wE=o38/\f'=aN g [(0,aa.v),(1,aA.v),(5,v61.v),(7,(pz k22)),(13,aA.v),(14,(zi (bn.length:Int))),(15,(zi (k8:Int))),(19,aa.v),(20,(zi (ai.length:Int))),(21,(zi (vv:Int)))]/\aK cs' [dV aa ai,dD aA bn,fV F62 v61 wE,bS k22 147 (zg [(zi dz.Rel),mM.v]),ag mM dz.Values]) ?_ ?_
   · replace hF:=ay5
     refine aY (cu (pY (a:=x31) CJ.h yw.h.sz (.tmp rfl rfl) (.tmp rfl rfl) .h (Int.natCast_nonneg vv) hx34 (fun nk j41=>?_)))
     refine iw (zo x31) AV (fun p42=>?_)
     refine dJ (fun k43=>?_)
     refine As (zg [(zi x31.From),(zi x31.To),p42.v]) ?_
     refine aP ?_
     refine bnd hF fun iN xg hF=>fq (afn xg) (fun p46=>?_)
     refine au ?_
     refine zx ?_
     refine zx ?_
     refine dJ (fun Vd=>?_)
     refine As (zg [(zi iN.1.Rel),p46.1.v]) ?_
     refine bg ?_
     obtain⟨Vu,ay6,aBN⟩:=bind_some hF
     refine au ?_
     refine gG (fun f' cs'=>∃(wG:Bool)(g:Fr),wG=Vu/\f'=aN g [(0,aa.v),(1,aA.v),(5,v24.v),(7,(pz k22)),(10,(pz Vd)),(13,aA.v),(14,(zi (bn.length:Int))),(15,(zi (k8:Int))),(19,aa.v),(20,(zi (ai.length:Int))),(21,(zi (vv:Int))),(37,(.bool wG))]/\aK cs' [dV aa ai,dD aA bn,fV Dw v24 c23,bS k22 147 (zg [(zi dz.Rel),mM.v]),ag mM dz.Values,bS Vd 147 (zg [(zi iN.1.Rel),p46.1.v]),a_ p46.2 p46.1 iN.1.Values]) ?_ ?_
     · replace hF:=ay6
       refine bg ?_
       rcases dK iN.2 with yC|yC
       · rw[yC]
         try rw[yC]at hF; dsimp only[bB,bA]at hF
         refine aX ?_
         refine bnd hF fun qw uP hF=>dU (.cons (.t .h) (.rd .q5 rfl .nil)) (gH bq (fun _=>.nil) (jA (.rd (.t .h) rfl (.rd .h rfl .nil)) (bU acz.h bN (aaI uP)))) (fun _=>?_)
         exact dw hF
       rw[yC]
       try rw[yC]at hF; dsimp only[bB,bA]at hF
       exact dw hF
     rintro _ _ ⟨wG,g59,rfl,rfl,hE⟩
     replace hF:=aBN
     try dsimp only at hF
     refine bH hE ?_
     refine Ci hF (fun KG hF=>?_) (fun KG hF=>?_)
     · refine jM .q6 bq ?_
       refine bC ?_
       refine bnd hF fun Ld Ki hF=>fq (WO Ki) (fun p57=>?_)
       refine bg ?_
       cases hF
       exact⟨_,p57.1,p57.2,_,rfl,ay,ax⟩
     refine au ?_
     cases hF
     exact⟨_,v24,Dw,_,rfl,ay,ax⟩
   rintro _ _ ⟨wE,v61,F62,g64,rfl,rfl,hE⟩
   replace hF:=aBM
   try dsimp only at hF
   refine bH hE ?_
   refine aP ?_
   rw[wk vv]
   exact⟨_,bO _,_,vv+1,Cf,_,v61,F62,rfl,ay,Kh,ax,hF⟩
 rintro _ _ ⟨oh,v66,Aq,g69,rfl,rfl,hE⟩
 replace hF:=Kl
 try dsimp only at hF
 refine bH hE ?_
 refine aP ?_
 rw[wk k8]
 exact⟨_,bO _,_,k8+1,dE,_,v66,Aq,rfl,ay,o9,ax,hF⟩
def EE:List Fact->Nat->(List Fact)->Option ((List Fact))
 |[],rY,Lx=>some Lx
 |KZ::Cg,rY,Lx=>(zB Lx KZ).bind fun Vo=>
   EE Cg (rY+1) Vo
def EF(ai:List Rule):Nat->(List Fact)->Option ((List Fact))
 |0,_=>none
 |m7+1,c4=>(((M_ ai c4).bind fun d_=>
     if (((d_.length:Int):Int)==0)then (
       some (.inl c4))
     else (
       (EE d_ 0 c4).bind fun wo=>
       match wo with
       |mQ=>some (.inr mQ))):Option (Sum ((List Fact)) ((List Fact)))).bind fun nP=>
   match nP with
   | .inl r=>some r
   | .inr Vv=>EF ai m7 Vv
def E_(ai:List Rule)(bn:List Fact):Option ((List Fact)):=
 (MO bn).bind fun r1=>
 EF ai 4096 r1
theorem agK{ai:List Rule}{aa:Sv}{bn:List Fact}{aA:Sv}{R:(List Fact)}(hF:E_ ai bn=some R):
   Fw.Spec Tryz.prog 104 [aa.v,aA.v] [dV aa ai,dD aA bn] (fun p:Sv×List Nat=>p.1.v) (fun p=>[fV p.2 p.1 R]):=by
 refine Se 28 Tryz.func104 [.tmp 4] ?_
 intro H0 F0
 unfold E_ at hF
 refine aX ?_
 refine bnd hF fun r1 hx2 hF=>fq (aaz hx2) (fun p3=>?_)
 refine bg ?_
 refine aY (bK (m:=4096) (fun m7 f' cs'=>∃(g:Fr)(c4:List Fact)(v5:Sv)(F6:List Nat),f'=aN g [(0,aa.v),(5,v5.v)]/\aK cs' [dV aa ai,fV F6 v5 c4]/\EF ai m7 c4=some R) ⟨_,_,p3.1,p3.2,ay,ax,hF⟩ ?_)
 rintro m7 _ _ ⟨g8,c4,v5,F6,rfl,hE,hF⟩
 refine bH hE ?_
 rcases m7 with _|m7
 · rw[EF]at hF
   exact absurd hF (by simp)
 rw[EF]at hF
 obtain⟨nP,Ct,yK⟩:=bind_some hF
 refine xV (fun f' cs'=>∃(Vv:List Fact)(v74:Sv)(F75:List Nat)(g:Fr),nP= .inr Vv/\f'=aN g [(0,aa.v),(5,v74.v)]/\aK cs' [dV aa ai,fV F75 v74 Vv]) ?_ ?_
 · replace hF:=Ct
   refine aY (cu (Cm aa.v rfl rfl ?_))
   refine au ?_
   refine bnd hF fun d_ gq hF=>l9 (.cons (.t .h) (.rd .h rfl .nil)) (gH bq (fun _=>(.cons .nil)) (jA (.rd (.t .h) rfl (.rd .h rfl .nil)) (bU akn.h bN (agk gq)))) (fun r_=>?_)
   refine eD ?_
   refine Ci hF (fun aeE hF=>?_) (fun aeE hF=>?_)
   · refine aX ?_
     cases hF
     replace hF:=yK
     try dsimp only at hF
     cases hF
     exact Er (v5,F6)
   refine bu ?_
   obtain⟨wo,RX,TR⟩:=bind_some hF
   refine xV (fun f' cs'=>∃(mQ:List Fact)(v69:Sv)(LA:List Nat)(g:Fr),mQ=wo/\f'=aN g [(0,aa.v),(5,v69.v)]/\aK cs' [dV aa ai,fV LA v69 mQ]) ?_ ?_
   · replace hF:=RX
     refine aY (jM (.t .h) bq ?_)
     refine bK (m:=d_.length) (fun m49 f' cs'=>∃(g:Fr)(rY:Nat)(Cg Lx:List Fact)(v46:Sv)(F47:List Nat),m49=Cg.length/\f'=aN g [(0,aa.v),(5,v46.v),(18,r_.1.v),(19,(zi (d_.length:Int))),(20,(zi (rY:Int)))]/\List.drop rY d_=Cg/\aK cs' [dV aa ai,fV F47 v46 Lx,dD r_.1 d_]/\EE Cg rY Lx=some wo) ⟨_,0,_,_,v5,F6,rfl,ay,rfl,ax,hF⟩ ?_
     rintro m49 _ _ ⟨g50,rY,Cg,Lx,v46,F47,rfl,rfl,amw,hE,hF⟩
     refine Kb hE d_ (fun aFy=>?_)
     rcases Cg with _|⟨KZ,Cg⟩
     · have aBO:=dn amw
       rw[EE]at hF
       refine aP ?_
       refine cO ?_
       refine aP ?_
       cases hF
       exact⟨_,v46,F47,_,rfl,ay,ax⟩
     obtain⟨aBO,Ki,Zy⟩:=bW amw
     rw[EE]at hF
     refine aP ?_
     refine cK ?_
     refine bC ?_
     refine Ai Ki (fun k60 j61=>?_)
     refine iw (ky KZ) kL (fun p62=>?_)
     refine dJ (fun k63=>?_)
     refine As (zg [(zi KZ.Rel),p62.v]) ?_
     refine aP ?_
     refine bnd hF fun Vo KJ hF=>fq (WO KJ) (fun p66=>?_)
     refine bu ?_
     rw[wk rY]
     exact⟨_,bO _,_,rY+1,Cg,_,p66.1,p66.2,rfl,ay,Zy,ax,hF⟩
   rintro _ _ ⟨mQ,v69,LA,g71,rfl,rfl,hE⟩
   replace hF:=TR
   try dsimp only at hF
   refine yf hE ?_
   cases hF
   exact⟨_,v69,LA,_,rfl,ay,ax⟩
 rintro _ _ ⟨Vv,v74,F75,g76,rfl,rfl,hE⟩
 replace hF:=yK
 try dsimp only at hF
 refine yf hE ?_
 exact⟨m7,bO _,_,_,v74,F75,ay,ax,hF⟩
def H9(r3:(List Int)):Nat->(List Int)->Int->Option ((List Int))
 |0,_,_=>none
 |m10+1,c6,c9=>if (decide ((c9:Int)<(r3.length:Int)))then (
     ((ix r3 c9).bind fun qx=>
       (EU qx).bind fun pQ=>
       if pQ then (
         (app c6 ([qx]:List Int)).bind fun z31=>
         some z31)
       else (
         some c6)).bind fun iH=>
     match iH with
     |tY=>H9 r3 m10 tY (IntKind.i64.wrap (c9+1)))
   else (
     (Hl c6).bind fun OE=>
     (Hf OE).bind fun Ak=>
     some Ak)
def IX(ai:List Int)(NE:List Int):Option ((List Int)):=
 (Ma ([ai,NE]:List (List Int))).bind fun r3=>
 H9 r3 (((r3.length:Int)-0).toNat+2) ([]:List Int) 0
theorem afE{ai:List Int}{aa:Sv}{NE:List Int}{aA:Sv}{R:(List Int)}(hF:IX ai NE=some R):
   Fw.Spec Tryz.prog 262 [aa.v,aA.v] [ag aa ai,ag aA NE] (fun p:Sv×List Nat=>p.1.v) (fun p=>[a_ p.2 p.1 R]):=by
 refine Se 29 Tryz.func262 [.tmp 4] ?_
 intro H0 F0
 unfold IX at hF
 refine aP ?_
 refine dx rfl (bV (g:=true) cz.h cZ.h .nil (vs:=[]) rfl rfl rfl (by simp)) (fun k1=>?_)
 refine dH (.cons .h .nil) (bY (Ro:=(aj aH)) (E:=3) (F:=[]) (xs:=([]:List Int)) bX rfl rfl) ?_
 refine bu ?_
 refine dx rfl (bV (g:=true) vI.h lQ.h bN (vs:=[aa.v,aA.v]) rfl rfl rfl (by intro v hv; simp at hv; rcases hv with rfl|rfl<;>rfl)) (fun k2=>?_)
 refine dH (.cons .h (.rd (.t .h) rfl (.rd .q2 rfl .nil))) (bY (Ro:=(aj (aI 3 aH))) (E:=22) (F:=([]++([]++[]))) (xs:=([ai,NE]:List (List Int))) (eF acu (eF acu bX dm) dm) rfl rfl) ?_
 refine bnd hF fun r3 hx4 hF=>l9 (.cons .h .nil) (gH bq (fun _=>(.cons .nil)) (bU aki.h bN (@aeU ([ai,NE]:List (List Int)) (⟨(some ⟨k2,0,none⟩),2,1⟩) _ hx4))) (fun p5=>?_)
 refine bC ?_
 refine aY (bK (m:=(((r3.length:Int)-0).toNat+2)) (fun m10 f' cs'=>∃(g:Fr)(c6:List Int)(c9:Int)(v7:Sv)(F8:List Nat),f'=aN g [(5,v7.v),(12,p5.1.v),(13,(zi (r3.length:Int))),(14,(zi c9))]/\aK cs' [a_ F8 v7 c6,a_ p5.2 p5.1 r3]/\H9 r3 m10 c6 c9=some R) ⟨_,_,_,⟨(some ⟨k1,0,none⟩),0,1⟩,(k1::[]),ay,ax,hF⟩ ?_)
 rintro m10 _ _ ⟨g11,c6,c9,v7,F8,rfl,hE,hF⟩
 refine bH hE ?_
 rcases m10 with _|m10
 · rw[H9]at hF
   exact absurd hF (by simp)
 rw[H9]at hF
 refine aP ?_
 refine Ci hF (fun aBP hF=>?_) (fun aBP hF=>?_)
 · refine au ?_
   obtain⟨iH,qD,qQ⟩:=bind_some hF
   refine fD (fun f' cs'=>∃(tY:List Int)(v36:Sv)(F37:List Nat)(g:Fr),tY=iH/\f'=aN g [(5,v36.v),(12,p5.1.v),(13,(zi (r3.length:Int))),(14,(zi c9))]/\aK cs' [a_ F37 v36 tY,a_ p5.2 p5.1 r3]) ?_ ?_
   · replace hF:=qD
     refine aY (cu ?_)
     refine bnd hF fun qx hx24 hF=>?_
     have hi22:=zC hx24
     obtain⟨amb,ll⟩:=uk hx24
     refine qA cz.h cZ.h.sz (.tmp rfl rfl) (.tmp rfl rfl) (.t .h) hi22 (fun k20 adI=>?_)
     refine Jz (w:=(zi qx)) Ag.h (.tmp rfl rfl) (.t .h) adI ll RN ?_
     refine aP ?_
     refine bnd hF fun pQ hx28 hF=>bJ (Pz hx28) (fun _=>?_)
     refine au ?_
     refine Ci hF (fun aBQ hF=>?_) (fun aBQ hF=>?_)
     · refine bC ?_
       refine dx rfl (bV (g:=true) cz.h cZ.h bN (vs:=[(zi qx)]) rfl rfl rfl (by intro v hv; simp at hv; rcases hv with rfl<;>rfl)) (fun wD=>?_)
       refine dH (.cons .h .nil) (bY (Ro:=(aj aH)) (E:=3) (F:=([]++[])) (xs:=([qx]:List Int)) (eF (jd (fun _=>rfl)) bX dm) rfl rfl) ?_
       refine bnd hF fun z31 hx32 hF=>dU (.cons (.t .h) (.cons .h .nil)) (ek (Ro:=(aj aH)) cz.h iL cZ.h rfl rfl rfl (.tmp rfl rfl) (.tmp rfl rfl) hx32 fM) (fun p33=>?_)
       refine bg ?_
       cases hF
       exact⟨_,p33.1,p33.2,_,rfl,ay,ax⟩
     refine au ?_
     cases hF
     exact⟨_,v7,F8,_,rfl,ay,ax⟩
   rintro _ _ ⟨tY,v36,F37,g38,rfl,rfl,hE⟩
   replace hF:=qQ
   try dsimp only at hF
   refine bH hE ?_
   refine aP ?_
   exact⟨m10,bO _,_,_,_,v36,F37,ay,ax,hF⟩
 refine bu ?_
 refine bnd hF fun OE vV hF=>fq (aaf vV) (fun p41=>?_)
 refine bC ?_
 refine bnd hF fun Ak qO hF=>fq (aad qO) (fun p44=>?_)
 refine bC ?_
 cases hF
 exact Er (p44.1,p44.2)
def PI(lH:List Int):Option (Reached):=
 (IX lH []).bind fun r2=>
 some (⟨[],r2,[],0⟩:Reached)
theorem aog{lH:List Int}{aa:Sv}{R:Reached}(hF:PI lH=some R):
   Fw.Spec Tryz.prog 196 [aa.v] [ag aa lH] (fun p:Sv×List Nat×Sv×List Nat×Sv×List Nat=>(zg [p.1.v,p.2.2.1.v,p.2.2.2.2.1.v,(zi R.Rounds)])) (fun p=>[fV p.2.1 p.1 R.Facts,a_ p.2.2.2.1 p.2.2.1 R.Values,wR p.2.2.2.2.2 p.2.2.2.2.1 R.Log]):=by
 refine Se 6 Tryz.func196 [.cell 2 160] ?_
 intro H0 F0
 unfold PI at hF
 refine au ?_
 refine dJ (fun k1=>?_)
 refine bC ?_
 refine dH .nil (BC (R:=aH) (E:=3)) ?_
 refine bnd hF fun r2 hx3 hF=>fq (@afE _ _ _ (⟨none,0,0⟩) _ hx3) (fun p4=>?_)
 refine aO (gy Cq.h rfl (vs:=[p4.1.v]) bN (cells:=[(.slice none 0 0),p4.1.v,(.slice none 0 0),(zi 0)]) rfl) ?_
 refine As (zg [(.slice none 0 0),p4.1.v,(.slice none 0 0),(zi 0)]) ?_
 refine bg ?_
 cases hF
 exact gL (⟨none,0,0⟩,[],p4.1,p4.2,⟨none,0,0⟩,[]) (.cellA rfl rfl .h rfl RQ.h Cq.h.sz rfl rfl .nil) rfl (.conv .nil (fH (Ro:=fP) (E:=147)) (.cons .nil) (.conv .nil (fH (Ro:=sJ) (E:=145)) (.cons .nil) (.sel (.cons (.t .h) (.cons .q2 (.cons .h .nil))))))
def EO(xG:List Int):List Int->Nat->(List (List Int))->Option ((List (List Int)))
 |[],DK,c91=>some c91
 |x99::Ch,DK,c91=>(xI xG).bind fun UD=>
   (app UD ([x99]:List Int)).bind fun aeF=>
   (app c91 ([aeF]:List (List Int))).bind fun z116=>
   EO xG Ch (DK+1) z116
def EP(eu:List Int):List (List Int)->Nat->(List (List Int))->Option ((List (List Int)))
 |[],wF,jP=>some jP
 |xG::Cj,wF,jP=>(EO xG eu 0 jP).bind fun o86=>
   match o86 with
   |UF=>EP eu Cj (wF+1) UF
def Jh(eu:List Int)(bT:Int):Nat->(List (List Int))->Int->Option ((List (List Int)))
 |0,_,_=>none
 |m7+1,c3,c6=>if (decide ((c6:Int)<bT))then (
     (EP eu c3 0 ([]:List (List Int))).bind fun nP=>
     match nP with
     |pg=>Jh eu bT m7 pg (IntKind.i64.wrap (c6+1)))
   else (
     some c3)
def Rc(eu:List Int)(bT:Int):Option ((List (List Int))):=
 Jh eu bT ((bT-0).toNat+2) ([([]:List Int)]:List (List Int)) 0
theorem arb{eu:List Int}{aa:Sv}{bT:Int}{R:(List (List Int))}(hF:Rc eu bT=some R):
   Fw.Spec Tryz.prog 297 [aa.v,(zi bT)] [ag aa eu] (fun p:Sv×List Nat=>p.1.v) (fun p=>[aD (az 22 (az 3 (aj aH))) p.2 p.1.v R]):=by
 refine Se 42 Tryz.func297 [.tmp 4] ?_
 intro H0 F0
 unfold Rc at hF
 refine aP ?_
 refine dx rfl (bV (g:=true) cz.h cZ.h .nil (vs:=[]) rfl rfl rfl (by simp)) (fun k1=>?_)
 refine dH (.cons .h .nil) (bY (Ro:=(aj aH)) (E:=3) (F:=[]) (xs:=([]:List Int)) bX rfl rfl) ?_
 refine dx rfl (bV (g:=true) vI.h lQ.h bN (vs:=[(.slice (some ⟨k1,0,none⟩) 0 1)]) rfl rfl rfl (by intro v hv; simp at hv; rcases hv with rfl<;>rfl)) (fun k2=>?_)
 refine dH (.cons .h (.cons .h .nil)) (bY (Ro:=(az 3 (aj aH))) (E:=22) (F:=((k1::[])++[])) (xs:=([([]:List Int)]:List (List Int))) (eF NB bX dm) rfl rfl) ?_
 refine bF ?_
 refine aY (bK (m:=((bT-0).toNat+2)) (fun m7 f' cs'=>∃(g:Fr)(c3:List (List Int))(c6:Int)(v4:Sv)(F5:List Nat),f'=aN g [(0,aa.v),(5,v4.v),(13,(zi bT)),(14,(zi c6))]/\aK cs' [ag aa eu,aD (az 22 (az 3 (aj aH))) F5 v4.v c3]/\Jh eu bT m7 c3 c6=some R) ⟨_,_,_,⟨(some ⟨k2,0,none⟩),1,1⟩,(k2::((k1::[])++[])),ay,ax,hF⟩ ?_)
 rintro m7 _ _ ⟨g8,c3,c6,v4,F5,rfl,hE,hF⟩
 refine bH hE ?_
 rcases m7 with _|m7
 · rw[Jh]at hF
   exact absurd hF (by simp)
 rw[Jh]at hF
 refine aP ?_
 refine Ci hF (fun acG hF=>?_) (fun acG hF=>?_)
 · refine au ?_
   obtain⟨nP,Ct,yK⟩:=bind_some hF
   refine fD (fun f' cs'=>∃(pg:List (List Int))(uR:Sv)(yL:List Nat)(g:Fr),pg=nP/\f'=aN g [(0,aa.v),(5,uR.v),(13,(zi bT)),(14,(zi c6))]/\aK cs' [ag aa eu,aD (az 22 (az 3 (aj aH))) yL uR.v pg]) ?_ ?_
   · replace hF:=Ct
     refine aY (cu (dx rfl (bV (g:=true) vI.h lQ.h .nil (vs:=[]) rfl rfl rfl (by simp)) (fun k17=>?_)))
     refine dH (.cons .h .nil) (bY (Ro:=(az 3 (aj aH))) (E:=22) (F:=[]) (xs:=([]:List (List Int))) bX rfl rfl) ?_
     refine eD ?_
     refine aY (jM .q2 bq ?_)
     refine bK (m:=c3.length) (fun m75 f' cs'=>∃(g:Fr)(wF:Nat)(Cj jP:List (List Int))(v72:Sv)(u_:List Nat),m75=Cj.length/\f'=aN g [(0,aa.v),(6,v72.v),(13,(zi bT)),(14,(zi c6)),(17,v4.v),(18,(zi (c3.length:Int))),(19,(zi (wF:Int)))]/\List.drop wF c3=Cj/\aK cs' [ag aa eu,aD (az 22 (az 3 (aj aH))) u_ v72.v jP,aR (aI 22 (aI 3 aH)) v4.v c3]/\EP eu Cj wF jP=some nP) ⟨_,0,_,_,⟨(some ⟨k17,0,none⟩),0,1⟩,(k17::[]),rfl,ay,rfl,ax,hF⟩ ?_
     rintro m75 _ _ ⟨g76,wF,Cj,jP,v72,u_,rfl,rfl,amx,hE,hF⟩
     refine Kb hE c3 (fun aFz=>?_)
     rcases Cj with _|⟨xG,Cj⟩
     · have aeu:=dn amx
       rw[EP]at hF
       refine aP ?_
       refine cO ?_
       refine eD ?_
       cases hF
       exact⟨_,v72,u_,_,rfl,ay,ax⟩
     obtain⟨aeu,aeq,KA⟩:=bW amx
     rw[EP]at hF
     refine aP ?_
     refine cK ?_
     refine au ?_
     obtain⟨o86,ay7,aBR⟩:=bind_some hF
     refine fD (fun f' cs'=>∃(UF:List (List Int))(ZH:Sv)(aeG:List Nat)(g:Fr),UF=o86/\f'=aN g [(0,aa.v),(6,ZH.v),(13,(zi bT)),(14,(zi c6)),(17,v4.v),(18,(zi (c3.length:Int))),(19,(zi (wF:Int)))]/\aK cs' [ag aa eu,aD (az 22 (az 3 (aj aH))) aeG ZH.v UF,aR (aI 22 (aI 3 aH)) v4.v c3]) ?_ ?_
     · replace hF:=ay7
       refine aY (cu (pY (a:=xG) vI.h lQ.h.sz (.tmp rfl rfl) (.tmp rfl rfl) .q2 (Int.natCast_nonneg wF) aeq (fun k88 j89=>?_)))
       refine wP (R':=(aI 3 aH)) iF.h (.tmp rfl rfl) .h Rs (fun w90=>?_)
       refine bF ?_
       refine aY (bK (m:=eu.length) (fun m95 f' cs'=>∃(g:Fr)(DK:Nat)(Ch:List Int)(c91:List (List Int))(DJ:Sv)(Lr:List Nat),m95=Ch.length/\f'=aN g [(0,aa.v),(6,DJ.v),(8,w90.v),(13,(zi bT)),(14,(zi c6)),(17,v4.v),(18,(zi (c3.length:Int))),(19,(zi (wF:Int))),(23,aa.v),(24,(zi (eu.length:Int))),(25,(zi (DK:Int)))]/\List.drop DK eu=Ch/\aK cs' [ag aa eu,aD (az 22 (az 3 (aj aH))) Lr DJ.v c91,ag w90 xG,aR (aI 22 (aI 3 aH)) v4.v c3]/\EO xG Ch DK c91=some o86) ⟨_,0,_,_,v72,u_,rfl,ay,rfl,ax,hF⟩ ?_)
       rintro m95 _ _ ⟨g96,DK,Ch,c91,DJ,Lr,rfl,rfl,akR,hE,hF⟩
       refine Kb hE eu (fun aCW=>?_)
       rcases Ch with _|⟨x99,Ch⟩
       · have ay8:=dn akR
         rw[EO]at hF
         refine aP ?_
         refine cO ?_
         refine aP ?_
         cases hF
         exact⟨_,DJ,Lr,_,rfl,ay,ax⟩
       obtain⟨ay8,hx102,ay9⟩:=bW akR
       rw[EO]at hF
       refine aP ?_
       refine cK ?_
       refine bC ?_
       refine Ai hx102 (fun aBG aIA=>?_)
       refine Al dG ?_
       refine aX ?_
       refine bnd hF fun UD SG hF=>fq (Ha SG) (fun UC=>?_)
       refine au ?_
       refine dx rfl (bV (g:=true) cz.h cZ.h bN (vs:=[(zi x99)]) rfl rfl rfl (by intro v hv; simp at hv; rcases hv with rfl<;>rfl)) (fun aIB=>?_)
       refine dH (.cons .h .nil) (bY (Ro:=(aj aH)) (E:=3) (F:=([]++[])) (xs:=([x99]:List Int)) (eF (jd (fun _=>rfl)) bX dm) rfl rfl) ?_
       refine bnd hF fun aeF hx113 hF=>dU (.cons (.t .h) (.cons .h .nil)) (ek (Ro:=(aj aH)) cz.h iL cZ.h rfl rfl rfl (.tmp rfl rfl) (.tmp rfl rfl) hx113 fM) (fun amy=>?_)
       refine dx rfl (bV (g:=true) vI.h lQ.h bN (vs:=[amy.1.v]) rfl rfl rfl (by intro v hv; simp at hv; rcases hv with rfl<;>rfl)) (fun aIC=>?_)
       refine dH (.cons .h (.cons .h .nil)) (bY (Ro:=(az 3 (aj aH))) (E:=22) (F:=(amy.2++[])) (xs:=([aeF]:List (List Int))) (eF NB bX dm) rfl rfl) ?_
       refine bnd hF fun z116 ay_ hF=>dU (.cons .q3 (.cons .h .nil)) (ek (Ro:=(az 3 (aj aH))) vI.h akd lQ.h rfl rfl rfl (.tmp rfl rfl) (.tmp rfl rfl) ay_ fM) (fun amz=>?_)
       refine bu ?_
       rw[wk DK]
       exact⟨_,bO _,_,DK+1,Ch,_,amz.1,amz.2,rfl,ay,ay9,ax,hF⟩
     rintro _ _ ⟨UF,ZH,aeG,aID,rfl,rfl,hE⟩
     replace hF:=aBR
     try dsimp only at hF
     refine bH hE ?_
     refine aP ?_
     rw[wk wF]
     exact⟨_,bO _,_,wF+1,Cj,_,ZH,aeG,rfl,ay,KA,ax,hF⟩
   rintro _ _ ⟨pg,uR,yL,aBS,rfl,rfl,hE⟩
   replace hF:=yK
   try dsimp only at hF
   refine bH hE ?_
   refine aP ?_
   exact⟨m7,bO _,_,_,_,uR,yL,ay,ax,hF⟩
 refine eG ?_
 cases hF
 exact Er (v4,F5)
def PK(ae:Access)(aL:Access):Option (Bool):=
 (bif ((ae.Method:Int)==aL.Method)then ((OY ae.Values aL.Values).bind fun r6=>
     some r6)
   else (some false)).bind fun o3=>
 match o3 with
 |c9=>some c9
theorem aoh{ae:Access}{aM:Sv}{aL:Access}{aW:Sv}{R:Bool}(hF:PK ae aL=some R):
   Fw.Spec Tryz.prog 315 [(zg [(zi ae.Method),aM.v]),(zg [(zi aL.Method),aW.v])] [ag aM ae.Values,ag aW aL.Values] (fun _:Unit=>(.bool R)) (fun _=>[]):=by
 refine Se 17 Tryz.func315 [.tmp 4] ?_
 intro H0 F0
 unfold PK at hF
 refine au ?_
 refine bM (fun k1=>?_)
 refine bM (fun k2=>?_)
 refine bg ?_
 obtain⟨o3,vX,hO4⟩:=bind_some hF
 refine au ?_
 refine gG (fun f' cs'=>∃(c9:Bool)(g:Fr),c9=o3/\f'=aN g [(4,(.bool c9))]/\aK cs' []) ?_ ?_
 · replace hF:=vX
   refine bu ?_
   rcases dK ((ae.Method:Int)==aL.Method)with hg5|hg5
   · rw[hg5]
     try rw[hg5]at hF; dsimp only[bB,bA]at hF
     refine eG ?_
     refine bnd hF fun r6 hx7 hF=>bJ (aeW hx7) (fun _=>?_)
     exact dw hF
   rw[hg5]
   try rw[hg5]at hF; dsimp only[bB,bA]at hF
   exact dw hF
 rintro _ _ ⟨c9,g10,rfl,rfl,hE⟩
 replace hF:=hO4
 try dsimp only at hF
 refine bH hE ?_
 exact ze hF
def Pp(di:Access)(aC:Access):Option (Bool):=
 (PK di aC).bind fun r2=>
 some r2
theorem an2{di:Access}{aM:Sv}{bD:Nat}{aC:Access}{eQ:Sv}{R:Bool}(hF:Pp di aC=some R):
   Fw.Spec Tryz.prog 314 [(zg [(zi di.Method),aM.v]),(pz bD)] [ag aM di.Values,aQ bD 145 (zg [(zi aC.Method),eQ.v]),ag eQ aC.Values] (fun _:Unit=>(.bool R)) (fun _=>[]):=by
 refine Se 7 Tryz.func314 [.tmp 3] ?_
 intro H0 F0
 unfold Pp at hF
 refine au ?_
 refine bM (fun k1=>?_)
 refine aX ?_
 refine bnd hF fun r2 hx3 hF=>bJ (aoh hx3) (fun _=>?_)
 exact ze hF
def LH(aC:Access):List Access->Nat->Option (Int)
 |[],k4=>some (-1)
 |x6::aJ,k4=>(Pp x6 aC).bind fun r16=>
   if r16 then (
     some (k4:Int))
   else (
     LH aC aJ (k4+1))
def VE(ah:List Access)(aC:Access):Option (Int):=
 LH aC ah 0
theorem amK{ah:List Access}{aa:Sv}{bD:Nat}{aC:Access}{eQ:Sv}{R:Int}(hF:VE ah aC=some R):
   Fw.Spec Tryz.prog 217 [aa.v,(.func (.func 314) [].toArray [(pz bD)].toArray)] [oI aa ah,aQ bD 145 (zg [(zi aC.Method),eQ.v]),ag eQ aC.Values] (fun _:Unit=>(zi R)) (fun _=>[]):=by
 refine Se 19 Tryz.func217 [.tmp 4] ?_
 intro H0 F0
 unfold VE at hF
 refine eG ?_
 refine aY (bK (m:=ah.length) (fun m2 f' cs'=>∃(g:Fr)(k4:Nat)(aJ:List Access),m2=aJ.length/\f'=aN g [(0,aa.v),(1,(.func (.func 314) [].toArray [(pz bD)].toArray)),(7,(zi (ah.length:Int))),(8,(zi (k4:Int)))]/\List.drop k4 ah=aJ/\aK cs' [oI aa ah,aQ bD 145 (zg [(zi aC.Method),eQ.v]),ag eQ aC.Values]/\LH aC aJ k4=some R) ⟨_,0,_,rfl,ay,rfl,ax,hF⟩ ?_)
 rintro m2 _ _ ⟨g3,k4,aJ,rfl,rfl,hd7,hE,hF⟩
 refine Kb hE ah (fun jV=>?_)
 rcases aJ with _|⟨x6,aJ⟩
 · have fB:=dn hd7
   rw[LH]at hF
   refine aP ?_
   refine cO ?_
   exact ze hF
 obtain⟨fB,dF,fw⟩:=bW hd7
 rw[LH]at hF
 refine aP ?_
 refine cK ?_
 refine jD ?_
 refine Ai dF (fun k13 lY=>?_)
 refine iw (PS x6) WC (fun jm=>?_)
 refine bnd hF fun r16 iX hF=>mX (.rd .h rfl (.rd .q3 rfl (.rd .q4 rfl .nil))) (lg axm.h (.tmp rfl rfl) bN (an2 iX)) (fun _=>?_)
 refine au ?_
 refine Ci hF (fun mI hF=>?_) (fun mI hF=>?_)
 · exact ze hF
 refine aX ?_
 rw[wk k4]
 exact⟨_,bO _,_,k4+1,aJ,rfl,ay,fw,ax,hF⟩
def OJ(ah:List Access)(aC:Access):Option (Bool):=
 (VE ah aC).bind fun r1=>
 some (decide ((0:Int)<=r1))
theorem amG{ah:List Access}{aa:Sv}{bD:Nat}{aC:Access}{eQ:Sv}{R:Bool}(hF:OJ ah aC=some R):
   Fw.Spec Tryz.prog 134 [aa.v,(.func (.func 314) [].toArray [(pz bD)].toArray)] [oI aa ah,aQ bD 145 (zg [(zi aC.Method),eQ.v]),ag eQ aC.Values] (fun _:Unit=>(.bool R)) (fun _=>[]):=by
 refine Se 9 Tryz.func134 [.tmp 4] ?_
 intro H0 F0
 unfold OJ at hF
 refine bu ?_
 refine bnd hF fun r1 hx2 hF=>bJ (amK hx2) (fun _=>?_)
 exact ze hF
def MP(ai:List Access)(ae:Access):Option (Bool):=
 (OJ ai ae).bind fun r2=>
 some r2
theorem aoL{ai:List Access}{aa:Sv}{ae:Access}{aW:Sv}{R:Bool}(hF:MP ai ae=some R):
   Fw.Spec Tryz.prog 298 [aa.v,(zg [(zi ae.Method),aW.v])] [oI aa ai,ag aW ae.Values] (fun _:Unit=>(.bool R)) (fun _=>[]):=by
 refine Se 8 Tryz.func298 [.tmp 4] ?_
 intro H0 F0
 unfold MP at hF
 refine au ?_
 refine bM (fun k1=>?_)
 refine aP ?_
 refine aO (rC (fn:=.func 314) (vs:=[]) (us:=[(pz k1)]) .nil bN) ?_
 refine bnd hF fun r2 hx3 hF=>bJ (amG hx3) (fun _=>?_)
 exact ze hF
def Aw(bG:Reached)(k9:Nat):List (List Int)->Nat->(List Access)->Option ((List Access))
 |[],kY,vo=>some vo
 |tO::mV,kY,vo=>((MP bG.Log (⟨(k9:Int),tO⟩:Access)).bind fun y_=>
     if (!y_)then (
       (app vo ([(⟨(k9:Int),tO⟩:Access)]:List Access)).bind fun z71=>
       some z71)
     else (
       some vo)).bind fun o59=>
   match o59 with
   |c75=>Aw bG k9 mV (kY+1) c75
def D8(bG:Reached):List Method->Nat->(List Access)->Option ((List Access))
 |[],k9,c3=>some c3
 |eP::dM,k9,c3=>(if ((eP.Limit:Int)!=0)then (
       some c3)
     else (
       (Rc bG.Values (eP.Inputs.length:Int)).bind fun kJ=>
       Aw bG k9 kJ 0 c3)).bind fun iH=>
   match iH with
   |rz=>D8 bG dM (k9+1) rz
def Mh(bG:Reached)(ai:List Method):Option ((List Access)):=
 D8 bG ai 0 ([]:List Access)
theorem anP{bG:Reached}{aa aM gK:Sv}{ai:List Method}{aA:Sv}{R:(List Access)}(hF:Mh bG ai=some R):
   Fw.Spec Tryz.prog 263 [(zg [aa.v,aM.v,gK.v,(zi bG.Rounds)]),aA.v] [dD aa bG.Facts,ag aM bG.Values,oI gK bG.Log,dO aA ai] (fun p:Sv×List Nat=>p.1.v) (fun p=>[wR p.2 p.1 R]):=by
 refine Se 48 Tryz.func263 [.tmp 4] ?_
 intro H0 F0
 unfold Mh at hF
 refine au ?_
 refine bM (fun k1=>?_)
 refine bC ?_
 refine dx rfl (bV (g:=true) nI.h kQ.h .nil (vs:=[]) rfl rfl rfl (by simp)) (fun k2=>?_)
 refine dH (.cons .h .nil) (bY (Ro:=sJ) (E:=145) (F:=[]) (xs:=([]:List Access)) bX rfl rfl) ?_
 refine eD ?_
 refine aY (bK (m:=ai.length) (fun m7 f' cs'=>∃(g:Fr)(k9:Nat)(dM:List Method)(c3:List Access)(v4:Sv)(F5:List Nat),m7=dM.length/\f'=aN g [(2,(pz k1)),(5,v4.v),(12,aA.v),(13,(zi (ai.length:Int))),(14,(zi (k9:Int)))]/\List.drop k9 ai=dM/\aK cs' [aQ k1 160 (zg [aa.v,aM.v,gK.v,(zi bG.Rounds)]),dD aa bG.Facts,ag aM bG.Values,oI gK bG.Log,wR F5 v4 c3,dO aA ai]/\D8 bG dM k9 c3=some R) ⟨_,0,_,_,⟨(some ⟨k2,0,none⟩),0,1⟩,(k2::[]),rfl,ay,rfl,ax,hF⟩ ?_)
 rintro m7 _ _ ⟨g8,k9,dM,c3,v4,F5,rfl,rfl,j4,hE,hF⟩
 refine Kb hE ai (fun FE=>?_)
 rcases dM with _|⟨eP,dM⟩
 · have qR:=dn j4
   rw[D8]at hF
   refine aP ?_
   refine cO ?_
   refine eG ?_
   cases hF
   exact Er (v4,F5)
 obtain⟨qR,iA,nX⟩:=bW j4
 rw[D8]at hF
 refine aP ?_
 refine cK ?_
 refine au ?_
 obtain⟨iH,qD,qQ⟩:=bind_some hF
 refine fD (fun f' cs'=>∃(rz:List Access)(v83:Sv)(Dt:List Nat)(g:Fr),rz=iH/\f'=aN g [(2,(pz k1)),(5,v83.v),(12,aA.v),(13,(zi (ai.length:Int))),(14,(zi (k9:Int)))]/\aK cs' [aQ k1 160 (zg [aa.v,aM.v,gK.v,(zi bG.Rounds)]),dD aa bG.Facts,ag aM bG.Values,oI gK bG.Log,wR Dt v83 rz,dO aA ai]) ?_ ?_
 · replace hF:=qD
   refine aY (cu (Cm (zi (k9:Int)) rfl rfl ?_))
   refine Ai iA (fun k20 uY=>?_)
   refine iw (wJ eP) xR (fun mP=>?_)
   refine dJ (fun k23=>?_)
   refine au ?_
   refine As (zg [(zi eP.Rel),mP.v,(zi eP.Limit),(zi eP.Cost),(zi eP.Quota)]) ?_
   refine bF ?_
   refine Ci hF (fun aBT hF=>?_) (fun aBT hF=>?_)
   · refine bC ?_
     cases hF
     exact⟨_,v4,F5,_,rfl,ay,ax⟩
   refine bF ?_
   refine bnd hF fun kJ hx25 hF=>fq (arb hx25) (fun p26=>?_)
   refine bC ?_
   refine aY (avL (s:=1) .h (fun aeH G42=>?_))
   refine bK (m:=kJ.length) (fun Vl f' cs'=>∃(g:Fr)(kY:Nat)(mV:List (List Int))(vo:List Access)(v44:Sv)(GZ G46:List Nat),Vl=mV.length/\f'=aN g [(2,(pz k1)),(5,v44.v),(6,(zi (k9:Int))),(12,aA.v),(13,(zi (ai.length:Int))),(14,(zi (k9:Int))),(27,p26.1.v),(28,(zi (kJ.length:Int))),(29,(zi (kY:Int)))]/\List.drop kY kJ=mV/\aK cs' [aQ k1 160 (zg [aa.v,aM.v,gK.v,(zi bG.Rounds)]),dD aa bG.Facts,ag aM bG.Values,oI gK bG.Log,wR GZ v44 vo,dO aA ai,qL 22 1 (az 3 (aj aH)) G46 p26.1.v aeH kJ.length kY mV]/\Aw bG k9 mV kY vo=some iH) ⟨_,0,_,_,v4,F5,G42,rfl,ay,rfl,ax,hF⟩ ?_
   rintro Vl _ _ ⟨g49,kY,mV,vo,v44,GZ,G46,rfl,rfl,Uu,hE,hF⟩
   refine bH hE ?_
   refine uu (c:=qL 22 1 (az 3 (aj aH)) G46 p26.1.v aeH kJ.length kY mV) .q6 aq3 (fun ayo=>?_)
   rcases mV with _|⟨tO,mV⟩
   · have ad':=dn Uu
     rw[Aw]at hF
     refine aP ?_
     refine cO ?_
     refine aP ?_
     cases hF
     exact⟨_,v44,GZ,_,rfl,ay,ax⟩
   obtain⟨ad',ma,aea⟩:=bW Uu
   rw[Aw]at hF
   refine aP ?_
   refine cK ?_
   refine au ?_
   obtain⟨o59,ay',aBU⟩:=bind_some hF
   refine fD (fun f' cs'=>∃(c75:List Access)(v76:Sv)(K_ F78:List Nat)(g:Fr),c75=o59/\f'=aN g [(2,(pz k1)),(5,v76.v),(6,(zi (k9:Int))),(12,aA.v),(13,(zi (ai.length:Int))),(14,(zi (k9:Int))),(27,p26.1.v),(28,(zi (kJ.length:Int))),(29,(zi (kY:Int)))]/\aK cs' [aQ k1 160 (zg [aa.v,aM.v,gK.v,(zi bG.Rounds)]),dD aa bG.Facts,ag aM bG.Values,oI gK bG.Log,wR K_ v76 c75,dO aA ai,qL 22 1 (az 3 (aj aH)) F78 p26.1.v aeH kJ.length (kY+1) mV]) ?_ ?_
   · replace hF:=ay'
     refine aY (cu (asS asa .q6 (fun p61 G62 aBV=>?_)))
     refine pY (R:=kP 1) (a:=p61.1.v) vI.h lQ.h.sz (.tmp rfl rfl) (.tmp rfl rfl) (.t .h) (Int.natCast_nonneg kY) (atL aBV) (fun k64 j65=>?_)
     refine Al (atM rfl) ?_
     refine aX ?_
     refine aO (gy kQ.h rfl (vs:=[(zi (k9:Int)),p61.1.v]) bN (cells:=[(zi (k9:Int)),p61.1.v]) rfl) ?_
     refine dJ (fun k66=>?_)
     refine As (zg [(zi (k9:Int)),p61.1.v]) ?_
     refine aX ?_
     refine bnd hF fun y_ Ko hF=>dU (.cons .q2 (.rd .q7 rfl .nil)) (gH bq (fun _=>.nil) (jA (.rd (.t .h) rfl (.rd .h rfl .nil)) (bU axl.h bN (aoL Ko)))) (fun _=>?_)
     refine bg ?_
     refine Ci hF (fun aeI hF=>?_) (fun aeI hF=>?_)
     · refine bC ?_
       refine dx rfl (bV (g:=true) nI.h kQ.h bN (vs:=[(zg [(zi (k9:Int)),p61.1.v])]) rfl rfl rfl (by intro v hv; simp at hv; rcases hv with rfl<;>rfl)) (fun ww=>?_)
       refine dH (.cons .h (.cons .h .nil)) (bY (Ro:=sJ) (E:=145) (F:=(p61.2++[])) (xs:=([(⟨(k9:Int),tO⟩:Access)]:List Access)) (eF (ake (a:=(⟨(k9:Int),tO⟩:Access))) bX dm) rfl rfl) ?_
       refine bnd hF fun z71 aBW hF=>dU (.cons .q9 (.cons .h .nil)) (ek (Ro:=sJ) nI.h Y1 kQ.h rfl rfl rfl (.tmp rfl rfl) (.tmp rfl rfl) aBW fM) (fun p73=>?_)
       refine bg ?_
       cases hF
       exact⟨_,p73.1,p73.2,G62,_,rfl,ay,ax⟩
     refine au ?_
     cases hF
     exact⟨_,v44,GZ,G62,_,rfl,ay,ax⟩
   rintro _ _ ⟨c75,v76,K_,F78,g80,rfl,rfl,hE⟩
   replace hF:=aBU
   try dsimp only at hF
   refine bH hE ?_
   refine aP ?_
   rw[wk kY]
   exact⟨_,bO _,_,kY+1,mV,_,v76,K_,F78,rfl,ay,aea,ax,hF⟩
 rintro _ _ ⟨rz,v83,Dt,g86,rfl,rfl,hE⟩
 replace hF:=qQ
 try dsimp only at hF
 refine bH hE ?_
 refine aP ?_
 rw[wk k9]
 exact⟨_,bO _,_,k9+1,dM,_,v83,Dt,rfl,ay,nX,ax,hF⟩
def Ip(aU:Fact)(bz:Access):List Int->Nat->Option (Bool)
 |[],k5=>some false
 |x7::bR,k5=>(ix aU.Values x7).bind fun jG=>
   (ix bz.Values (k5:Int)).bind fun pK=>
   if ((jG:Int)!=pK)then (
     some true)
   else (
     Ip aU bz bR (k5+1))
def xO(aU:Fact)(aC:Method)(bz:Access):Option (Bool):=
 if ((aU.Rel:Int)!=aC.Rel)then (
   some true)
 else (
   Ip aU bz aC.Inputs 0)
theorem afU{aU:Fact}{aM:Sv}{bD:Nat}{aC:Method}{eQ:Sv}{dQ:Nat}{bz:Access}{iK:Sv}{R:Bool}(hF:xO aU aC bz=some R):
   Fw.Spec Tryz.prog 300 [(zg [(zi aU.Rel),aM.v]),(pz bD),(pz dQ)] [ag aM aU.Values,aQ bD 89 (zg [(zi aC.Rel),eQ.v,(zi aC.Limit),(zi aC.Cost),(zi aC.Quota)]),ag eQ aC.Inputs,aQ dQ 145 (zg [(zi bz.Method),iK.v]),ag iK bz.Values] (fun _:Unit=>(.bool R)) (fun _=>[]):=by
 refine Se 32 Tryz.func300 [.tmp 4] ?_
 intro H0 F0
 unfold xO at hF
 refine au ?_
 refine bM (fun k1=>?_)
 refine jD ?_
 refine Ci hF (fun CR hF=>?_) (fun CR hF=>?_)
 · exact ze hF
 refine eD ?_
 refine aY (bK (m:=aC.Inputs.length) (fun m3 f' cs'=>∃(g:Fr)(k5:Nat)(bR:List Int),m3=bR.length/\f'=aN g [(2,(pz dQ)),(3,(pz k1)),(13,eQ.v),(14,(zi (aC.Inputs.length:Int))),(15,(zi (k5:Int)))]/\List.drop k5 aC.Inputs=bR/\aK cs' [aQ dQ 145 (zg [(zi bz.Method),iK.v]),ag iK bz.Values,aQ k1 147 (zg [(zi aU.Rel),aM.v]),ag aM aU.Values,ag eQ aC.Inputs]/\Ip aU bz bR k5=some R) ⟨_,0,_,rfl,ay,rfl,ax,hF⟩ ?_)
 rintro m3 _ _ ⟨g4,k5,bR,rfl,rfl,iR,hE,hF⟩
 refine Kb hE aC.Inputs (fun wU=>?_)
 rcases bR with _|⟨x7,bR⟩
 · have lW:=dn iR
   rw[Ip]at hF
   refine aP ?_
   refine cO ?_
   exact ze hF
 obtain⟨lW,fU,fZ⟩:=bW iR
 rw[Ip]at hF
 refine aP ?_
 refine cK ?_
 refine aP ?_
 refine Ai fU (fun k14 GQ=>?_)
 refine Al dG ?_
 refine bC ?_
 refine dS [0,1,2,3,4,5,6,7,8,9,10] [0,1,0,7,15,0,32,0,224,480,1023] [] mixed (by decide+kernel) ?_
 refine fT ?_
 refine zI hF fun jG Od nK hF=>?_
 refine Di nK (fun k20 uY=>?_)
 refine Dl dG ?_
 refine fT ?_
 refine zI hF fun pK adG hx25 hF=>?_
 refine Di hx25 (fun k26 j27=>?_)
 refine Dl dG ?_
 refine cB ?_
 refine Ci hF (fun Uf hF=>?_) (fun Uf hF=>?_)
 · exact ze hF
 refine aX ?_
 rw[wk k5]
 exact⟨_,bO _,_,k5+1,bR,rfl,ay,fZ,ax,hF⟩
def LP(aC:Method)(bz:Access):List Fact->Nat->Option (Int)
 |[],k4=>some (-1)
 |x6::aJ,k4=>(xO x6 aC bz).bind fun r16=>
   if r16 then (
     some (k4:Int))
   else (
     LP aC bz aJ (k4+1))
def aaa(ah:List Fact)(aC:Method)(bz:Access):Option (Int):=
 LP aC bz ah 0
theorem amX{ah:List Fact}{aa:Sv}{bD:Nat}{aC:Method}{eQ:Sv}{dQ:Nat}{bz:Access}{iK:Sv}{R:Int}(hF:aaa ah aC bz=some R):
   Fw.Spec Tryz.prog 258 [aa.v,(.func (.func 300) [].toArray [(pz bD),(pz dQ)].toArray)] [dD aa ah,aQ bD 89 (zg [(zi aC.Rel),eQ.v,(zi aC.Limit),(zi aC.Cost),(zi aC.Quota)]),ag eQ aC.Inputs,aQ dQ 145 (zg [(zi bz.Method),iK.v]),ag iK bz.Values] (fun _:Unit=>(zi R)) (fun _=>[]):=by
 refine Se 19 Tryz.func258 [.tmp 4] ?_
 intro H0 F0
 unfold aaa at hF
 refine eG ?_
 refine aY (bK (m:=ah.length) (fun m2 f' cs'=>∃(g:Fr)(k4:Nat)(aJ:List Fact),m2=aJ.length/\f'=aN g [(0,aa.v),(1,(.func (.func 300) [].toArray [(pz bD),(pz dQ)].toArray)),(7,(zi (ah.length:Int))),(8,(zi (k4:Int)))]/\List.drop k4 ah=aJ/\aK cs' [dD aa ah,aQ bD 89 (zg [(zi aC.Rel),eQ.v,(zi aC.Limit),(zi aC.Cost),(zi aC.Quota)]),ag eQ aC.Inputs,aQ dQ 145 (zg [(zi bz.Method),iK.v]),ag iK bz.Values]/\LP aC bz aJ k4=some R) ⟨_,0,_,rfl,ay,rfl,ax,hF⟩ ?_)
 rintro m2 _ _ ⟨g3,k4,aJ,rfl,rfl,hd7,hE,hF⟩
 refine Kb hE ah (fun jV=>?_)
 rcases aJ with _|⟨x6,aJ⟩
 · have fB:=dn hd7
   rw[LP]at hF
   refine aP ?_
   refine cO ?_
   exact ze hF
 obtain⟨fB,dF,fw⟩:=bW hd7
 rw[LP]at hF
 refine aP ?_
 refine cK ?_
 refine jD ?_
 refine Ai dF (fun k13 lY=>?_)
 refine iw (ky x6) kL (fun jm=>?_)
 refine bnd hF fun r16 iX hF=>mX (.rd .h rfl (.rd .q3 rfl (.rd .q4 rfl (.rd .q5 rfl (.rd .q6 rfl .nil))))) (lg akp.h (.tmp rfl rfl) bN (afU iX)) (fun _=>?_)
 refine au ?_
 refine Ci hF (fun mI hF=>?_) (fun mI hF=>?_)
 · exact ze hF
 refine aX ?_
 rw[wk k4]
 exact⟨_,bO _,_,k4+1,aJ,rfl,ay,fw,ax,hF⟩
def VI(ah:List Fact)(aC:Method)(bz:Access):Option (List Fact):=
 N9 (fun ak=>xO ak aC bz) ah
theorem amT(qs:List (Value×Fact))(v:Sv)(F:List Nat)(bD:Nat)(aC:Method)(eQ:Sv)(dQ:Nat)(bz:Access)(iK:Sv)(p:Value×Fact->Bool)(hcl:∀q∈qs,xO q.2 aC bz=some (p q))(hidx:aaa (qs.map Prod.snd) aC bz=some (jE p qs 0))(hbd:qs.length<4611686018427387904):
   Fw.Spec Tryz.prog 299 [v.v,(.func (.func 300) [].toArray [(.pointer (some ⟨bD,0,some 0⟩)),(.pointer (some ⟨dQ,0,some 0⟩))].toArray)] [aD (az 147 (aj (rq dW))) F v.v qs,aQ bD 89 (.agg [(.int .i64 aC.Rel),eQ.v,(.int .i64 aC.Limit),(.int .i64 aC.Cost),(.int .i64 aC.Quota)].toArray),aR (aI 3 aH) eQ.v aC.Inputs,aQ dQ 145 (.agg [(.int .i64 bz.Method),iK.v].toArray),aR (aI 3 aH) iK.v bz.Values] (fun q:Sv×List Nat=>q.1.v) (fun q=>[aD (az 147 (aj (rq dW))) q.2 q.1.v (qs.filter fun a=>!p a)]):=by
 refine MV (n:=42) Tryz.func299 rfl rfl (rs:=[.tmp 4]) rfl rfl rfl ?_
 intro H0 F0
 refine cu ?_
 refine aO (iZ (v:=(.slice none 0 0)) EV.nilSlice) ?_
 refine dI ?_
 refine cu ?_
 refine aO (eH (v:=v.v) (.tmp rfl rfl)) ?_
 refine aO (eH (v:=(.func (.func 300) [].toArray [(.pointer (some ⟨bD,0,some 0⟩)),(.pointer (some ⟨dQ,0,some 0⟩))].toArray)) (.tmp rfl rfl)) ?_
 refine dU (.cons .h (.rd .h rfl (.rd (.t .h) rfl (.rd (.t (.t .h)) rfl (.rd (.t (.t (.t .h))) rfl .nil))))) (asK atJ (fun _=>.nil) (jA (.rd (.t (.t (.t (.t .h)))) rfl (.rd .h rfl (.rd (.t .h) rfl (.rd (.t (.t .h)) rfl (.rd (.t (.t (.t .h))) rfl .nil))))) (bU akk.h (.cons (.tmp rfl rfl) (.cons (.tmp rfl rfl) .nil)) (@amX (qs.map Prod.snd) v bD aC eQ dQ bz iK _ hidx)))) (fun _=>?_)
 generalize hR:jE p qs 0=R0
 refine aO (iZ (v:=(.int .i64 R0)) (.tmp rfl rfl)) ?_
 refine dI ?_
 refine h_ ?_
 refine cu ?_
 refine aO (eH (v:=(.int .i64 R0)) (.tmp rfl rfl)) ?_
 refine aO (Jw (i:=R0) (j:=(-1)) (.tmp rfl rfl) (.int _ _)) ?_
 refine dI ?_
 refine jc (b:=(R0==(-1:Int))) (.tmp rfl rfl) (fun hb=>?_) (fun hb=>?_)
 · refine cu ?_
   refine aO (eH (v:=v.v) (.tmp rfl rfl)) ?_
   refine aO (iZ (v:=v.v) (.tmp rfl rfl)) ?_
   refine dI ?_
   refine Fv ?_
   have e:qs.filter (fun q=>!p q)=qs:=ahZ (k:=0) (by rw[hR]; simpa using hb)
   rw[e]
   exact gL (v,F) (.tmp rfl rfl .nil) rfl (.sel (.cons .h .nil))
 refine nC ?_
 obtain⟨i0,hi0,hi1⟩:∃i:Nat,R0=(i:Int)/\i<qs.length:=by
   rcases ahl p qs 0 with h|⟨i,h,hi⟩
   · rw[hR]at h; subst h; simp at hb
   · exact⟨i,by rw[←hR,h],by omega⟩
 subst hi0
 refine h_ ?_
 refine cu ?_
 refine aO (eH (v:=(.int .i64 (i0:Int))) (.tmp rfl rfl)) ?_
 refine aO (mq (i:=(i0:Int)) (j:=1) (.tmp rfl rfl) (.int _ _)) ?_
 rw[show IntKind.i64.wrap ((i0:Int)+1)=((i0+1:Nat):Int)from by rw[fo (by omega) (by omega)]; rfl]
 refine aO (iZ (v:=(.int .i64 ((i0+1:Nat):Int))) (.tmp rfl rfl)) ?_
 refine dI ?_
 refine aY ?_
 refine bK (m:=qs.length-(i0+1)) (fun m f' cs'=>∃(g:Fr)(cur:List (Value×Fact))(i j:Nat)(F':List Nat),m=qs.length-j/\f'=aN g [(0,v.v),(1,(.func (.func 300) [].toArray [(.pointer (some ⟨bD,0,some 0⟩)),(.pointer (some ⟨dQ,0,some 0⟩))].toArray)),(5,(.int .i64 (i:Int))),(6,(.int .i64 (j:Int)))]/\uN p qs cur i j/\aK cs' [aD (az 147 (aj (rq dW))) F' v.v cur,aQ bD 89 (.agg [(.int .i64 aC.Rel),eQ.v,(.int .i64 aC.Limit),(.int .i64 aC.Cost),(.int .i64 aC.Quota)].toArray),aR (aI 3 aH) eQ.v aC.Inputs,aQ dQ 145 (.agg [(.int .i64 bz.Method),iK.v].toArray),aR (aI 3 aH) iK.v bz.Values]) ⟨_,qs,i0,i0+1,F,rfl,(aG.cons rfl (aG.cons rfl (aG.cons rfl (aG.cons rfl (aG.nil))))).eq,uN.init (by rw[hR]),.sel (.cons .h (.rd .h rfl (.rd (.t .h) rfl (.rd (.t (.t .h)) rfl (.rd (.t (.t (.t .h))) rfl .nil)))))⟩ ?_
 rintro m _ _ ⟨g,cur,i,j,F',rfl,rfl,hI,hE⟩
 refine bH hE ?_
 clear hE
 refine h_ ?_
 refine cu ?_
 refine aO (eH (v:=(.int .i64 (j:Int))) (.tmp rfl rfl)) ?_
 refine aO (eH (v:=v.v) (.tmp rfl rfl)) ?_
 refine fQ .h (fun hp=>jU (l:=cur.length) dX.h (.tmp rfl rfl) (uh hp)) ?_
 refine aO (mr (i:=(j:Int)) (j:=(cur.length:Int)) (.tmp rfl rfl) (.tmp rfl rfl)) ?_
 refine dI ?_
 have hlen:=hI.len
 have hij:=hI.lt
 have hjl:=hI.le
 refine jc (b:=(decide ((j:Int)<(cur.length:Int)))) (.tmp rfl rfl) (fun hb2=>?_) (fun hb2=>?_)
 · refine nC ?_
   have hj:j<qs.length:=by simp at hb2; omega
   obtain⟨x,hx1,hx2⟩:=hI.at hj
   refine Bh ?_
   refine cu ?_
   refine aO (eH (v:=v.v) (.tmp rfl rfl)) ?_
   refine aO (eH (v:=(.int .i64 (j:Int))) (.tmp rfl rfl)) ?_
   refine qA dX.h dA.h.sz (.tmp rfl rfl) (.tmp rfl rfl) .h (by simp; omega) (fun k hk=>?_)
   refine atI (a:=x) (ul:=fun i:Sv=>[(.int .i64 x.2.Rel),i.v]) (cc:=fun i=>[aR (aI 3 aH) i.v x.2.Values]) qb.h dA.h.sz rfl (.tmp rfl rfl) .h hk (by simpa using hx1) (fun H e h=>by obtain⟨-,v0,h1,h0⟩:=h; exact⟨v0,h1,rfl,by simp[aR,h0]⟩) (fun w=>?_)
   refine dx rfl (sD (g:=true) dA.h rfl rfl) (fun k1=>?_)
   refine dU (.cons .h .nil) (gF (e:=(.agg [(.int .i64 0),(.slice none 0 0)].toArray)) (e':=(.agg [(.int .i64 x.2.Rel),w.v].toArray)) (v:=(.agg [(.int .i64 x.2.Rel),w.v].toArray)) dA.h.sz (.tmp rfl rfl) (.tmp rfl rfl) rfl rfl rfl rfl rfl) (fun _=>?_)
   refine dI ?_
   refine cu ?_
   refine aO (eH (v:=(.func (.func 300) [].toArray [(.pointer (some ⟨bD,0,some 0⟩)),(.pointer (some ⟨dQ,0,some 0⟩))].toArray)) (.tmp rfl rfl)) ?_
   refine fQ .h (fun hp=>jw qb.h dA.h.sz rfl (.tmp rfl rfl) hp.2 rfl) ?_
   refine mX (.rd (.t (.t .h)) rfl (.rd (.t (.t (.t (.t .h)))) rfl (.rd (.t (.t (.t (.t (.t .h))))) rfl (.rd (.t (.t (.t (.t (.t (.t .h)))))) rfl (.rd (.t (.t (.t (.t (.t (.t (.t .h))))))) rfl .nil))))) (lg akp.h (.tmp rfl rfl) (.cons (.tmp rfl rfl) .nil) (@afU x.2 w bD aC eQ dQ bz iK _ (hcl x (List.mem_of_getElem? hx2)))) (fun _=>?_)
   refine aO (RD (b:=p x) (.tmp rfl rfl)) ?_
   refine dI ?_
   refine jc (b:=(!p x)) (.tmp rfl rfl) (fun hb3=>?_) (fun hb3=>?_)
   · refine cu ?_
     refine aO (eH (v:=v.v) (.tmp rfl rfl)) ?_
     refine aO (eH (v:=(.int .i64 (i:Int))) (.tmp rfl rfl)) ?_
     refine fQ .h (fun hp=>jw qb.h dA.h.sz rfl (.tmp rfl rfl) hp.2 rfl) ?_
     have hii:(decide ((0:Int)<=(i:Int))&&decide ((i:Int)<(cur.length:Int)))=true:=by simp; omega
     refine qA dX.h dA.h.sz (.tmp rfl rfl) (.tmp rfl rfl) (.t (.t (.t .h))) hii (fun k2 hk2=>?_)
     refine dU (.cons (.t (.t (.t .h))) (.rd (.t .h) rfl .nil)) (Nh (Ro:=aj (rq dW)) (a:=x) (i:=(i:Int)) dA.h.sz rfl (.tmp rfl rfl) (.tmp rfl rfl) hk2 hii acu (fun _ _ _ _ h=>by obtain⟨-,-,v0,rfl,_⟩:=h; rfl)) (fun F2=>?_)
     refine dI ?_
     refine nQ ?_
     refine aO (eH (v:=(.int .i64 (i:Int))) (.tmp rfl rfl)) ?_
     refine aO (mq (i:=(i:Int)) (j:=1) (.tmp rfl rfl) (.int _ _)) ?_
     rw[show IntKind.i64.wrap ((i:Int)+1)=((i+1:Nat):Int)from by rw[fo (by omega) (by omega)]; rfl]
     refine aO (iZ (v:=(.int .i64 ((i+1:Nat):Int))) (.tmp rfl rfl)) ?_
     refine dI ?_
     refine nQ ?_
     refine aO (eH (v:=(.int .i64 (j:Int))) (.tmp rfl rfl)) ?_
     refine aO (mq (i:=(j:Int)) (j:=1) (.tmp rfl rfl) (.int _ _)) ?_
     rw[show IntKind.i64.wrap ((j:Int)+1)=((j+1:Nat):Int)from by rw[fo (by omega) (by omega)]; rfl]
     refine aO (iZ (v:=(.int .i64 ((j+1:Nat):Int))) (.tmp rfl rfl)) ?_
     refine dI ?_
     exact⟨_,by omega,_,cur.set i x,i+1,j+1,F2,rfl,(aG.cons rfl (aG.cons rfl (aG.cons rfl (aG.cons rfl (aG.nil))))).eq,hI.no hx2 (by simpa using hb3),.sel (.cons .h (.rd (.t (.t (.t .h))) rfl (.rd (.t (.t (.t (.t .h)))) rfl (.rd (.t (.t (.t (.t (.t .h))))) rfl (.rd (.t (.t (.t (.t (.t (.t .h)))))) rfl .nil)))))⟩
   · refine nC ?_
     refine nQ ?_
     refine aO (eH (v:=(.int .i64 (j:Int))) (.tmp rfl rfl)) ?_
     refine aO (mq (i:=(j:Int)) (j:=1) (.tmp rfl rfl) (.int _ _)) ?_
     rw[show IntKind.i64.wrap ((j:Int)+1)=((j+1:Nat):Int)from by rw[fo (by omega) (by omega)]; rfl]
     refine aO (iZ (v:=(.int .i64 ((j+1:Nat):Int))) (.tmp rfl rfl)) ?_
     refine dI ?_
     exact⟨_,by omega,_,cur,i,j+1,F',rfl,(aG.cons rfl (aG.cons rfl (aG.cons rfl (aG.cons rfl (aG.nil))))).eq,hI.yes hx2 (by simpa using hb3),.sel (.cons (.t (.t (.t .h))) (.rd (.t (.t (.t .h))) rfl (.rd (.t (.t (.t (.t .h)))) rfl (.rd (.t (.t (.t (.t (.t .h))))) rfl (.rd (.t (.t (.t (.t (.t (.t .h)))))) rfl .nil)))))⟩
 · refine vD ?_
   refine uf ?_
   refine uf ?_
   refine vC ?_
   have hj:qs.length<=j:=by simp at hb2; omega
   refine uu .h (abt (by intro e; rw[e]at hlen; simp at hlen; omega)) (fun hv=>?_)
   obtain⟨k0,m0,rfl,hm0⟩:=hv
   refine cu ?_
   refine aO (eH (v:=(.slice (some ⟨k0,0,none⟩) cur.length m0)) (.tmp rfl rfl)) ?_
   refine aO (eH (v:=(.int .i64 (i:Int))) (.tmp rfl rfl)) ?_
   refine arD dX.h dA.h.sz (.tmp rfl rfl) (.tmp rfl rfl) .h (by omega) (by omega) ?_
   refine dU (.cons .h .nil) (asP (l:=cur.length) (m:=m0) (k:=k0) (i:=i) (j:=cur.length-i) dX.h dA.h rfl rfl rfl rfl rfl (by omega) (.tmp rfl rfl)) (fun _=>?_)
   refine dI ?_
   refine cu ?_
   refine aO (eH (v:=(.slice (some ⟨k0,0,none⟩) cur.length m0)) (.tmp rfl rfl)) ?_
   refine aO (eH (v:=(.int .i64 (i:Int))) (.tmp rfl rfl)) ?_
   refine arE dX.h dA.h.sz (.tmp rfl rfl) hm0 (.tmp rfl rfl) .h rfl (by omega) (by omega) (by omega) ?_
   refine aO (iZ (v:=(.slice (some ⟨k0,0,none⟩) i 2)) (.tmp rfl rfl)) ?_
   refine dI ?_
   refine Fv ?_
   rw[←hI.fin hj]
   exact gL (⟨some ⟨k0,0,none⟩,i,2⟩,F') (.tmp rfl rfl .nil) rfl (.sel (.cons .h .nil))
theorem amU{ah:List Fact}{aa:Sv}{rQ:List Nat}{bD:Nat}{aC:Method}{eQ:Sv}{dQ:Nat}{bz:Access}{iK:Sv}{R:List Fact}(hF:VI ah aC bz=some R):
   Fw.Spec Tryz.prog 299 [aa.v,(.func (.func 300) [].toArray [(.pointer (some ⟨bD,0,some 0⟩)),(.pointer (some ⟨dQ,0,some 0⟩))].toArray)] [aD (az 147 fP) rQ aa.v ah,aQ bD 89 (.agg [(.int .i64 aC.Rel),eQ.v,(.int .i64 aC.Limit),(.int .i64 aC.Cost),(.int .i64 aC.Quota)].toArray),aR (aI 3 aH) eQ.v aC.Inputs,aQ dQ 145 (.agg [(.int .i64 bz.Method),iK.v].toArray),aR (aI 3 aH) iK.v bz.Values] (fun p:Sv×List Nat=>p.1.v) (fun p=>[aD (az 147 fP) p.2 p.1.v R]):=by
 unfold VI at hF
 obtain⟨h1,h2⟩:=ahk hF
 refine arF aqZ (fun hb=>?_)
 refine arC (R:=dW) rfl (fun es F1 hel=>⟨(es.zip ah).filter (fun a=>!(xO a.2 aC bz).getD false),List.filter_sublist,by rw[h2]; exact aq2 (fun a=>(xO a aC bz).getD false) es ah hel,?_⟩)
 refine amT (es.zip ah) aa F1 bD aC eQ dQ bz iK (fun a=>(xO a.2 aC bz).getD false) (fun q hq=>h1 q.2 (List.of_mem_zip hq).2) ?_ (by simp; omega)
 rw[List.map_snd_zip (Nat.le_of_eq hel.symm),←aiE Prod.snd (fun a=>(xO a aC bz).getD false),List.map_snd_zip (Nat.le_of_eq hel.symm)]
 exact pV (L:=LP aC bz) (fun _=>rfl) (fun _ _ _=>rfl) ah 0 h1
def Na(ai:List Method)(bn:List Fact)(ae:Access):Option ((List Fact)):=
 (ix ai ae.Method).bind fun x2=>
 (MO bn).bind fun mK=>
 (VI mK x2 ae).bind fun r16=>
 some r16
theorem apT{ai:List Method}{aa:Sv}{bn:List Fact}{aA:Sv}{ae:Access}{dZ:Sv}{R:(List Fact)}(hF:Na ai bn ae=some R):
   Fw.Spec Tryz.prog 264 [aa.v,aA.v,(zg [(zi ae.Method),dZ.v])] [dO aa ai,dD aA bn,ag dZ ae.Values] (fun p:Sv×List Nat=>p.1.v) (fun p=>[fV p.2 p.1 R]):=by
 refine Se 17 Tryz.func264 [.tmp 6] ?_
 intro H0 F0
 unfold Na at hF
 refine au ?_
 refine bM (fun k1=>?_)
 refine bu ?_
 refine zI hF fun x2 hp4 hx5 hF=>?_
 refine Ai hx5 (fun k6 j7=>?_)
 refine iw (wJ x2) xR (fun p8=>?_)
 refine dJ (fun k9=>?_)
 refine As (zg [(zi x2.Rel),p8.v,(zi x2.Limit),(zi x2.Cost),(zi x2.Quota)]) ?_
 refine au ?_
 refine jM .h Fp ?_
 refine bg ?_
 refine bnd hF fun mK iA hF=>fq (aaz iA) (fun jm=>?_)
 refine aO (rC (fn:=.func 300) (vs:=[]) (us:=[(pz k9),(pz k1)]) .nil bN) ?_
 refine bnd hF fun r16 iX hF=>fq (amU iX) (fun wy=>?_)
 refine bC ?_
 cases hF
 exact Er (wy.1,wy.2)
def MC(ae:Access):Option (Access):=
 (xI ae.Values).bind fun r3=>
 some (⟨ae.Method,r3⟩:Access)
theorem aoi{ae:Access}{aM:Sv}{R:Access}(hF:MC ae=some R):
   Fw.Spec Tryz.prog 266 [(zg [(zi ae.Method),aM.v])] [ag aM ae.Values] (fun p:Sv×List Nat=>(zg [(zi R.Method),p.1.v])) (fun p=>[a_ p.2 p.1 R.Values]):=by
 refine Se 9 Tryz.func266 [.cell 2 145] ?_
 intro H0 F0
 unfold MC at hF
 refine au ?_
 refine bM (fun k1=>?_)
 refine dJ (fun k2=>?_)
 refine au ?_
 refine dS [0,1,2,3,4,5,6] [0,1,0,4,12,31,63] [4,6] mixed (by decide+kernel) ?_
 refine sU ?_
 refine bnd hF fun r3 hx4 hF=>ni (Ha hx4) (fun p5=>?_)
 refine bQ rfl .no (fun ha=>gy kQ.h rfl (vs:=[(zi ae.Method),p5.1.v]) (.cons (EN ha (.tmp rfl rfl) rfl) (.cons (EN ha (.tmp rfl rfl) rfl) .nil)) (cells:=[(zi ae.Method),p5.1.v]) rfl) ?_
 refine df rfl rfl .no (.cons (.t .h) .nil) .nil (fun ha=>gF (e':=(zg [(zi ae.Method),p5.1.v])) (v:=(zg [(zi ae.Method),p5.1.v])) kQ.h.sz (EN ha (.tmp rfl rfl) rfl) (EN ha (.tmp rfl rfl) rfl) rfl rfl rfl rfl rfl) (fun _=>?_)
 refine du ?_
 refine au ?_
 cases hF
 exact Er (p5.1,p5.2)
def ME(dL:under)(di:Line):Option (under):=
 (EX dL.r.Facts di.Fact).bind fun r2=>
 if (!r2)then (
   (zB dL.r.Facts di.Fact).bind fun r5=>
   (app dL.lines ([di]:List Line)).bind fun z9=>
   some (⟨dL.l,dL.rules,dL.facts,(⟨r5,dL.r.Values,dL.r.Log,dL.r.Rounds⟩:Reached),z9⟩:under))
 else (
   some dL)
theorem afF{fC:Nat}{dL:under}{aa aM gK tH:Sv}{Gy:List Nat}{rT:Sv}{C8:List Nat}{rU:Sv}{C9:List Nat}{uS:Sv}{Gz:List Nat}{di:Line}{kV UG:Sv}{R:under}(hF:ME dL di=some R):
   Fw.Spec Tryz.prog 265 [(pz fC),(zg [(zi di.Rule),(zi di.Access.Method),kV.v,(zi di.Fact.Rel),UG.v])] [bS fC 162 (zg [aa.v,aM.v,gK.v,tH.v,rT.v,rU.v,(zi dL.r.Rounds),uS.v]),dO aa dL.l,dV aM dL.rules,dD gK dL.facts,fV Gy tH dL.r.Facts,a_ C8 rT dL.r.Values,FB C9 rU dL.r.Log,FC Gz uS dL.lines,ag kV di.Access.Values,ag UG di.Fact.Values] (fun _:Sv×Sv×Sv×Sv×List Nat×Sv×List Nat×Sv×List Nat×Sv×List Nat=>(.tuple [].toArray)) (fun p=>[bS fC 162 (zg [p.1.v,p.2.1.v,p.2.2.1.v,p.2.2.2.1.v,p.2.2.2.2.2.1.v,p.2.2.2.2.2.2.2.1.v,(zi R.r.Rounds),p.2.2.2.2.2.2.2.2.2.1.v]),dO p.1 R.l,dV p.2.1 R.rules,dD p.2.2.1 R.facts,fV p.2.2.2.2.1 p.2.2.2.1 R.r.Facts,a_ p.2.2.2.2.2.2.1 p.2.2.2.2.2.1 R.r.Values,FB p.2.2.2.2.2.2.2.2.1 p.2.2.2.2.2.2.2.1 R.r.Log,FC p.2.2.2.2.2.2.2.2.2.2 p.2.2.2.2.2.2.2.2.2.1 R.lines]):=by
 refine Se 35 Tryz.func265 [] ?_
 intro H0 F0
 unfold ME at hF
 refine au ?_
 refine bM (fun k1=>?_)
 refine au ?_
 refine dS [0,1,2,3,4,5,6,7,8] [0,1,3,7,15,0,32,127,255] [7] mixed (by decide+kernel) ?_
 refine du ?_
 refine bQ rfl .no (fun ha=>mR (v:=(pz fC)) rfl (EN ha (.tmp rfl rfl) rfl)) ?_
 refine cB ?_
 refine ed rfl .no (.t .h) (fun ha hp=>fI (v:=tH.v) nJ.h (EN ha (.tmp rfl rfl) rfl) hp.2 rfl rfl) ?_
 refine du ?_
 refine J9 rfl .no .h rfl (fun ha hp=>Fg (s:=2) (l:=[(zi di.Fact.Rel),UG.v]) qb.h dA.h.sz (EN ha (.tmp rfl rfl) rfl) hp.2 rfl (by decide) (Nat.le_of_ble_eq_true rfl) rfl) ?_
 refine bnd hF fun r2 hx3 hF=>df rfl rfl .no (.cons .q5 (.rd .q9 rfl .nil)) (.dep rfl .nil) (fun ha=>gH bq (fun _=>.nil) (bU acz.h (.cons (EN ha (.tmp rfl rfl) rfl) (.cons (EN ha (.tmp rfl rfl) rfl) .nil)) (aaI hx3))) (fun _=>?_)
 refine cB ?_
 refine Ci hF (fun aBX hF=>?_) (fun aBX hF=>?_)
 · refine dS [0,1,2,3,4,5,6,7,8,9,10,11,12] [0,0,2,6,14,30,0,64,254,511,1023,2047,4095] [8,12] mixed (by decide+kernel) ?_
   refine cB ?_
   refine bQ rfl .no (fun ha=>mR (v:=(pz fC)) rfl (EN ha (.tmp rfl rfl) rfl)) ?_
   refine cB ?_
   refine ed rfl .no .q2 (fun ha hp=>fI (v:=tH.v) nJ.h (EN ha (.tmp rfl rfl) rfl) hp.2 rfl rfl) ?_
   refine du ?_
   refine J9 rfl .no (.t .h) rfl (fun ha hp=>Fg (s:=2) (l:=[(zi di.Fact.Rel),UG.v]) qb.h dA.h.sz (EN ha (.tmp rfl rfl) rfl) hp.2 rfl (by decide) (Nat.le_of_ble_eq_true rfl) rfl) ?_
   refine bnd hF fun r5 hx6 hF=>ni (WO hx6) (fun p7=>?_)
   refine bQ rfl .no (fun ha=>mR (v:=(pz fC)) rfl (EN ha (.tmp rfl rfl) rfl)) ?_
   refine cB ?_
   refine df rfl rfl .no (.cons .q2 .nil) (.dep rfl .nil) (fun ha=>gF (e':=(zg [aa.v,aM.v,gK.v,p7.1.v,rT.v,rU.v,(zi dL.r.Rounds),uS.v])) Y2.h.sz (EN ha (.tmp rfl rfl) rfl) (EN ha (.tmp rfl rfl) rfl) rfl rfl rfl rfl rfl) (fun _=>?_)
   refine du ?_
   refine kM [0,1,2,3,4,5,6,7,8,9,10] [0,0,2,6,14,0,32,126,255,511,1023] [7,10] mixed (by decide+kernel) ?_
   refine cB ?_
   refine bQ rfl .no (fun ha=>mR (v:=(pz fC)) rfl (EN ha (.tmp rfl rfl) rfl)) ?_
   refine du ?_
   refine ed rfl .no .h (fun ha hp=>fI (v:=uS.v) acB.h (EN ha (.tmp rfl rfl) rfl) hp.2 rfl rfl) ?_
   refine du ?_
   refine iq rfl .no rfl (fun ha=>bV (g:=true) (len:=1) (parts:=[(0,.tmp 30)]) rH.h oH.h (.cons (EN ha (.tmp rfl rfl) rfl) .nil) (vs:=[(zg [(zi di.Rule),(zi di.Access.Method),kV.v,(zi di.Fact.Rel),UG.v])]) rfl rfl rfl (by intro v hv; simp at hv; rcases hv with rfl<;>rfl)) (fun k8=>?_)
   refine jF (.cons .h (.rd .q9 rfl (.rd .q10 rfl .nil))) (bY (Ro:=(aj gJ)) (E:=149) (F:=([]++[])) (xs:=([di]:List Line)) (eF XY bX dm) rfl rfl) ?_
   refine bnd hF fun z9 fU hF=>df rfl rfl .no (.cons .q9 (.cons .h .nil)) (.dep rfl (.dep rfl .nil)) (fun ha=>ek (Ro:=(aj gJ)) rH.h XZ oH.h rfl rfl rfl (EN ha (.tmp rfl rfl) rfl) (EN ha (.tmp rfl rfl) rfl) fU fM) (fun jI=>?_)
   refine bQ rfl .no (fun ha=>mR (v:=(pz fC)) rfl (EN ha (.tmp rfl rfl) rfl)) ?_
   refine du ?_
   refine df rfl rfl .no (.cons (.t .h) .nil) (.dep rfl (.dep rfl .nil)) (fun ha=>gF (e':=(zg [aa.v,aM.v,gK.v,p7.1.v,rT.v,rU.v,(zi dL.r.Rounds),jI.1.v])) axp.h.sz (EN ha (.tmp rfl rfl) rfl) (EN ha (.tmp rfl rfl) rfl) rfl rfl rfl rfl rfl) (fun _=>?_)
   refine du ?_
   cases hF
   exact aip (aa,aM,gK,p7.1,p7.2,rT,C8,rU,C9,jI.1,jI.2) .nil rfl (.sel (.cons .h (.rd .q3 rfl (.rd .q4 rfl (.rd .q5 rfl (.cons (.t .h) (.cons .q5 (.cons .q5 (.cons .h .nil)))))))))
 refine au ?_
 cases hF
 exact aip (aa,aM,gK,tH,Gy,rT,C8,rU,C9,uS,Gz) .nil rfl (.sel (.cons .q2 (.rd .q2 rfl (.rd .q3 rfl (.rd .q4 rfl (.cons .h (.cons .q4 (.cons .q4 (.cons .q4 .nil)))))))))
def OZ(di:Fact)(aC:Rule)(bz:Fact):Option (Bool):=
 (Io aC di).bind fun r2=>
 (bif r2.2 then ((Ik r2.1 bz).bind fun r9=>
     some ((r9:Int)==0))
   else (some false)).bind fun o6=>
 match o6 with
 |c12=>some c12
theorem anm{di:Fact}{aM:Sv}{bD:Nat}{aC:Rule}{zL:Sv}{dQ:Nat}{bz:Fact}{iK:Sv}{R:Bool}(hF:OZ di aC bz=some R):
   Fw.Spec Tryz.prog 302 [(zg [(zi di.Rel),aM.v]),(pz bD),(pz dQ)] [ag aM di.Values,aQ bD 91 (zg [(zi aC.From),(zi aC.To),zL.v]),ag zL aC.Map,aQ dQ 147 (zg [(zi bz.Rel),iK.v]),ag iK bz.Values] (fun _:Unit=>(.bool R)) (fun _=>[]):=by
 refine Se 20 Tryz.func302 [.tmp 4] ?_
 intro H0 F0
 unfold OZ at hF
 refine au ?_
 refine bM (fun k1=>?_)
 refine aX ?_
 refine bnd hF fun r2 hx3 hF=>fq (afn hx3) (fun p4=>?_)
 refine au ?_
 refine zx ?_
 refine zx ?_
 refine dJ (fun k5=>?_)
 refine As (zg [(zi r2.1.Rel),p4.1.v]) ?_
 refine bg ?_
 obtain⟨o6,Ut,Vh⟩:=bind_some hF
 refine au ?_
 refine gG (fun f' cs'=>∃(c12:Bool)(g:Fr),c12=o6/\f'=aN g [(4,(.bool c12))]/\aK cs' []) ?_ ?_
 · replace hF:=Ut
   refine bg ?_
   rcases dK r2.2 with fG|fG
   · rw[fG]
     try rw[fG]at hF; dsimp only[bB,bA]at hF
     refine aX ?_
     refine bnd hF fun r9 fU hF=>dU (.cons (.t .h) (.rd .q6 rfl .nil)) (gH bq (fun _=>.nil) (bU axa.h bN (aal fU))) (fun _=>?_)
     exact dw hF
   rw[fG]
   try rw[fG]at hF; dsimp only[bB,bA]at hF
   exact dw hF
 rintro _ _ ⟨c12,g13,rfl,rfl,hE⟩
 replace hF:=Vh
 try dsimp only at hF
 refine bH hE ?_
 exact ze hF
def G6(aC:Rule)(bz:Fact):List Fact->Nat->Option (Int)
 |[],k4=>some (-1)
 |x6::aJ,k4=>(OZ x6 aC bz).bind fun r16=>
   if r16 then (
     some (k4:Int))
   else (
     G6 aC bz aJ (k4+1))
def VF(ah:List Fact)(aC:Rule)(bz:Fact):Option (Int):=
 G6 aC bz ah 0
theorem amL{ah:List Fact}{aa:Sv}{bD:Nat}{aC:Rule}{zL:Sv}{dQ:Nat}{bz:Fact}{iK:Sv}{R:Int}(hF:VF ah aC bz=some R):
   Fw.Spec Tryz.prog 258 [aa.v,(.func (.func 302) [].toArray [(pz bD),(pz dQ)].toArray)] [dD aa ah,aQ bD 91 (zg [(zi aC.From),(zi aC.To),zL.v]),ag zL aC.Map,aQ dQ 147 (zg [(zi bz.Rel),iK.v]),ag iK bz.Values] (fun _:Unit=>(zi R)) (fun _=>[]):=by
 refine Se 19 Tryz.func258 [.tmp 4] ?_
 intro H0 F0
 unfold VF at hF
 refine eG ?_
 refine aY (bK (m:=ah.length) (fun m2 f' cs'=>∃(g:Fr)(k4:Nat)(aJ:List Fact),m2=aJ.length/\f'=aN g [(0,aa.v),(1,(.func (.func 302) [].toArray [(pz bD),(pz dQ)].toArray)),(7,(zi (ah.length:Int))),(8,(zi (k4:Int)))]/\List.drop k4 ah=aJ/\aK cs' [dD aa ah,aQ bD 91 (zg [(zi aC.From),(zi aC.To),zL.v]),ag zL aC.Map,aQ dQ 147 (zg [(zi bz.Rel),iK.v]),ag iK bz.Values]/\G6 aC bz aJ k4=some R) ⟨_,0,_,rfl,ay,rfl,ax,hF⟩ ?_)
 rintro m2 _ _ ⟨g3,k4,aJ,rfl,rfl,hd7,hE,hF⟩
 refine Kb hE ah (fun jV=>?_)
 rcases aJ with _|⟨x6,aJ⟩
 · have fB:=dn hd7
   rw[G6]at hF
   refine aP ?_
   refine cO ?_
   exact ze hF
 obtain⟨fB,dF,fw⟩:=bW hd7
 rw[G6]at hF
 refine aP ?_
 refine cK ?_
 refine jD ?_
 refine Ai dF (fun k13 lY=>?_)
 refine iw (ky x6) kL (fun jm=>?_)
 refine bnd hF fun r16 iX hF=>mX (.rd .h rfl (.rd .q3 rfl (.rd .q4 rfl (.rd .q5 rfl (.rd .q6 rfl .nil))))) (lg axs.h (.tmp rfl rfl) bN (anm iX)) (fun _=>?_)
 refine au ?_
 refine Ci hF (fun mI hF=>?_) (fun mI hF=>?_)
 · exact ze hF
 refine aX ?_
 rw[wk k4]
 exact⟨_,bO _,_,k4+1,aJ,rfl,ay,fw,ax,hF⟩
def VC(ah:List Fact)(aC:Rule)(bz:Fact):Option (Bool):=
 (VF ah aC bz).bind fun r1=>
 some (decide ((0:Int)<=r1))
theorem amH{ah:List Fact}{aa:Sv}{bD:Nat}{aC:Rule}{zL:Sv}{dQ:Nat}{bz:Fact}{iK:Sv}{R:Bool}(hF:VC ah aC bz=some R):
   Fw.Spec Tryz.prog 293 [aa.v,(.func (.func 302) [].toArray [(pz bD),(pz dQ)].toArray)] [dD aa ah,aQ bD 91 (zg [(zi aC.From),(zi aC.To),zL.v]),ag zL aC.Map,aQ dQ 147 (zg [(zi bz.Rel),iK.v]),ag iK bz.Values] (fun _:Unit=>(.bool R)) (fun _=>[]):=by
 refine Se 9 Tryz.func293 [.tmp 4] ?_
 intro H0 F0
 unfold VC at hF
 refine bu ?_
 refine bnd hF fun r1 hx2 hF=>bJ (amL hx2) (fun _=>?_)
 exact ze hF
def VZ(bG:Rule)(bz:under)(fJ:Fact):Option (Bool):=
 (VC bz.r.Facts bG fJ).bind fun r2=>
 some r2
theorem anw{bG:Rule}{gK:Sv}{bD dQ:Nat}{bz:under}{gI iK JR JS JU JV JW:Sv}{iD:Nat}{fJ:Fact}{JX:Sv}{R:Bool}(hF:VZ bG bz fJ=some R):
   Fw.Spec Tryz.prog 301 [(zg [(zi bG.From),(zi bG.To),gK.v]),(pz bD),(pz iD)] [ag gK bG.Map,aQ bD 163 (pz dQ),aQ dQ 162 (zg [gI.v,iK.v,JR.v,JS.v,JU.v,JV.v,(zi bz.r.Rounds),JW.v]),dO gI bz.l,dV iK bz.rules,dD JR bz.facts,dD JS bz.r.Facts,ag JU bz.r.Values,oI JV bz.r.Log,RU JW bz.lines,aQ iD 147 (zg [(zi fJ.Rel),JX.v]),ag JX fJ.Values] (fun _:Unit=>(.bool R)) (fun _=>[]):=by
 refine Se 12 Tryz.func301 [.tmp 4] ?_
 intro H0 F0
 unfold VZ at hF
 refine au ?_
 refine bM (fun k1=>?_)
 refine aP ?_
 refine aO (mR (v:=(pz dQ)) rfl (.tmp rfl rfl)) ?_
 refine bC ?_
 refine aO (rC (fn:=.func 302) (vs:=[]) (us:=[(pz k1),(pz iD)]) .nil bN) ?_
 refine bnd hF fun r2 hx3 hF=>bJ (amH hx3) (fun _=>?_)
 exact ze hF
def G7(bz:under)(fJ:Fact):List Rule->Nat->Option (Int)
 |[],k4=>some (-1)
 |x6::aJ,k4=>(VZ x6 bz fJ).bind fun r16=>
   if r16 then (
     some (k4:Int))
   else (
     G7 bz fJ aJ (k4+1))
def VG(ah:List Rule)(bz:under)(fJ:Fact):Option (Int):=
 G7 bz fJ ah 0
theorem amM{ah:List Rule}{aa:Sv}{bD dQ:Nat}{bz:under}{gI iK JR JS JU JV JW:Sv}{iD:Nat}{fJ:Fact}{JX:Sv}{R:Int}(hF:VG ah bz fJ=some R):
   Fw.Spec Tryz.prog 240 [aa.v,(.func (.func 301) [].toArray [(pz bD),(pz iD)].toArray)] [dV aa ah,aQ bD 163 (pz dQ),aQ dQ 162 (zg [gI.v,iK.v,JR.v,JS.v,JU.v,JV.v,(zi bz.r.Rounds),JW.v]),dO gI bz.l,dV iK bz.rules,dD JR bz.facts,dD JS bz.r.Facts,ag JU bz.r.Values,oI JV bz.r.Log,RU JW bz.lines,aQ iD 147 (zg [(zi fJ.Rel),JX.v]),ag JX fJ.Values] (fun _:Unit=>(zi R)) (fun _=>[]):=by
 refine Se 19 Tryz.func240 [.tmp 4] ?_
 intro H0 F0
 unfold VG at hF
 refine eG ?_
 refine aY (bK (m:=ah.length) (fun m2 f' cs'=>∃(g:Fr)(k4:Nat)(aJ:List Rule),m2=aJ.length/\f'=aN g [(0,aa.v),(1,(.func (.func 301) [].toArray [(pz bD),(pz iD)].toArray)),(7,(zi (ah.length:Int))),(8,(zi (k4:Int)))]/\List.drop k4 ah=aJ/\aK cs' [dV aa ah,aQ bD 163 (pz dQ),aQ dQ 162 (zg [gI.v,iK.v,JR.v,JS.v,JU.v,JV.v,(zi bz.r.Rounds),JW.v]),dO gI bz.l,dV iK bz.rules,dD JR bz.facts,dD JS bz.r.Facts,ag JU bz.r.Values,oI JV bz.r.Log,RU JW bz.lines,aQ iD 147 (zg [(zi fJ.Rel),JX.v]),ag JX fJ.Values]/\G7 bz fJ aJ k4=some R) ⟨_,0,_,rfl,ay,rfl,ax,hF⟩ ?_)
 rintro m2 _ _ ⟨g3,k4,aJ,rfl,rfl,hd7,hE,hF⟩
 refine Kb hE ah (fun jV=>?_)
 rcases aJ with _|⟨x6,aJ⟩
 · have fB:=dn hd7
   rw[G7]at hF
   refine aP ?_
   refine cO ?_
   exact ze hF
 obtain⟨fB,dF,fw⟩:=bW hd7
 rw[G7]at hF
 refine aP ?_
 refine cK ?_
 refine jD ?_
 refine Ai dF (fun k13 lY=>?_)
 refine iw (zo x6) AV (fun jm=>?_)
 refine bnd hF fun r16 iX hF=>mX (.rd .h rfl (.rd .q3 rfl (.rd .q4 rfl (.rd .q5 rfl (.rd .q6 rfl (.rd .q7 rfl (.rd .q8 rfl (.rd .q9 rfl (.rd .q10 rfl (.rd .q11 rfl (.rd .q12 rfl (.rd .q13 rfl .nil)))))))))))) (lg axr.h (.tmp rfl rfl) bN (anw iX)) (fun _=>?_)
 refine au ?_
 refine Ci hF (fun mI hF=>?_) (fun mI hF=>?_)
 · exact ze hF
 refine aX ?_
 rw[wk k4]
 exact⟨_,bO _,_,k4+1,aJ,rfl,ay,fw,ax,hF⟩
def Pb(dL:under)(aU:Fact):Option (Int×under):=
 (VG dL.rules dL aU).bind fun r3=>
 some (r3,dL)
theorem anJ{fC:Nat}{dL:under}{aa aM gK tH:Sv}{Gy:List Nat}{rT:Sv}{C8:List Nat}{rU:Sv}{C9:List Nat}{uS:Sv}{Gz:List Nat}{aU:Fact}{aW:Sv}{R:Int×under}(hF:Pb dL aU=some R):
   Fw.Spec Tryz.prog 267 [(pz fC),(zg [(zi aU.Rel),aW.v])] [bS fC 162 (zg [aa.v,aM.v,gK.v,tH.v,rT.v,rU.v,(zi dL.r.Rounds),uS.v]),dO aa dL.l,dV aM dL.rules,dD gK dL.facts,fV Gy tH dL.r.Facts,a_ C8 rT dL.r.Values,FB C9 rU dL.r.Log,FC Gz uS dL.lines,ag aW aU.Values] (fun _:Sv×Sv×Sv×Sv×List Nat×Sv×List Nat×Sv×List Nat×Sv×List Nat=>(zi R.1)) (fun p=>[bS fC 162 (zg [p.1.v,p.2.1.v,p.2.2.1.v,p.2.2.2.1.v,p.2.2.2.2.2.1.v,p.2.2.2.2.2.2.2.1.v,(zi R.2.r.Rounds),p.2.2.2.2.2.2.2.2.2.1.v]),dO p.1 R.2.l,dV p.2.1 R.2.rules,dD p.2.2.1 R.2.facts,fV p.2.2.2.2.1 p.2.2.2.1 R.2.r.Facts,a_ p.2.2.2.2.2.2.1 p.2.2.2.2.2.1 R.2.r.Values,FB p.2.2.2.2.2.2.2.2.1 p.2.2.2.2.2.2.2.1 R.2.r.Log,FC p.2.2.2.2.2.2.2.2.2.2 p.2.2.2.2.2.2.2.2.2.1 R.2.lines]):=by
 refine Se 11 Tryz.func267 [.tmp 4] ?_
 intro H0 F0
 unfold Pb at hF
 refine au ?_
 refine bM (fun k1=>?_)
 refine bM (fun k2=>?_)
 refine aP ?_
 refine aO (mR (v:=(pz fC)) rfl (.tmp rfl rfl)) ?_
 refine bg ?_
 refine aO (rC (fn:=.func 301) (vs:=[]) (us:=[(pz k1),(pz k2)]) .nil bN) ?_
 refine bnd hF fun r3 hx4 hF=>adt (.cons .q9 (.cons .q8 (.cons .q7 (.cons .q6 (.cons .q2 (.rd .q3 rfl (.rd (.t .h) rfl (.rd .q2 rfl (.rd .q3 rfl (.rd .q4 rfl (.rd .h rfl (.rd .q5 rfl .nil)))))))))))) (Q_ (pre:=_) (.cons bq (.cons bq (.cons bq (.cons bq (.cons Fp .nil))))) (fun _=>.nil) (jA (.rd .q5 rfl (.rd .q6 rfl (.rd .q4 rfl (.rd .q7 rfl (.rd .q5 rfl (.rd .q9 rfl (.rd .q3 rfl (.rd .q2 rfl (.rd (.t .h) rfl (.rd .h rfl (.rd .q10 rfl (.rd .q11 rfl .nil)))))))))))) (bU awU.h bN (amM hx4)))) (fun _=>?_)
 refine bC ?_
 cases hF
 exact Er (aa,aM,gK,tH,Gy,rT,C8,rU,C9,uS,Gz)
def Ht(dL:under)(r1:(List Access))(uF:List Method)(uG:List Rule)(uH:List Fact)(oM:List Fact)(uI:List Access)(sN:Int)(nU:List Line):Nat->(List Fact)->(List Int)->Int->Option (Bool×under)
 |0,_,_,_=>none
 |JY+1,FM,FN,yl=>if (decide ((yl:Int)<(oM.length:Int)))then (
     (ix FM yl).bind fun JZ=>
     (IX FN JZ.Values).bind fun akS=>
     Ht dL r1 uF uG uH oM uI sN nU JY FM akS (IntKind.i64.wrap (yl+1)))
   else (
     some (((decide ((0:Int)<(r1.length:Int)))||(decide (((dL.lines.length:Int):Int)<(nU.length:Int)))),({l:=uF,rules:=uG,facts:=uH,r:=({Facts:=FM,Values:=FN,Log:=uI,Rounds:=sN}:Reached),lines:=nU}:under)))
def xJ(dL:under)(r1:(List Access)):List Line->Nat->(List Method)->(List Rule)->(List Fact)->(List Fact)->(List Int)->(List Access)->Int->(List Line)->Option (Bool×under)
 |[],oN,uF,uG,uH,oM,FO,uI,sN,nU=>Ht dL r1 uF uG uH oM uI sN nU (((oM.length:Int)-0).toNat+2) oM FO 0
 |x1237::Bc,oN,uF,uG,uH,oM,FO,uI,sN,nU=>(ME ({l:=uF,rules:=uG,facts:=uH,r:=({Facts:=oM,Values:=FO,Log:=uI,Rounds:=sN}:Reached),lines:=nU}:under) x1237).bind fun Cw=>
   xJ dL r1 Bc (oN+1) Cw.l Cw.rules Cw.facts Cw.r.Facts Cw.r.Values Cw.r.Log Cw.r.Rounds Cw.lines
def Hu(dL:under)(r1:(List Access)):List Fact->Nat->(List Method)->(List Rule)->(List Fact)->(List Fact)->(List Int)->(List Access)->Int->(List Line)->(List Line)->Option (Bool×under)
 |[],oO,FP,FQ,FR,FT,FU,FV,FW,FX,oP=>xJ dL r1 oP 0 FP FQ FR FT FU FV FW FX
 |vO::Bd,oO,FP,FQ,FR,FT,FU,FV,FW,FX,oP=>(Pb ({l:=FP,rules:=FQ,facts:=FR,r:=({Facts:=FT,Values:=FU,Log:=FV,Rounds:=FW}:Reached),lines:=FX}:under) vO).bind fun sO=>
   (app oP ([({Rule:=sO.1,Access:=({Method:=0,Values:=[]}:Access),Fact:=vO}:Line)]:List Line)).bind fun akT=>
   Hu dL r1 Bd (oO+1) sO.2.l sO.2.rules sO.2.facts sO.2.r.Facts sO.2.r.Values sO.2.r.Log sO.2.r.Rounds sO.2.lines akT
def Hw(qh:Access):List Fact->Nat->(List Method)->(List Rule)->(List Fact)->(List Fact)->(List Int)->(List Access)->Int->(List Line)->Option ((List Method)×(List Rule)×(List Fact)×(List Fact)×(List Int)×(List Access)×Int×(List Line))
 |[],oQ,FY,FZ,F3,F9,F_,Gc,Gd,Gf=>some (FY,FZ,F3,F9,F_,Gc,Gd,Gf)
 |Cx::Be,oQ,FY,FZ,F3,F9,F_,Gc,Gd,Gf=>(MC qh).bind fun NQ=>
   (ME ({l:=FY,rules:=FZ,facts:=F3,r:=({Facts:=F9,Values:=F_,Log:=Gc,Rounds:=Gd}:Reached),lines:=Gf}:under) ({Rule:=(-1),Access:=NQ,Fact:=Cx}:Line)).bind fun Cy=>
   Hw qh Be (oQ+1) Cy.l Cy.rules Cy.facts Cy.r.Facts Cy.r.Values Cy.r.Log Cy.r.Rounds Cy.lines
def zk(dL:under)(r1:(List Access)):List Access->Nat->(List Method)->(List Rule)->(List Fact)->(List Fact)->(List Int)->(List Access)->Int->(List Line)->Option (Bool×under)
 |[],nN,C_,Db,Dc,De,KM,KN,GA,KO=>(M_ Db De).bind fun uT=>
   Hu dL r1 uT 0 C_ Db Dc De KM KN GA KO ([]:List Line)
 |qh::Bw,nN,C_,Db,Dc,De,KM,KN,GA,KO=>((app KN ([qh]:List Access)).bind fun akU=>
     (Na C_ Dc qh).bind fun uJ=>
     Hw qh uJ 0 C_ Db Dc De KM akU GA KO).bind fun Yy=>
   match Yy with
   |(SI,SK,SN,SQ,SS,SV,SX,SY)=>zk dL r1 Bw (nN+1) SI SK SN SQ SS SV SX SY
def Pq(dL:under):Option (Bool×under):=
 (Mh dL.r dL.l).bind fun r1=>
 zk dL r1 r1 0 dL.l dL.rules dL.facts dL.r.Facts dL.r.Values dL.r.Log dL.r.Rounds dL.lines
theorem an3{fC:Nat}{dL:under}{aa aM gK tH:Sv}{Gy:List Nat}{rT:Sv}{C8:List Nat}{rU:Sv}{C9:List Nat}{uS:Sv}{Gz:List Nat}{R:Bool×under}(hF:Pq dL=some R):
   Fw.Spec Tryz.prog 197 [(.pointer (some ⟨fC,0,some 0⟩))] [bS fC 162 (.agg [aa.v,aM.v,gK.v,tH.v,rT.v,rU.v,(.int .i64 dL.r.Rounds),uS.v].toArray),aR (aI 89 gN) aa.v dL.l,aR (aI 91 iG) aM.v dL.rules,aR (aI 147 dW) gK.v dL.facts,aD (az 147 fP) Gy tH.v dL.r.Facts,aD (az 3 (aj aH)) C8 rT.v dL.r.Values,aD (az 145 (aj gz)) C9 rU.v dL.r.Log,aD (az 149 (aj gJ)) Gz uS.v dL.lines] (fun _:Sv×Sv×Sv×Sv×List Nat×Sv×List Nat×Sv×List Nat×Sv×List Nat=>(.bool R.1)) (fun p=>[bS fC 162 (.agg [p.1.v,p.2.1.v,p.2.2.1.v,p.2.2.2.1.v,p.2.2.2.2.2.1.v,p.2.2.2.2.2.2.2.1.v,(.int .i64 R.2.r.Rounds),p.2.2.2.2.2.2.2.2.2.1.v].toArray),aR (aI 89 gN) p.1.v R.2.l,aR (aI 91 iG) p.2.1.v R.2.rules,aR (aI 147 dW) p.2.2.1.v R.2.facts,aD (az 147 fP) p.2.2.2.2.1 p.2.2.2.1.v R.2.r.Facts,aD (az 3 (aj aH)) p.2.2.2.2.2.2.1 p.2.2.2.2.2.1.v R.2.r.Values,aD (az 145 (aj gz)) p.2.2.2.2.2.2.2.2.1 p.2.2.2.2.2.2.2.1.v R.2.r.Log,aD (az 149 (aj gJ)) p.2.2.2.2.2.2.2.2.2.2 p.2.2.2.2.2.2.2.2.2.1.v R.2.lines]):=by
 refine MV (n:=141) Tryz.func197 rfl rfl (rs:=[.tmp 2]) rfl rfl rfl ?_
 intro H0 F0
 unfold Pq at hF
 refine cu (aO (iZ (v:=(.bool false)) (.bool _)) ?_)
 refine dI (cu (Cm (.pointer (some ⟨fC,0,some 0⟩)) rfl rfl ?_))
 refine aO (mR (v:=(.pointer (some ⟨fC,0,some 0⟩))) rfl (.tmp rfl rfl)) ?_
 refine aO (gU (off:=7) aiN.h (.tmp rfl rfl)) ?_
 refine fQ .h (fun hp=>fI (v:=uS.v) acB.h (.tmp rfl rfl) hp.2 rfl rfl) ?_
 refine fQ (.t (.t (.t (.t (.t (.t (.t .h))))))) (fun hp=>jU (l:=dL.lines.length) rH.h (.tmp rfl rfl) (uh hp)) ?_
 refine Ca (.int .i64 (dL.lines.length:Int)) rfl rfl ?_
 refine dI (dS [0,1,2,3,4,5,6,7,8,9] [0,1,3,7,0,16,48,112,255,511] [8] mixed (by decide+kernel) ?_)
 refine Dm (.pointer (some ⟨fC,0,some 0⟩)) rfl rfl rfl rfl ?_
 refine bQ rfl .no (fun ha=>mR (v:=(.pointer (some ⟨fC,0,some 0⟩))) rfl (EN ha (.tmp rfl rfl) rfl)) ?_
 refine bQ rfl .no (fun ha=>gU (off:=3) Ju.h (EN ha (.tmp rfl rfl) rfl)) ?_
 refine ed rfl .no .h (fun ha hp=>Fg (s:=4) (l:=[tH.v,rT.v,rU.v,(.int .i64 dL.r.Rounds)]) RQ.h Cq.h.sz (EN ha (.tmp rfl rfl) rfl) hp.2 rfl (by decide) (Nat.le_of_ble_eq_true rfl) rfl) ?_
 refine Dm (.pointer (some ⟨fC,0,some 0⟩)) rfl rfl rfl rfl ?_
 refine bQ rfl .no (fun ha=>mR (v:=(.pointer (some ⟨fC,0,some 0⟩))) rfl (EN ha (.tmp rfl rfl) rfl)) ?_
 refine bQ rfl .no (fun ha=>gU (off:=0) aiO.h (EN ha (.tmp rfl rfl) rfl)) ?_
 refine ed rfl .no .h (fun ha hp=>fI (v:=aa.v) alz.h (EN ha (.tmp rfl rfl) rfl) hp.2 rfl rfl) ?_
 obtain⟨r1,hx2,hF⟩:=bind_some hF
 refine Fx rfl rfl .no (.cons (.t (.t (.t (.t (.t (.t .h)))))) (.cons (.t (.t (.t (.t (.t .h))))) (.cons (.t (.t (.t (.t .h)))) (.rd (.t .h) rfl .nil)))) (.dep rfl (.dep rfl .nil)) (fun ha=>Q_ (pre:=_) (.cons bq (.cons bq (.cons bq .nil))) (fun _=>(.cons .nil)) (jA (.rd (.t (.t .h)) rfl (.rd (.t .h) rfl (.rd .h rfl (.rd (.t (.t (.t .h))) rfl .nil)))) (bU axk.h (.cons (EN ha (.tmp rfl rfl) rfl) (.cons (EN ha (.tmp rfl rfl) rfl) .nil)) (@anP dL.r tH rT rU dL.l aa _ hx2)))) (fun p3=>?_)
 refine Da p3.1.v rfl rfl rfl rfl ?_
 refine p_ (h_ (cu (Cm p3.1.v rfl rfl ?_)))
 refine fQ (.t (.t (.t .h))) (fun hp=>jU (l:=r1.length) nI.h (.tmp rfl rfl) (uh hp)) ?_
 refine aO (eH (v:=(.int .i64 0)) (.int _ _)) ?_
 refine dI (aY (jM (.t (.t (.t .h))) bq ?_))
 refine bK (m:=r1.length) (fun amA f' cs'=>∃(g:Fr)(nN:Nat)(Bw:List Access)(C_:List Method)(Db:List Rule)(Dc:List Fact)(De:List Fact)(KM:List Int)(KN:List Access)(GA:Int)(KO:List Line)(GD:Sv)(GG:Sv)(GH:Sv)(GI:Sv)(ZI:List Nat)(Oq:Sv)(ZJ:List Nat)(UH:Sv)(aeJ:List Nat)(Ot:Sv)(ZK:List Nat),amA=Bw.length/\f'=aN g [(0,(.pointer (some ⟨fC,0,some 0⟩))),(3,(.int .i64 (dL.lines.length:Int))),(4,p3.1.v),(30,p3.1.v),(31,(.int .i64 (r1.length:Int))),(32,(.int .i64 (nN:Int)))]/\List.drop nN r1=Bw/\aK cs' [bS fC 162 (.agg [GD.v,GG.v,GH.v,GI.v,Oq.v,UH.v,(.int .i64 GA),Ot.v].toArray),aR (aI 89 gN) GD.v C_,aR (aI 91 iG) GG.v Db,aR (aI 147 dW) GH.v Dc,aD (az 147 fP) ZI GI.v De,aD (az 3 (aj aH)) ZJ Oq.v KM,aD (az 145 (aj gz)) aeJ UH.v KN,aD (az 149 (aj gJ)) ZK Ot.v KO,aR (aI 145 gz) p3.1.v r1]/\zk dL r1 Bw nN C_ Db Dc De KM KN GA KO=some R) ⟨_,0,_,_,_,_,_,_,_,_,_,aa,aM,gK,tH,Gy,rT,C8,rU,C9,uS,Gz,rfl,(aG.cons rfl (aG.cons rfl (aG.cons rfl (aG.cons rfl (aG.cons rfl (aG.cons rfl (aG.nil))))))).eq,rfl,(.sel (.cons (.t (.t (.t (.t .h)))) (.rd (.t (.t (.t (.t .h)))) rfl (.rd (.t (.t (.t (.t (.t .h))))) rfl (.rd (.t (.t (.t (.t (.t (.t .h)))))) rfl (.cons (.t (.t (.t .h))) (.cons (.t (.t .h)) (.cons (.t .h) (.cons (.t (.t (.t (.t .h)))) (.rd .h rfl .nil)))))))))),hF⟩ ?_
 clear hF
 rintro amA _ _ ⟨aIE,nN,Bw,C_,Db,Dc,De,KM,KN,GA,KO,GD,GG,GH,GI,ZI,Oq,ZJ,UH,aeJ,Ot,ZK,rfl,rfl,akV,hE,hF⟩
 refine bH hE ?_
 clear hE
 refine uu (c:=aR (aI 145 gz) p3.1.v r1) (.t (.t (.t (.t (.t (.t (.t (.t .h)))))))) zn (fun aCX=>?_)
 rcases Bw with _|⟨qh,Bw⟩
 · have aza:=List.drop_eq_nil_iff.1 akV
   have ach:(decide (((nN:Int):Int)<(r1.length:Int)))=false:=decide_eq_false (by omega)
   rw[zk]at hF
   refine cu (aO (mr (i:=(nN:Int)) (j:=(r1.length:Int)) (.tmp rfl rfl) (.tmp rfl rfl)) ?_)
   refine dI (h_ (jc (b:=(decide (((nN:Int):Int)<(r1.length:Int)))) (.tmp rfl rfl) (fun hb=>absurd (ach.symm.trans hb) (by decide)) (fun _=>?_)))
   refine vD ?_
   iterate 2 refine uf ?_
   refine vC (cu (dx rfl (bV (g:=true) rH.h oH.h .nil (vs:=[]) rfl rfl rfl (by simp)) (fun aeK=>?_)))
   refine BB (.cons .h .nil) (bY (Ro:=(aj gJ)) (E:=149) (F:=[]) (xs:=([]:List Line)) bX rfl rfl) dm ?_
   refine Ca (.slice (some ⟨aeK,0,none⟩) 0 1) rfl rfl ?_
   refine dI (h_ (dS [0,1,2,3,4,5,6,7,8,11,9,10] [0,1,3,7,0,16,48,112,240,511,1023,0] [9] mixed (by decide+kernel) ?_))
   refine Dm (.pointer (some ⟨fC,0,some 0⟩)) rfl rfl rfl rfl ?_
   refine bQ rfl .no (fun ha=>mR (v:=(.pointer (some ⟨fC,0,some 0⟩))) rfl (EN ha (.tmp rfl rfl) rfl)) ?_
   refine bQ rfl .no (fun ha=>gU (off:=1) as3.h (EN ha (.tmp rfl rfl) rfl)) ?_
   refine ed rfl .no (.t .h) (fun ha hp=>fI (v:=GG.v) az4.h (EN ha (.tmp rfl rfl) rfl) hp.2 rfl rfl) ?_
   refine Dm (.pointer (some ⟨fC,0,some 0⟩)) rfl rfl rfl rfl ?_
   refine bQ rfl .no (fun ha=>mR (v:=(.pointer (some ⟨fC,0,some 0⟩))) rfl (EN ha (.tmp rfl rfl) rfl)) ?_
   refine bQ rfl .no (fun ha=>gU (off:=3) Ju.h (EN ha (.tmp rfl rfl) rfl)) ?_
   refine bQ rfl .no (fun ha=>gU (off:=0) vE.h (EN ha (.tmp rfl rfl) rfl)) ?_
   refine ed rfl .no (.t .h) (fun ha hp=>fI (v:=GI.v) nJ.h (EN ha (.tmp rfl rfl) rfl) hp.2 rfl rfl) ?_
   refine bQ rfl .no (fun ha=>eH (v:=(.int .i64 0)) (EN ha (.int _ _) rfl)) ?_
   obtain⟨uT,azb,hF⟩:=bind_some hF
   refine qB rfl rfl .no (.cons (.t (.t (.t (.t (.t .h))))) (.rd (.t (.t (.t .h))) rfl .nil)) (.dep rfl (.dep rfl .nil)) (fun ha=>gH bq (fun _=>(.cons .nil)) (jA (.rd (.t .h) rfl (.rd .h rfl .nil)) (bU akn.h (.cons (EN ha (.tmp rfl rfl) rfl) (.cons (EN ha (.tmp rfl rfl) rfl) .nil)) (@agk Db GG De GI _ azb)))) (fun aeL=>?_)
   refine ed rfl .no (.t .h) (fun ha hp=>jU (l:=uT.length) dX.h (EN ha (.tmp rfl rfl) rfl) (uh hp)) ?_
   refine p_ (aY (jM (.t .h) bq ?_))
   refine bK (m:=uT.length) (fun akW f' cs'=>∃(g:Fr)(oO:Nat)(Bd:List Fact)(FP:List Method)(FQ:List Rule)(FR:List Fact)(FT:List Fact)(FU:List Int)(FV:List Access)(FW:Int)(FX:List Line)(oP:List Line)(S9:Sv)(S_:Sv)(Ta:Sv)(Tc:Sv)(Yz:List Nat)(Td:Sv)(YA:List Nat)(Te:Sv)(YB:List Nat)(Tg:Sv)(YC:List Nat)(Gg:Sv)(akX:List Nat),akW=Bd.length/\f'=aN g [(0,(.pointer (some ⟨fC,0,some 0⟩))),(3,(.int .i64 (dL.lines.length:Int))),(4,p3.1.v),(9,Gg.v),(81,aeL.1.v),(82,(.int .i64 (uT.length:Int))),(83,(.int .i64 (oO:Int)))]/\List.drop oO uT=Bd/\aK cs' [bS fC 162 (.agg [S9.v,S_.v,Ta.v,Tc.v,Td.v,Te.v,(.int .i64 FW),Tg.v].toArray),aR (aI 89 gN) S9.v FP,aR (aI 91 iG) S_.v FQ,aR (aI 147 dW) Ta.v FR,aD (az 147 fP) Yz Tc.v FT,aD (az 3 (aj aH)) YA Td.v FU,aD (az 145 (aj gz)) YB Te.v FV,aD (az 149 (aj gJ)) YC Tg.v FX,aR (aI 145 gz) p3.1.v r1,aD (az 149 (aj gJ)) akX Gg.v oP,aR (aI 147 dW) aeL.1.v uT]/\Hu dL r1 Bd oO FP FQ FR FT FU FV FW FX oP=some R) ⟨_,0,_,_,_,_,_,_,_,_,_,_,GD,GG,GH,GI,ZI,Oq,ZJ,UH,aeJ,Ot,ZK,⟨(some ⟨aeK,0,none⟩),0,1⟩,(aeK::[]),rfl,(aG.cons rfl (aG.cons rfl (aG.cons rfl (aG.cons rfl (aG.cons rfl (aG.cons rfl (aG.cons rfl (aG.nil)))))))).eq,rfl,(.sel (.cons (.t (.t (.t .h))) (.rd (.t (.t (.t .h))) rfl (.rd (.t (.t (.t (.t .h)))) rfl (.rd (.t (.t (.t (.t (.t .h))))) rfl (.cons (.t .h) (.cons (.t (.t (.t (.t (.t .h))))) (.cons (.t (.t (.t (.t (.t .h))))) (.cons (.t (.t (.t (.t (.t .h))))) (.rd (.t (.t (.t (.t (.t .h))))) rfl (.cons (.t .h) (.rd .h rfl .nil)))))))))))),hF⟩ ?_
   clear hF
   rintro akW _ _ ⟨aFA,oO,Bd,FP,FQ,FR,FT,FU,FV,FW,FX,oP,S9,S_,Ta,Tc,Yz,Td,YA,Te,YB,Tg,YC,Gg,akX,rfl,rfl,ajt,hE,hF⟩
   refine bH hE ?_
   clear hE
   refine uu (c:=aR (aI 147 dW) aeL.1.v uT) (.t (.t (.t (.t (.t (.t (.t (.t (.t (.t .h)))))))))) zn (fun aCl=>?_)
   rcases Bd with _|⟨vO,Bd⟩
   · have auZ:=List.drop_eq_nil_iff.1 ajt
     have abR:(decide (((oO:Int):Int)<(uT.length:Int)))=false:=decide_eq_false (by omega)
     rw[Hu]at hF
     refine cu (aO (mr (i:=(oO:Int)) (j:=(uT.length:Int)) (.tmp rfl rfl) (.tmp rfl rfl)) ?_)
     refine dI (h_ (jc (b:=(decide (((oO:Int):Int)<(uT.length:Int)))) (.tmp rfl rfl) (fun hb=>absurd (abR.symm.trans hb) (by decide)) (fun _=>?_)))
     refine vD ?_
     iterate 2 refine uf ?_
     refine vC (h_ (cu (Cm Gg.v rfl rfl ?_)))
     refine fQ (.t (.t (.t (.t (.t (.t (.t (.t (.t .h))))))))) (fun hp=>jU (l:=oP.length) rH.h (.tmp rfl rfl) (uh hp)) ?_
     refine aO (eH (v:=(.int .i64 0)) (.int _ _)) ?_
     refine dI (aY (jM (.t (.t (.t (.t (.t (.t (.t (.t (.t .h))))))))) bq ?_))
     refine bK (m:=oP.length) (fun akY f' cs'=>∃(g:Fr)(oN:Nat)(Bc:List Line)(uF:List Method)(uG:List Rule)(uH:List Fact)(oM:List Fact)(FO:List Int)(uI:List Access)(sN:Int)(nU:List Line)(zM:Sv)(zN:Sv)(zO:Sv)(wX:Sv)(YD:List Nat)(Ti:Sv)(YE:List Nat)(zP:Sv)(NR:List Nat)(ym:Sv)(NS:List Nat),akY=Bc.length/\f'=aN g [(0,(.pointer (some ⟨fC,0,some 0⟩))),(3,(.int .i64 (dL.lines.length:Int))),(4,p3.1.v),(96,Gg.v),(97,(.int .i64 (oP.length:Int))),(98,(.int .i64 (oN:Int)))]/\List.drop oN oP=Bc/\aK cs' [bS fC 162 (.agg [zM.v,zN.v,zO.v,wX.v,Ti.v,zP.v,(.int .i64 sN),ym.v].toArray),aR (aI 89 gN) zM.v uF,aR (aI 91 iG) zN.v uG,aR (aI 147 dW) zO.v uH,aD (az 147 fP) YD wX.v oM,aD (az 3 (aj aH)) YE Ti.v FO,aD (az 145 (aj gz)) NR zP.v uI,aD (az 149 (aj gJ)) NS ym.v nU,aR (aI 145 gz) p3.1.v r1,aR (aI 149 gJ) Gg.v oP]/\xJ dL r1 Bc oN uF uG uH oM FO uI sN nU=some R) ⟨_,0,_,_,_,_,_,_,_,_,_,S9,S_,Ta,Tc,Yz,Td,YA,Te,YB,Tg,YC,rfl,(aG.cons rfl (aG.cons rfl (aG.cons rfl (aG.cons rfl (aG.cons rfl (aG.cons rfl (aG.nil))))))).eq,rfl,(.sel (.cons (.t .h) (.rd (.t .h) rfl (.rd (.t (.t .h)) rfl (.rd (.t (.t (.t .h))) rfl (.cons (.t (.t (.t (.t .h)))) (.cons (.t (.t (.t (.t .h)))) (.cons (.t (.t (.t (.t .h)))) (.cons (.t (.t (.t (.t .h)))) (.rd (.t (.t (.t (.t .h)))) rfl (.rd .h rfl .nil))))))))))),hF⟩ ?_
     clear hF
     rintro akY _ _ ⟨aFB,oN,Bc,uF,uG,uH,oM,FO,uI,sN,nU,zM,zN,zO,wX,YD,Ti,YE,zP,NR,ym,NS,rfl,rfl,aju,hE,hF⟩
     refine bH hE ?_
     clear hE
     refine uu (c:=aR (aI 149 gJ) Gg.v oP) (.t (.t (.t (.t (.t (.t (.t (.t (.t .h))))))))) zn (fun aCm=>?_)
     rcases Bc with _|⟨x1237,Bc⟩
     · have au0:=List.drop_eq_nil_iff.1 aju
       have abS:(decide (((oN:Int):Int)<(oP.length:Int)))=false:=decide_eq_false (by omega)
       rw[xJ]at hF
       refine cu (aO (mr (i:=(oN:Int)) (j:=(oP.length:Int)) (.tmp rfl rfl) (.tmp rfl rfl)) ?_)
       refine dI (h_ (jc (b:=(decide (((oN:Int):Int)<(oP.length:Int)))) (.tmp rfl rfl) (fun hb=>absurd (abS.symm.trans hb) (by decide)) (fun _=>?_)))
       refine vD ?_
       iterate 2 refine uf ?_
       refine vC (h_ (cu (Cm (.pointer (some ⟨fC,0,some 0⟩)) rfl rfl ?_)))
       refine aO (mR (v:=(.pointer (some ⟨fC,0,some 0⟩))) rfl (.tmp rfl rfl)) ?_
       refine aO (gU (off:=3) Ju.h (.tmp rfl rfl)) ?_
       refine aO (gU (off:=0) vE.h (.tmp rfl rfl)) ?_
       refine fQ .h (fun hp=>fI (v:=wX.v) nJ.h (.tmp rfl rfl) hp.2 rfl rfl) ?_
       refine fQ (.t (.t (.t (.t .h)))) (fun hp=>jU (l:=oM.length) dX.h (.tmp rfl rfl) (uh hp)) ?_
       refine aO (eH (v:=(.int .i64 0)) (.int _ _)) ?_
       refine dI (aY (bK (m:=(((oM.length:Int)-0).toNat+2)) (fun JY f' cs'=>∃(g:Fr)(FM:List Fact)(FN:List Int)(yl:Int)(YF:List Nat)(Gh:Sv)(YG:List Nat),f'=aN g [(0,(.pointer (some ⟨fC,0,some 0⟩))),(3,(.int .i64 (dL.lines.length:Int))),(4,p3.1.v),(110,wX.v),(111,(.int .i64 (oM.length:Int))),(112,(.int .i64 yl))]/\aK cs' [bS fC 162 (.agg [zM.v,zN.v,zO.v,wX.v,Gh.v,zP.v,(.int .i64 sN),ym.v].toArray),aR (aI 89 gN) zM.v uF,aR (aI 91 iG) zN.v uG,aR (aI 147 dW) zO.v uH,aD (az 147 fP) YF wX.v FM,aD (az 3 (aj aH)) YG Gh.v FN,aD (az 145 (aj gz)) NR zP.v uI,aD (az 149 (aj gJ)) NS ym.v nU,aR (aI 145 gz) p3.1.v r1]/\Ht dL r1 uF uG uH oM uI sN nU JY FM FN yl=some R) ⟨_,_,_,_,YD,Ti,YE,(aG.cons rfl (aG.cons rfl (aG.cons rfl (aG.cons rfl (aG.cons rfl (aG.cons rfl (aG.nil))))))).eq,(.sel (.cons .h (.rd .h rfl (.rd (.t .h) rfl (.rd (.t (.t .h)) rfl (.cons (.t (.t (.t .h))) (.cons (.t (.t (.t .h))) (.cons (.t (.t (.t .h))) (.cons (.t (.t (.t .h))) (.rd (.t (.t (.t .h))) rfl .nil)))))))))),hF⟩ ?_))
       clear hF
       rintro JY _ _ ⟨aFC,FM,FN,yl,YF,Gh,YG,rfl,hE,hF⟩
       refine bH hE ?_
       clear hE
       rcases JY with _|JY
       · rw[Ht]at hF
         exact absurd hF (by simp)
       rw[Ht]at hF
       refine cu (aO (mr (i:=yl) (j:=(oM.length:Int)) (.tmp rfl rfl) (.tmp rfl rfl)) ?_)
       refine dI (h_ (jc (b:=(decide ((yl:Int)<(oM.length:Int)))) (.tmp rfl rfl) (fun aci=>?_) (fun aci=>?_)))
       · rw[if_pos aci]at hF
         refine nC (Bh (cu ?_))
         obtain⟨JZ,ajv,hF⟩:=bind_some hF
         have au1:=zC ajv
         obtain⟨aCY,ajw⟩:=uk ajv
         refine ase (s:=2) axt ajw (.t (.t (.t (.t .h)))) (fun NT aCZ azc azd aze ajx ajy=>?_)
         refine qA dX.h dA.h.sz (.tmp rfl rfl) (.tmp rfl rfl) .h (asX ajy au1) (fun aFD au2=>?_)
         refine atZ (lv:=[(.int .i64 JZ.Rel),NT.1.v]) qb.h dA.h.sz rfl (.tmp rfl rfl) .h au2 ajx rfl ?_
         refine dx rfl (sD (g:=true) dA.h rfl rfl) (fun aFE=>?_)
         refine dU (.cons .h .nil) (gF (e':=(.agg [(.int .i64 JZ.Rel),NT.1.v].toArray)) (v:=(.agg [(.int .i64 JZ.Rel),NT.1.v].toArray)) dA.h.sz (.tmp rfl rfl) (.tmp rfl rfl) rfl rfl rfl rfl rfl) (fun _=>?_)
         refine dI (kM [0,1,2,3,4,5,6,7,8,9,10,11,12] [0,0,2,6,14,30,0,64,254,511,1023,2047,4095] [8,12] mixed (by decide+kernel) ?_)
         iterate 2 refine Dm (.pointer (some ⟨fC,0,some 0⟩)) rfl rfl rfl rfl ?_
         refine bQ rfl .no (fun ha=>mR (v:=(.pointer (some ⟨fC,0,some 0⟩))) rfl (EN ha (.tmp rfl rfl) rfl)) ?_
         refine bQ rfl .no (fun ha=>gU (off:=3) Ju.h (EN ha (.tmp rfl rfl) rfl)) ?_
         refine bQ rfl .no (fun ha=>gU (off:=1) Xz.h (EN ha (.tmp rfl rfl) rfl)) ?_
         refine ed rfl .no (.t (.t (.t (.t (.t .h))))) (fun ha hp=>fI (v:=Gh.v) iF.h (EN ha (.tmp rfl rfl) rfl) hp.2 rfl rfl) ?_
         refine bQ rfl .no (fun ha=>gU (off:=1) abL.h (EN ha (.tmp rfl rfl) rfl)) ?_
         refine ed rfl .no .h (fun ha hp=>fI (v:=NT.1.v) iF.h (EN ha (.tmp rfl rfl) rfl) hp.2 rfl rfl) ?_
         obtain⟨akS,au3,hF⟩:=bind_some hF
         refine Rm rfl rfl .no (.cons (.t (.t (.t .h))) (.cons (.t (.t (.t (.t (.t (.t (.t (.t .h)))))))) .nil)) (.dep rfl (.dep rfl .nil)) (fun ha=>jy (pre:=[]) (.cons bq (.cons bq .nil)) (fun _=>(.cons .nil)) (bU axi.h (.cons (EN ha (.tmp rfl rfl) rfl) (.cons (EN ha (.tmp rfl rfl) rfl) .nil)) (@afE FN Gh JZ.Values NT.1 _ au3))) (fun adc=>?_)
         refine bQ rfl .no (fun ha=>mR (v:=(.pointer (some ⟨fC,0,some 0⟩))) rfl (EN ha (.tmp rfl rfl) rfl)) ?_
         refine bQ rfl .no (fun ha=>gU (off:=3) Ju.h (EN ha (.tmp rfl rfl) rfl)) ?_
         refine bQ rfl .no (fun ha=>gU (off:=1) Xz.h (EN ha (.tmp rfl rfl) rfl)) ?_
         refine df rfl rfl .no (.cons (.t (.t (.t (.t (.t (.t (.t .h))))))) .nil) (.dep rfl (.dep rfl .nil)) (fun ha=>gF (e':=(.agg [zM.v,zN.v,zO.v,wX.v,adc.1.v,zP.v,(.int .i64 sN),ym.v].toArray)) lQ.h.sz (EN ha (.tmp rfl rfl) rfl) (EN ha (.tmp rfl rfl) rfl) rfl rfl rfl rfl rfl) (fun _=>?_)
         refine p_ (nQ (aO (mq (i:=yl) (j:=1) (.tmp rfl rfl) (.int _ _)) ?_))
         refine Cm (.int .i64 (IntKind.i64.wrap (yl+1))) rfl rfl ?_
         refine BB (.cons (.t (.t (.t (.t (.t .h))))) (.cons (.t (.t (.t (.t (.t .h))))) (.cons (.t .h) (.cons (.t (.t (.t (.t .h)))) .nil)))) (aqb (zK (a:=JZ)) ajx ajy ajw) dm ?_
         refine dI ?_
         exact⟨JY,Nat.lt_succ_self _,_,_,_,_,(azc++(azd++(NT.2++aze))),adc.1,adc.2,(aG.cons rfl (aG.cons rfl (aG.cons rfl (aG.cons rfl (aG.cons rfl (aG.cons rfl (aG.nil))))))).eq,(.sel (.cons (.t .h) (.rd (.t (.t (.t (.t .h)))) rfl (.rd (.t (.t (.t (.t (.t .h))))) rfl (.rd (.t (.t (.t (.t (.t (.t .h)))))) rfl (.cons .h (.cons (.t .h) (.cons (.t (.t (.t (.t (.t .h))))) (.cons (.t (.t (.t (.t (.t .h))))) (.rd (.t (.t (.t (.t (.t .h))))) rfl .nil)))))))))),hF⟩
       rw[if_neg (by rw[aci]; exact Bool.false_ne_true)]at hF
       refine vD ?_
       iterate 2 refine uf ?_
       refine vC (cu (gG (fun f' cs'=>∃(g:Fr),f'=aN g [(0,(.pointer (some ⟨fC,0,some 0⟩))),(2,(.bool ((decide ((0:Int)<(r1.length:Int)))||(decide (((dL.lines.length:Int):Int)<(nU.length:Int))))))]/\aK cs' [bS fC 162 (.agg [zM.v,zN.v,zO.v,wX.v,Gh.v,zP.v,(.int .i64 sN),ym.v].toArray),aR (aI 89 gN) zM.v uF,aR (aI 91 iG) zN.v uG,aR (aI 147 dW) zO.v uH,aD (az 147 fP) YF wX.v FM,aD (az 3 (aj aH)) YG Gh.v FN,aD (az 145 (aj gz)) NR zP.v uI,aD (az 149 (aj gJ)) NS ym.v nU]) ?_ ?_))
       · refine Cm p3.1.v rfl rfl ?_
         refine fQ (.t (.t (.t (.t (.t (.t (.t (.t .h)))))))) (fun hp=>jU (l:=r1.length) nI.h (.tmp rfl rfl) (um hp)) ?_
         refine aO (RB (i:=(r1.length:Int)) (j:=0) (.tmp rfl rfl) (.int _ _)) ?_
         refine Cm (.bool (decide ((0:Int)<(r1.length:Int)))) rfl rfl ?_
         rcases Bool.eq_false_or_eq_true (decide ((0:Int)<(r1.length:Int)))with Rw|Rw
         · rw[Rw]
           try rw[Rw]at hF; dsimp only[cond_true,cond_false]at hF
           iterate 7 refine acr (t:=132) rfl rfl rfl ?_
           refine aO (XJ (b:=true) (u:=(.bool true)) (v:=undef) (.tmp rfl rfl) (.bool _) (.tmp rfl rfl)) ?_
           refine Ca (.bool true) rfl rfl ?_
           refine dI ?_
           exact⟨_,(aG.cons rfl (aG.cons rfl (aG.nil))).eq,(.sel (.cons .h (.rd .h rfl (.rd (.t .h) rfl (.rd (.t (.t .h)) rfl (.cons (.t (.t (.t .h))) (.cons (.t (.t (.t .h))) (.cons (.t (.t (.t .h))) (.cons (.t (.t (.t .h))) .nil)))))))))⟩
         rw[Rw]
         try rw[Rw]at hF; dsimp only[cond_true,cond_false]at hF
         refine vQ (t:=132) rfl rfl rfl ?_
         refine Cm (.pointer (some ⟨fC,0,some 0⟩)) rfl rfl ?_
         refine vQ (t:=132) rfl rfl rfl ?_
         refine aO (mR (v:=(.pointer (some ⟨fC,0,some 0⟩))) rfl (.tmp rfl rfl)) ?_
         refine vQ (t:=132) rfl rfl rfl ?_
         refine aO (gU (off:=7) aiN.h (.tmp rfl rfl)) ?_
         refine vQ (t:=132) rfl rfl rfl ?_
         refine fQ .h (fun hp=>fI (v:=ym.v) acB.h (.tmp rfl rfl) hp.2 rfl rfl) ?_
         refine vQ (t:=132) rfl rfl rfl ?_
         refine fQ (.t (.t (.t (.t (.t (.t (.t .h))))))) (fun hp=>jU (l:=nU.length) rH.h (.tmp rfl rfl) (uh hp)) ?_
         refine vQ (t:=132) rfl rfl rfl ?_
         refine Cm (.int .i64 (dL.lines.length:Int)) rfl rfl ?_
         refine vQ (t:=132) rfl rfl rfl ?_
         refine aO (RB (i:=(nU.length:Int)) (j:=(dL.lines.length:Int)) (.tmp rfl rfl) (.tmp rfl rfl)) ?_
         refine aO (XJ (b:=false) (u:=(.bool true)) (v:=(.bool (decide (((dL.lines.length:Int):Int)<(nU.length:Int))))) (.tmp rfl rfl) (.bool _) (.tmp rfl rfl)) ?_
         refine Ca (.bool (decide (((dL.lines.length:Int):Int)<(nU.length:Int)))) rfl rfl ?_
         refine dI ?_
         exact⟨_,(aG.cons rfl (aG.cons rfl (aG.nil))).eq,(.sel (.cons .h (.rd .h rfl (.rd (.t .h) rfl (.rd (.t (.t .h)) rfl (.cons (.t (.t (.t .h))) (.cons (.t (.t (.t .h))) (.cons (.t (.t (.t .h))) (.cons (.t (.t (.t .h))) .nil)))))))))⟩
       rintro _ _ ⟨aFF,rfl,hE⟩
       refine bH hE ?_
       refine Fv ?_
       obtain rfl:=Option.some.inj hF
       exact gL (zM,zN,zO,wX,YF,Gh,YG,zP,NR,ym,NS) (.tmp rfl rfl .nil) rfl (.sel (.cons .h (.rd .h rfl (.rd (.t .h) rfl (.rd (.t (.t .h)) rfl (.cons (.t (.t (.t .h))) (.cons (.t (.t (.t .h))) (.cons (.t (.t (.t .h))) (.cons (.t (.t (.t .h))) .nil)))))))))
     obtain⟨au0,hx1240,hd1241⟩:=bW aju
     have abS:(decide (((oN:Int):Int)<(oP.length:Int)))=true:=decide_eq_true (by omega)
     rw[xJ]at hF
     refine cu (aO (mr (i:=(oN:Int)) (j:=(oP.length:Int)) (.tmp rfl rfl) (.tmp rfl rfl)) ?_)
     refine dI (h_ (jc (b:=(decide (((oN:Int):Int)<(oP.length:Int)))) (.tmp rfl rfl) (fun _=>?_) (fun hb=>absurd (abS.symm.trans hb) (by decide))))
     refine nC (Bh (cu (pY (a:=x1237) rH.h oH.h.sz (.tmp rfl rfl) (.tmp rfl rfl) (.t (.t (.t (.t (.t (.t (.t (.t (.t .h))))))))) (Int.natCast_nonneg oN) hx1240 (fun aFG aFH=>?_))))
     refine ai7 (agA x1237) akr.h oH.h.sz rfl (.tmp rfl rfl) .h aqd (fun NU=>?_)
     refine dx rfl (sD (g:=true) oH.h rfl rfl) (fun aFI=>?_)
     refine dU (.cons .h .nil) (gF (e':=(.agg [(.int .i64 x1237.Rule),(.int .i64 x1237.Access.Method),NU.1.v,(.int .i64 x1237.Fact.Rel),NU.2.v].toArray)) (v:=(.agg [(.int .i64 x1237.Rule),(.int .i64 x1237.Access.Method),NU.1.v,(.int .i64 x1237.Fact.Rel),NU.2.v].toArray)) oH.h.sz (.tmp rfl rfl) (.tmp rfl rfl) rfl rfl rfl rfl rfl) (fun _=>?_)
     refine dI (nQ (Cm (.pointer (some ⟨fC,0,some 0⟩)) rfl rfl ?_))
     refine fQ .h (fun hp=>jw akr.h oH.h.sz rfl (.tmp rfl rfl) hp.2 rfl) ?_
     obtain⟨Cw,au4,hF⟩:=bind_some hF
     refine ald (.cons (.t (.t (.t (.t .h)))) (.rd (.t (.t (.t (.t .h)))) rfl (.rd (.t (.t (.t (.t (.t .h))))) rfl (.rd (.t (.t (.t (.t (.t (.t .h)))))) rfl (.cons (.t (.t (.t (.t (.t (.t (.t .h))))))) (.cons (.t (.t (.t (.t (.t (.t (.t .h))))))) (.cons (.t (.t (.t (.t (.t (.t (.t .h))))))) (.cons (.t (.t (.t (.t (.t (.t (.t .h))))))) (.rd (.t .h) rfl (.rd (.t (.t .h)) rfl .nil)))))))))) (bU akq.h (.cons (.tmp rfl rfl) (.cons (.tmp rfl rfl) .nil)) (@afF fC ({l:=uF,rules:=uG,facts:=uH,r:=({Facts:=oM,Values:=FO,Log:=uI,Rounds:=sN}:Reached),lines:=nU}:under) zM zN zO wX YD Ti YE zP NR ym NS x1237 NU.1 NU.2 _ au4)) (fun yn=>?_)
     refine dI (nQ (aO (mq (i:=(oN:Int)) (j:=1) (.tmp rfl rfl) (.int _ _)) ?_))
     refine Cm (.int .i64 (IntKind.i64.wrap ((oN:Int)+1))) rfl rfl ?_
     refine dI ?_
     have au5:IntKind.i64.wrap ((oN:Int)+1)=((oN+1:Nat):Int):=by rw[fo (by omega) (by omega)]; rfl
     rw[au5]
     exact⟨_,Nat.lt_succ_self _,_,oN+1,Bc,_,_,_,_,_,_,_,_,yn.1,yn.2.1,yn.2.2.1,yn.2.2.2.1,yn.2.2.2.2.1,yn.2.2.2.2.2.1,yn.2.2.2.2.2.2.1,yn.2.2.2.2.2.2.2.1,yn.2.2.2.2.2.2.2.2.1,yn.2.2.2.2.2.2.2.2.2.1,yn.2.2.2.2.2.2.2.2.2.2,rfl,(aG.cons rfl (aG.cons rfl (aG.cons rfl (aG.cons rfl (aG.cons rfl (aG.cons rfl (aG.nil))))))).eq,hd1241,(.sel (.cons .h (.rd .h rfl (.rd (.t .h) rfl (.rd (.t (.t .h)) rfl (.cons (.t (.t (.t .h))) (.cons (.t (.t (.t .h))) (.cons (.t (.t (.t .h))) (.cons (.t (.t (.t .h))) (.rd (.t (.t (.t (.t (.t (.t (.t (.t (.t (.t .h)))))))))) rfl (.rd (.t (.t (.t (.t (.t (.t (.t (.t (.t (.t (.t .h))))))))))) rfl .nil))))))))))),hF⟩
   obtain⟨auZ,au6,au7⟩:=bW ajt
   have abR:(decide (((oO:Int):Int)<(uT.length:Int)))=true:=decide_eq_true (by omega)
   rw[Hu]at hF
   refine cu (aO (mr (i:=(oO:Int)) (j:=(uT.length:Int)) (.tmp rfl rfl) (.tmp rfl rfl)) ?_)
   refine dI (h_ (jc (b:=(decide (((oO:Int):Int)<(uT.length:Int)))) (.tmp rfl rfl) (fun _=>?_) (fun hb=>absurd (abR.symm.trans hb) (by decide))))
   refine nC (Bh (cu (pY (a:=vO) dX.h dA.h.sz (.tmp rfl rfl) (.tmp rfl rfl) (.t (.t (.t (.t (.t (.t (.t (.t (.t (.t .h)))))))))) (Int.natCast_nonneg oO) au6 (fun aFJ aFK=>?_))))
   refine Rn (ky vO) qb.h dA.h.sz rfl (.tmp rfl rfl) .h kL (fun NV=>?_)
   refine dx rfl (sD (g:=true) dA.h rfl rfl) (fun aFL=>?_)
   refine dU (.cons .h .nil) (gF (e':=(.agg [(.int .i64 vO.Rel),NV.v].toArray)) (v:=(.agg [(.int .i64 vO.Rel),NV.v].toArray)) dA.h.sz (.tmp rfl rfl) (.tmp rfl rfl) rfl rfl rfl rfl rfl) (fun _=>?_)
   refine dI (kM [0,1,2,4,3,5,6,7,8] [0,0,0,6,0,30,62,127,255] [3,7] mixed (by decide+kernel) ?_)
   refine Dm Gg.v rfl rfl rfl rfl ?_
   refine Dm (.pointer (some ⟨fC,0,some 0⟩)) rfl rfl rfl rfl ?_
   iterate 2 refine ed rfl .no .h (fun ha hp=>jw qb.h dA.h.sz rfl (EN ha (.tmp rfl rfl) rfl) hp.2 rfl) ?_
   obtain⟨sO,au8,hF⟩:=bind_some hF
   refine XN rfl rfl .no (.cons (.t (.t (.t .h))) (.rd (.t (.t (.t .h))) rfl (.rd (.t (.t (.t (.t .h)))) rfl (.rd (.t (.t (.t (.t (.t .h))))) rfl (.cons (.t (.t (.t (.t (.t (.t .h)))))) (.cons (.t (.t (.t (.t (.t (.t .h)))))) (.cons (.t (.t (.t (.t (.t (.t .h)))))) (.cons (.t (.t (.t (.t (.t (.t .h)))))) (.rd (.t .h) rfl .nil))))))))) (.own .h (fun _ h=>h) (.dep rfl .nil)) (fun ha=>bU axq.h (.cons (EN ha (.tmp rfl rfl) rfl) (.cons (EN ha (.tmp rfl rfl) rfl) .nil)) (@anJ fC ({l:=FP,rules:=FQ,facts:=FR,r:=({Facts:=FT,Values:=FU,Log:=FV,Rounds:=FW}:Reached),lines:=FX}:under) S9 S_ Ta Tc Yz Td YA Te YB Tg YC vO NV _ au8)) (fun yo=>?_)
   refine bQ rfl .no (fun ha=>gy oH.h rfl (vs:=[(.int .i64 sO.1),(.agg [(.int .i64 vO.Rel),NV.v].toArray)]) (.cons (EN ha (.tmp rfl rfl) rfl) (.cons (EN ha (.tmp rfl rfl) rfl) .nil)) (cells:=[(.int .i64 sO.1),(.int .i64 0),(.slice none 0 0),(.int .i64 vO.Rel),NV.v]) rfl) ?_
   refine iq rfl .no rfl (fun ha=>bV (g:=true) (len:=1) (parts:=[(0,.tmp 92)]) rH.h oH.h (.cons (EN ha (.tmp rfl rfl) rfl) .nil) (vs:=[(.agg [(.int .i64 sO.1),(.int .i64 0),(.slice none 0 0),(.int .i64 vO.Rel),NV.v].toArray)]) rfl rfl rfl (by intro v hv; simp at hv; rcases hv with rfl<;>rfl)) (fun aFM=>?_)
   refine NC .nil (BC (R:=aH) (E:=3)) dm ?_
   refine NC (.cons (.t .h) (.cons .h (.rd (.t (.t (.t (.t (.t (.t (.t (.t (.t .h))))))))) rfl .nil))) (bY (Ro:=(aj gJ)) (E:=149) (F:=([]++[])) (xs:=([({Rule:=sO.1,Access:=({Method:=0,Values:=[]}:Access),Fact:=vO}:Line)]:List Line)) (eF (XY (v0:=⟨none,0,0⟩) (a:=({Rule:=sO.1,Access:=({Method:=0,Values:=[]}:Access),Fact:=vO}:Line))) bX dm) rfl rfl) dm ?_
   obtain⟨akT,au9,hF⟩:=bind_some hF
   refine df rfl rfl .no (.cons (.t (.t (.t (.t (.t (.t (.t (.t (.t (.t (.t (.t (.t (.t (.t (.t .h)))))))))))))))) (.cons .h .nil)) (.dep rfl (.dep rfl (.dep rfl .nil))) (fun ha=>ek (Ro:=(aj gJ)) rH.h XZ oH.h rfl rfl rfl (EN ha (.tmp rfl rfl) rfl) (EN ha (.tmp rfl rfl) rfl) au9 fM) (fun ade=>?_)
   refine Da ade.1.v rfl rfl rfl rfl ?_
   refine p_ (nQ (aO (mq (i:=(oO:Int)) (j:=1) (.tmp rfl rfl) (.int _ _)) ?_))
   refine Cm (.int .i64 (IntKind.i64.wrap ((oO:Int)+1))) rfl rfl ?_
   refine dI ?_
   have au_:IntKind.i64.wrap ((oO:Int)+1)=((oO+1:Nat):Int):=by rw[fo (by omega) (by omega)]; rfl
   rw[au_]
   exact⟨_,Nat.lt_succ_self _,_,oO+1,Bd,_,_,_,_,_,_,_,_,_,yo.1,yo.2.1,yo.2.2.1,yo.2.2.2.1,yo.2.2.2.2.1,yo.2.2.2.2.2.1,yo.2.2.2.2.2.2.1,yo.2.2.2.2.2.2.2.1,yo.2.2.2.2.2.2.2.2.1,yo.2.2.2.2.2.2.2.2.2.1,yo.2.2.2.2.2.2.2.2.2.2,ade.1,ade.2,rfl,(aG.cons rfl (aG.cons rfl (aG.cons rfl (aG.cons rfl (aG.cons rfl (aG.cons rfl (aG.cons rfl (aG.nil)))))))).eq,au7,(.sel (.cons (.t .h) (.rd (.t .h) rfl (.rd (.t (.t .h)) rfl (.rd (.t (.t (.t .h))) rfl (.cons (.t (.t (.t (.t .h)))) (.cons (.t (.t (.t (.t .h)))) (.cons (.t (.t (.t (.t .h)))) (.cons (.t (.t (.t (.t .h)))) (.rd (.t (.t (.t (.t (.t (.t (.t (.t (.t (.t .h)))))))))) rfl (.cons .h (.rd (.t (.t (.t (.t (.t (.t (.t (.t (.t (.t .h)))))))))) rfl .nil)))))))))))),hF⟩
 obtain⟨aza,azf,azg⟩:=bW akV
 have ach:(decide (((nN:Int):Int)<(r1.length:Int)))=true:=decide_eq_true (by omega)
 rw[zk]at hF
 refine cu (aO (mr (i:=(nN:Int)) (j:=(r1.length:Int)) (.tmp rfl rfl) (.tmp rfl rfl)) ?_)
 refine dI (h_ (jc (b:=(decide (((nN:Int):Int)<(r1.length:Int)))) (.tmp rfl rfl) (fun _=>?_) (fun hb=>absurd (ach.symm.trans hb) (by decide))))
 refine nC ?_
 obtain⟨Yy,atf,ajz⟩:=bind_some hF
 refine fD (fun f' cs'=>∃(SI:List Method)(SK:List Rule)(SN:List Fact)(SQ:List Fact)(SS:List Int)(SV:List Access)(SX:Int)(SY:List Line)(YH:Sv)(YI:Sv)(YJ:Sv)(YK:Sv)(adf:List Nat)(YL:Sv)(adg:List Nat)(YM:Sv)(adh:List Nat)(YN:Sv)(adi:List Nat)(g:Fr),Yy=(SI,SK,SN,SQ,SS,SV,SX,SY)/\f'=aN g [(0,(.pointer (some ⟨fC,0,some 0⟩))),(3,(.int .i64 (dL.lines.length:Int))),(4,p3.1.v),(30,p3.1.v),(31,(.int .i64 (r1.length:Int))),(32,(.int .i64 (nN:Int)))]/\aK cs' [bS fC 162 (.agg [YH.v,YI.v,YJ.v,YK.v,YL.v,YM.v,(.int .i64 SX),YN.v].toArray),aR (aI 89 gN) YH.v SI,aR (aI 91 iG) YI.v SK,aR (aI 147 dW) YJ.v SN,aD (az 147 fP) adf YK.v SQ,aD (az 3 (aj aH)) adg YL.v SS,aD (az 145 (aj gz)) adh YM.v SV,aD (az 149 (aj gJ)) adi YN.v SY,aR (aI 145 gz) p3.1.v r1]) ?_ ?_
 · replace hF:=atf
   refine aY (cu (pY (a:=qh) nI.h kQ.h.sz (.tmp rfl rfl) (.tmp rfl rfl) (.t (.t (.t (.t (.t (.t (.t (.t .h)))))))) (Int.natCast_nonneg nN) azf (fun aFN aFO=>?_)))
   refine Rn (PS qh) RS.h kQ.h.sz rfl (.tmp rfl rfl) .h WC (fun J2=>?_)
   refine dx rfl (sD (g:=true) kQ.h rfl rfl) (fun akZ=>?_)
   refine dU (.cons .h .nil) (gF (e':=(.agg [(.int .i64 qh.Method),J2.v].toArray)) (v:=(.agg [(.int .i64 qh.Method),J2.v].toArray)) kQ.h.sz (.tmp rfl rfl) (.tmp rfl rfl) rfl rfl rfl rfl rfl) (fun _=>?_)
   refine dI (dS [0,1,2,3,4,5,6,7,8,9,10,11,12] [0,0,2,6,14,30,0,64,254,511,1023,2047,4095] [8,12] mixed (by decide+kernel) ?_)
   iterate 2 refine Dm (.pointer (some ⟨fC,0,some 0⟩)) rfl rfl rfl rfl ?_
   refine bQ rfl .no (fun ha=>mR (v:=(.pointer (some ⟨fC,0,some 0⟩))) rfl (EN ha (.tmp rfl rfl) rfl)) ?_
   refine bQ rfl .no (fun ha=>gU (off:=3) Ju.h (EN ha (.tmp rfl rfl) rfl)) ?_
   refine bQ rfl .no (fun ha=>gU (off:=2) XA.h (EN ha (.tmp rfl rfl) rfl)) ?_
   refine ed rfl .no (.t (.t (.t .h))) (fun ha hp=>fI (v:=UH.v) als.h (EN ha (.tmp rfl rfl) rfl) hp.2 rfl rfl) ?_
   refine ed rfl .no .h (fun ha hp=>jw RS.h kQ.h.sz rfl (EN ha (.tmp rfl rfl) rfl) hp.2 rfl) ?_
   refine iq rfl .no rfl (fun ha=>bV (g:=true) (len:=1) (parts:=[(0,.tmp 42)]) nI.h kQ.h (.cons (EN ha (.tmp rfl rfl) rfl) .nil) (vs:=[(.agg [(.int .i64 qh.Method),J2.v].toArray)]) rfl rfl rfl (by intro v hv; simp at hv; rcases hv with rfl<;>rfl)) (fun aFP=>?_)
   refine NC (.cons .h (.rd (.t .h) rfl .nil)) (bY (Ro:=(aj gz)) (E:=145) (F:=([]++[])) (xs:=([qh]:List Access)) (eF akf bX dm) rfl rfl) dm ?_
   obtain⟨akU,au',hF⟩:=bind_some hF
   refine df rfl rfl .no (.cons (.t (.t (.t (.t (.t (.t (.t (.t (.t (.t .h)))))))))) (.cons .h .nil)) (.dep rfl (.dep rfl (.dep rfl .nil))) (fun ha=>ek (Ro:=(aj gz)) nI.h Y1 kQ.h rfl rfl rfl (EN ha (.tmp rfl rfl) rfl) (EN ha (.tmp rfl rfl) rfl) au' fM) (fun adj=>?_)
   refine bQ rfl .no (fun ha=>mR (v:=(.pointer (some ⟨fC,0,some 0⟩))) rfl (EN ha (.tmp rfl rfl) rfl)) ?_
   refine bQ rfl .no (fun ha=>gU (off:=3) Ju.h (EN ha (.tmp rfl rfl) rfl)) ?_
   refine bQ rfl .no (fun ha=>gU (off:=2) XA.h (EN ha (.tmp rfl rfl) rfl)) ?_
   refine df rfl rfl .no (.cons (.t (.t (.t (.t .h)))) .nil) (.dep rfl (.dep rfl (.dep rfl .nil))) (fun ha=>gF (e':=(.agg [GD.v,GG.v,GH.v,GI.v,Oq.v,adj.1.v,(.int .i64 GA),Ot.v].toArray)) alu.h.sz (EN ha (.tmp rfl rfl) rfl) (EN ha (.tmp rfl rfl) rfl) rfl rfl rfl rfl rfl) (fun _=>?_)
   refine p_ (dS [0,1,2,3,4,5,6,7,8,11,9,10] [0,1,3,7,0,16,48,112,0,511,1023,0] [9] mixed (by decide+kernel) ?_)
   refine Dm (.pointer (some ⟨fC,0,some 0⟩)) rfl rfl rfl rfl ?_
   refine bQ rfl .no (fun ha=>mR (v:=(.pointer (some ⟨fC,0,some 0⟩))) rfl (EN ha (.tmp rfl rfl) rfl)) ?_
   refine bQ rfl .no (fun ha=>gU (off:=0) aiO.h (EN ha (.tmp rfl rfl) rfl)) ?_
   refine ed rfl .no .h (fun ha hp=>fI (v:=GD.v) alz.h (EN ha (.tmp rfl rfl) rfl) hp.2 rfl rfl) ?_
   refine Dm (.pointer (some ⟨fC,0,some 0⟩)) rfl rfl rfl rfl ?_
   refine bQ rfl .no (fun ha=>mR (v:=(.pointer (some ⟨fC,0,some 0⟩))) rfl (EN ha (.tmp rfl rfl) rfl)) ?_
   refine bQ rfl .no (fun ha=>gU (off:=2) as2.h (EN ha (.tmp rfl rfl) rfl)) ?_
   refine ed rfl .no .h (fun ha hp=>fI (v:=GH.v) nJ.h (EN ha (.tmp rfl rfl) rfl) hp.2 rfl rfl) ?_
   refine ed rfl .no (.t (.t .h)) (fun ha hp=>jw RS.h kQ.h.sz rfl (EN ha (.tmp rfl rfl) rfl) hp.2 rfl) ?_
   refine bQ rfl .no (fun ha=>eH (v:=(.int .i64 0)) (EN ha (.int _ _) rfl)) ?_
   obtain⟨uJ,ava,hF⟩:=bind_some hF
   refine df rfl rfl .no (.rd (.t (.t (.t (.t (.t .h))))) rfl (.rd (.t (.t (.t (.t (.t (.t (.t .h))))))) rfl (.rd (.t (.t (.t .h))) rfl .nil))) (.dep rfl (.dep rfl (.dep rfl .nil))) (fun ha=>bU axn.h (.cons (EN ha (.tmp rfl rfl) rfl) (.cons (EN ha (.tmp rfl rfl) rfl) (.cons (EN ha (.tmp rfl rfl) rfl) .nil))) (@apT C_ GD Dc GH qh J2 _ ava)) (fun adk=>?_)
   refine ed rfl .no .h (fun ha hp=>jU (l:=uJ.length) dX.h (EN ha (.tmp rfl rfl) rfl) (uh hp)) ?_
   refine p_ (aY (jM .h bq ?_))
   refine bK (m:=uJ.length) (fun ak0 f' cs'=>∃(g:Fr)(oQ:Nat)(Be:List Fact)(FY:List Method)(FZ:List Rule)(F3:List Fact)(F9:List Fact)(F_:List Int)(Gc:List Access)(Gd:Int)(Gf:List Line)(Tj:Sv)(Tk:Sv)(Tm:Sv)(Tn:Sv)(YO:List Nat)(Tp:Sv)(YP:List Nat)(Tq:Sv)(YQ:List Nat)(Tt:Sv)(YR:List Nat),ak0=Be.length/\f'=aN g [(0,(.pointer (some ⟨fC,0,some 0⟩))),(3,(.int .i64 (dL.lines.length:Int))),(4,p3.1.v),(6,(.pointer (some ⟨akZ,0,some 0⟩))),(30,p3.1.v),(31,(.int .i64 (r1.length:Int))),(32,(.int .i64 (nN:Int))),(57,adk.1.v),(58,(.int .i64 (uJ.length:Int))),(59,(.int .i64 (oQ:Int)))]/\List.drop oQ uJ=Be/\aK cs' [bS fC 162 (.agg [Tj.v,Tk.v,Tm.v,Tn.v,Tp.v,Tq.v,(.int .i64 Gd),Tt.v].toArray),aR (aI 89 gN) Tj.v FY,aR (aI 91 iG) Tk.v FZ,aR (aI 147 dW) Tm.v F3,aD (az 147 fP) YO Tn.v F9,aD (az 3 (aj aH)) YP Tp.v F_,aD (az 145 (aj gz)) YQ Tq.v Gc,aD (az 149 (aj gJ)) YR Tt.v Gf,aR (aI 145 gz) p3.1.v r1,bS akZ 145 (.agg [(.int .i64 qh.Method),J2.v].toArray),aR (aI 3 aH) J2.v qh.Values,aR (aI 147 dW) adk.1.v uJ]/\Hw qh Be oQ FY FZ F3 F9 F_ Gc Gd Gf=some Yy) ⟨_,0,_,_,_,_,_,_,_,_,_,GD,GG,GH,GI,ZI,Oq,ZJ,adj.1,adj.2,Ot,ZK,rfl,(aG.cons rfl (aG.cons rfl (aG.cons rfl (aG.cons rfl (aG.cons rfl (aG.cons rfl (aG.cons rfl (aG.cons rfl (aG.cons rfl (aG.cons rfl (aG.nil))))))))))).eq,rfl,(.sel (.cons (.t .h) (.rd (.t (.t (.t (.t (.t .h))))) rfl (.rd (.t (.t (.t (.t (.t (.t .h)))))) rfl (.rd (.t (.t (.t (.t (.t (.t (.t .h))))))) rfl (.cons (.t (.t (.t (.t (.t (.t (.t (.t .h)))))))) (.cons (.t (.t (.t (.t (.t (.t (.t (.t .h)))))))) (.cons (.t .h) (.cons (.t (.t (.t (.t (.t (.t (.t .h))))))) (.rd (.t (.t (.t (.t (.t (.t (.t .h))))))) rfl (.cons (.t .h) (.rd (.t .h) rfl (.rd .h rfl .nil))))))))))))),hF⟩ ?_
   clear hF
   rintro ak0 _ _ ⟨aFQ,oQ,Be,FY,FZ,F3,F9,F_,Gc,Gd,Gf,Tj,Tk,Tm,Tn,YO,Tp,YP,Tq,YQ,Tt,YR,rfl,rfl,ajA,hE,hF⟩
   refine bH hE ?_
   clear hE
   refine uu (c:=aR (aI 147 dW) adk.1.v uJ) (.t (.t (.t (.t (.t (.t (.t (.t (.t (.t (.t .h))))))))))) zn (fun aCn=>?_)
   rcases Be with _|⟨Cx,Be⟩
   · have avb:=List.drop_eq_nil_iff.1 ajA
     have abT:(decide (((oQ:Int):Int)<(uJ.length:Int)))=false:=decide_eq_false (by omega)
     rw[Hw]at hF
     refine cu (aO (mr (i:=(oQ:Int)) (j:=(uJ.length:Int)) (.tmp rfl rfl) (.tmp rfl rfl)) ?_)
     refine dI (h_ (jc (b:=(decide (((oQ:Int):Int)<(uJ.length:Int)))) (.tmp rfl rfl) (fun hb=>absurd (abT.symm.trans hb) (by decide)) (fun _=>?_)))
     refine vD ?_
     iterate 2 refine uf ?_
     refine vC ?_
     obtain rfl:=Option.some.inj hF
     exact⟨_,_,_,_,_,_,_,_,Tj,Tk,Tm,Tn,YO,Tp,YP,Tq,YQ,Tt,YR,_,rfl,(aG.cons rfl (aG.cons rfl (aG.cons rfl (aG.cons rfl (aG.cons rfl (aG.cons rfl (aG.nil))))))).eq,(.sel (.cons .h (.rd .h rfl (.rd (.t .h) rfl (.rd (.t (.t .h)) rfl (.cons (.t (.t (.t .h))) (.cons (.t (.t (.t .h))) (.cons (.t (.t (.t .h))) (.cons (.t (.t (.t .h))) (.rd (.t (.t (.t .h))) rfl .nil))))))))))⟩
   obtain⟨avb,avc,avd⟩:=bW ajA
   have abT:(decide (((oQ:Int):Int)<(uJ.length:Int)))=true:=decide_eq_true (by omega)
   rw[Hw]at hF
   refine cu (aO (mr (i:=(oQ:Int)) (j:=(uJ.length:Int)) (.tmp rfl rfl) (.tmp rfl rfl)) ?_)
   refine dI (h_ (jc (b:=(decide (((oQ:Int):Int)<(uJ.length:Int)))) (.tmp rfl rfl) (fun _=>?_) (fun hb=>absurd (abT.symm.trans hb) (by decide))))
   refine nC (Bh (cu (pY (a:=Cx) dX.h dA.h.sz (.tmp rfl rfl) (.tmp rfl rfl) (.t (.t (.t (.t (.t (.t (.t (.t (.t (.t (.t .h))))))))))) (Int.natCast_nonneg oQ) avc (fun aFR aFS=>?_))))
   refine Rn (ky Cx) qb.h dA.h.sz rfl (.tmp rfl rfl) .h kL (fun Tu=>?_)
   refine dx rfl (sD (g:=true) dA.h rfl rfl) (fun aFT=>?_)
   refine dU (.cons .h .nil) (gF (e':=(.agg [(.int .i64 Cx.Rel),Tu.v].toArray)) (v:=(.agg [(.int .i64 Cx.Rel),Tu.v].toArray)) dA.h.sz (.tmp rfl rfl) (.tmp rfl rfl) rfl rfl rfl rfl rfl) (fun _=>?_)
   refine dI (kM [0,1,3,2,4,5] [0,0,2,0,14,31] [2,5] mixed (by decide+kernel) ?_)
   refine Dm (.pointer (some ⟨fC,0,some 0⟩)) rfl rfl rfl rfl ?_
   refine ed rfl .no (.t (.t (.t (.t (.t (.t (.t (.t (.t (.t (.t (.t .h)))))))))))) (fun ha hp=>jw RS.h kQ.h.sz rfl (EN ha (.tmp rfl rfl) rfl) hp.2 rfl) ?_
   refine ed rfl .no .h (fun ha hp=>jw qb.h dA.h.sz rfl (EN ha (.tmp rfl rfl) rfl) hp.2 rfl) ?_
   obtain⟨NQ,ave,hF⟩:=bind_some hF
   refine df rfl rfl .no (.rd (.t (.t (.t (.t (.t (.t (.t (.t (.t (.t (.t (.t (.t .h))))))))))))) rfl .nil) (.own .h (fun _ h=>h) (.dep rfl .nil)) (fun ha=>zD (post':=fun NW:Sv×List Nat=>[aR (aI 3 aH) NW.1.v NQ.Values]) (fun NW=>(.frz .h bq (.sel (.rd .h rfl .nil)))) (bU axo.h (.cons (EN ha (.tmp rfl rfl) rfl) .nil) (@aoi qh J2 _ ave))) (fun NW=>?_)
   refine bQ rfl .no (fun ha=>gy oH.h rfl (vs:=[(.int .i64 (-1)),(.agg [(.int .i64 NQ.Method),NW.1.v].toArray),(.agg [(.int .i64 Cx.Rel),Tu.v].toArray)]) (.cons (EN ha (.int _ _) rfl) (.cons (EN ha (.tmp rfl rfl) rfl) (.cons (EN ha (.tmp rfl rfl) rfl) .nil))) (cells:=[(.int .i64 (-1)),(.int .i64 NQ.Method),NW.1.v,(.int .i64 Cx.Rel),Tu.v]) rfl) ?_
   obtain⟨Cy,avf,hF⟩:=bind_some hF
   refine XN rfl rfl .no (.cons (.t (.t (.t (.t .h)))) (.rd (.t (.t (.t (.t .h)))) rfl (.rd (.t (.t (.t (.t (.t .h))))) rfl (.rd (.t (.t (.t (.t (.t (.t .h)))))) rfl (.cons (.t (.t (.t (.t (.t (.t (.t .h))))))) (.cons (.t (.t (.t (.t (.t (.t (.t .h))))))) (.cons (.t (.t (.t (.t (.t (.t (.t .h))))))) (.cons (.t (.t (.t (.t (.t (.t (.t .h))))))) (.rd .h rfl (.rd (.t (.t .h)) rfl .nil)))))))))) (.dep rfl (.dep rfl .nil)) (fun ha=>bU akq.h (.cons (EN ha (.tmp rfl rfl) rfl) (.cons (EN ha (.tmp rfl rfl) rfl) .nil)) (@afF fC ({l:=FY,rules:=FZ,facts:=F3,r:=({Facts:=F9,Values:=F_,Log:=Gc,Rounds:=Gd}:Reached),lines:=Gf}:under) Tj Tk Tm Tn YO Tp YP Tq YQ Tt YR ({Rule:=(-1),Access:=NQ,Fact:=Cx}:Line) NW.1 Tu _ avf)) (fun yt=>?_)
   refine p_ (nQ (aO (mq (i:=(oQ:Int)) (j:=1) (.tmp rfl rfl) (.int _ _)) ?_))
   refine Cm (.int .i64 (IntKind.i64.wrap ((oQ:Int)+1))) rfl rfl ?_
   refine dI ?_
   have avg:IntKind.i64.wrap ((oQ:Int)+1)=((oQ+1:Nat):Int):=by rw[fo (by omega) (by omega)]; rfl
   rw[avg]
   exact⟨_,Nat.lt_succ_self _,_,oQ+1,Be,_,_,_,_,_,_,_,_,yt.1,yt.2.1,yt.2.2.1,yt.2.2.2.1,yt.2.2.2.2.1,yt.2.2.2.2.2.1,yt.2.2.2.2.2.2.1,yt.2.2.2.2.2.2.2.1,yt.2.2.2.2.2.2.2.2.1,yt.2.2.2.2.2.2.2.2.2.1,yt.2.2.2.2.2.2.2.2.2.2,rfl,(aG.cons rfl (aG.cons rfl (aG.cons rfl (aG.cons rfl (aG.cons rfl (aG.cons rfl (aG.cons rfl (aG.cons rfl (aG.cons rfl (aG.cons rfl (aG.nil))))))))))).eq,avd,(.sel (.cons .h (.rd .h rfl (.rd (.t .h) rfl (.rd (.t (.t .h)) rfl (.cons (.t (.t (.t .h))) (.cons (.t (.t (.t .h))) (.cons (.t (.t (.t .h))) (.cons (.t (.t (.t .h))) (.rd (.t (.t (.t (.t (.t (.t (.t (.t (.t (.t .h)))))))))) rfl (.cons (.t (.t (.t (.t (.t (.t (.t (.t (.t (.t (.t .h))))))))))) (.rd (.t (.t (.t (.t (.t (.t (.t (.t (.t (.t (.t .h))))))))))) rfl (.rd (.t (.t (.t (.t (.t (.t (.t (.t (.t (.t (.t (.t .h)))))))))))) rfl .nil))))))))))))),hF⟩
 rintro _ _ ⟨SI,SK,SN,SQ,SS,SV,SX,SY,YH,YI,YJ,YK,adf,YL,adg,YM,adh,YN,adi,aFU,rfl,rfl,hE⟩
 replace hF:=ajz
 clear ajz
 try dsimp only at hF
 refine bH hE ?_
 refine nQ (aO (mq (i:=(nN:Int)) (j:=1) (.tmp rfl rfl) (.int _ _)) ?_)
 refine Cm (.int .i64 (IntKind.i64.wrap ((nN:Int)+1))) rfl rfl ?_
 refine dI ?_
 have avh:IntKind.i64.wrap ((nN:Int)+1)=((nN+1:Nat):Int):=by rw[fo (by omega) (by omega)]; rfl
 rw[avh]
 exact⟨_,Nat.lt_succ_self _,_,nN+1,Bw,_,_,_,_,_,_,_,_,YH,YI,YJ,YK,adf,YL,adg,YM,adh,YN,adi,rfl,(aG.cons rfl (aG.cons rfl (aG.cons rfl (aG.cons rfl (aG.cons rfl (aG.cons rfl (aG.nil))))))).eq,azg,(.sel (.cons .h (.rd .h rfl (.rd (.t .h) rfl (.rd (.t (.t .h)) rfl (.cons (.t (.t (.t .h))) (.cons (.t (.t (.t .h))) (.cons (.t (.t (.t .h))) (.cons (.t (.t (.t .h))) (.rd (.t (.t (.t .h))) rfl .nil)))))))))),hF⟩
def xK:Nat->(List Method)->(List Rule)->(List Fact)->(List Fact)->(List Int)->(List Access)->Int->(List Line)->Option ((List Method)×(List Rule)×(List Fact)×(List Fact)×(List Int)×(List Access)×Int×(List Line))
 |0,_,_,_,_,_,_,_,_=>none
 |LB+1,yZ,c80,rz,Vw,c87,Vx,c93,Vy=>(Pq (⟨yZ,c80,rz,(⟨Vw,c87,Vx,c93⟩:Reached),Vy⟩:under)).bind fun qi=>
   if qi.1 then (
     xK LB qi.2.l qi.2.rules qi.2.facts qi.2.r.Facts qi.2.r.Values qi.2.r.Log qi.2.r.Rounds qi.2.lines)
   else (
     some (qi.2.l,qi.2.rules,qi.2.facts,qi.2.r.Facts,qi.2.r.Values,qi.2.r.Log,qi.2.r.Rounds,qi.2.lines))
def MF(ai:List Method)(bL:List Rule)(bn:List Fact)(lH:List Int):Option (under):=
 (PI lH).bind fun r1=>
 (xK 4096 ai bL bn r1.Facts r1.Values r1.Log r1.Rounds ([]:List Line)).bind fun o5=>
 match o5 with
 |(c109,nY,UJ,UK,UL,UM,c124,pg)=>some (⟨c109,nY,UJ,(⟨UK,UL,UM,c124⟩:Reached),pg⟩:under)
theorem afG{ai:List Method}{aa:Sv}{bL:List Rule}{aA:Sv}{bn:List Fact}{bi:Sv}{lH:List Int}{gu:Sv}{R:under}(hF:MF ai bL bn lH=some R):
   Fw.Spec Tryz.prog 106 [aa.v,aA.v,bi.v,gu.v] [dO aa ai,dV aA bL,dD bi bn,ag gu lH] (fun p:Nat×Sv×Sv×Sv×Sv×List Nat×Sv×List Nat×Sv×List Nat×Sv×List Nat=>(.pointer (some ⟨p.1,0,some 0⟩))) (fun p=>[bS p.1 162 (zg [p.2.1.v,p.2.2.1.v,p.2.2.2.1.v,p.2.2.2.2.1.v,p.2.2.2.2.2.2.1.v,p.2.2.2.2.2.2.2.2.1.v,(zi R.r.Rounds),p.2.2.2.2.2.2.2.2.2.2.1.v]),dO p.2.1 R.l,dV p.2.2.1 R.rules,dD p.2.2.2.1 R.facts,fV p.2.2.2.2.2.1 p.2.2.2.2.1 R.r.Facts,a_ p.2.2.2.2.2.2.2.1 p.2.2.2.2.2.2.1 R.r.Values,FB p.2.2.2.2.2.2.2.2.2.1 p.2.2.2.2.2.2.2.2.1 R.r.Log,FC p.2.2.2.2.2.2.2.2.2.2.2 p.2.2.2.2.2.2.2.2.2.2.1 R.lines]):=by
 refine Se 20 Tryz.func106 [.tmp 8] ?_
 intro H0 F0
 unfold MF at hF
 refine eD ?_
 refine bnd hF fun r1 hx2 hF=>GN (aog hx2) (fun p3=>?_)
 refine aO (gy axj.h rfl (vs:=[aa.v,aA.v,bi.v,(zg [p3.1.v,p3.2.2.1.v,p3.2.2.2.2.1.v,(zi r1.Rounds)])]) bN (cells:=[aa.v,aA.v,bi.v,p3.1.v,p3.2.2.1.v,p3.2.2.2.2.1.v,(zi r1.Rounds),(.slice none 0 0)]) (by kernel_rfl)) ?_
 refine AbW (fun k4=>?_)
 refine bg ?_
 obtain⟨o5,aBY,hO6⟩:=bind_some hF
 refine fD (fun f' cs'=>∃(c109:List Method)(nY:List Rule)(UJ UK:List Fact)(UL:List Int)(UM:List Access)(c124:Int)(pg:List Line)(ZL yH ZM ZN:Sv)(aeM:List Nat)(ZO:Sv)(aeN:List Nat)(ZP:Sv)(aeO:List Nat)(uR:Sv)(yL:List Nat)(g:Fr),o5=(c109,nY,UJ,UK,UL,UM,c124,pg)/\f'=aN g [(9,(pz k4))]/\aK cs' [bS k4 162 (zg [ZL.v,yH.v,ZM.v,ZN.v,ZO.v,ZP.v,(zi c124),uR.v]),dO ZL c109,dV yH nY,dD ZM UJ,fV aeM ZN UK,a_ aeN ZO UL,FB aeO ZP UM,FC yL uR pg]) ?_ ?_
 · replace hF:=aBY
   refine aY (bK (m:=4096) (fun LB f' cs'=>∃(g:Fr)(yZ:List Method)(c80:List Rule)(rz Vw:List Fact)(c87:List Int)(Vx:List Access)(c93:Int)(Vy:List Line)(v79 v81 v83 v85:Sv)(F86:List Nat)(v88:Sv)(F89:List Nat)(v91:Sv)(F92:List Nat)(v95:Sv)(F96:List Nat),f'=aN g [(9,(pz k4))]/\aK cs' [bS k4 162 (zg [v79.v,v81.v,v83.v,v85.v,v88.v,v91.v,(zi c93),v95.v]),dO v79 yZ,dV v81 c80,dD v83 rz,fV F86 v85 Vw,a_ F89 v88 c87,FB F92 v91 Vx,FC F96 v95 Vy]/\xK LB yZ c80 rz Vw c87 Vx c93 Vy=some o5) ⟨_,_,_,_,_,_,_,_,_,aa,aA,bi,p3.1,p3.2.1,p3.2.2.1,p3.2.2.2.1,p3.2.2.2.2.1,(p3.2.2.2.2.2.take 1),⟨none,0,0⟩,[],ay,(.half .q3 (.conv .nil (fH (Ro:=(aj gJ)) (E:=149)) (.cons .nil) ax)),hF⟩ ?_)
   rintro LB _ _ ⟨g98,yZ,c80,rz,Vw,c87,Vx,c93,Vy,v79,v81,v83,v85,F86,v88,F89,v91,F92,v95,F96,rfl,hE,hF⟩
   refine bH hE ?_
   rcases LB with _|LB
   · rw[xK]at hF
     exact absurd hF (by simp)
   rw[xK]at hF
   refine bC ?_
   refine bnd hF fun qi azh hF=>Cx8 (an3 azh) (fun m_=>?_)
   refine au ?_
   refine Ci hF (fun azi hF=>?_) (fun azi hF=>?_)
   · refine au ?_
     refine aY (nC ?_)
     exact⟨LB,bO _,_,_,_,_,_,_,_,_,_,m_.1,m_.2.1,m_.2.2.1,m_.2.2.2.1,m_.2.2.2.2.1,m_.2.2.2.2.2.1,m_.2.2.2.2.2.2.1,m_.2.2.2.2.2.2.2.1,m_.2.2.2.2.2.2.2.2.1,m_.2.2.2.2.2.2.2.2.2.1,m_.2.2.2.2.2.2.2.2.2.2,ay,ax,hF⟩
   refine aP ?_
   cases hF
   exact⟨_,_,_,_,_,_,_,_,m_.1,m_.2.1,m_.2.2.1,m_.2.2.2.1,m_.2.2.2.2.1,m_.2.2.2.2.2.1,m_.2.2.2.2.2.2.1,m_.2.2.2.2.2.2.2.1,m_.2.2.2.2.2.2.2.2.1,m_.2.2.2.2.2.2.2.2.2.1,m_.2.2.2.2.2.2.2.2.2.2,_,rfl,ay,ax⟩
 rintro _ _ ⟨c109,nY,UJ,UK,UL,UM,c124,pg,ZL,yH,ZM,ZN,aeM,ZO,aeN,ZP,aeO,uR,yL,aBS,rfl,rfl,hE⟩
 replace hF:=hO6
 try dsimp only at hF
 refine bH hE ?_
 refine aX ?_
 cases hF
 exact Er (k4,ZL,yH,ZM,ZN,aeM,ZO,aeN,ZP,aeO,uR,yL)
def Me(fuel:Nat)(ah:List Int)(ai:List Method)(bL:List Rule)(ak:aV):Option (Bool):=
 ((EM ah ai bL).bind fun r4=>
   bif (!r4)then (some true)
   else ((AY ah ak).bind fun r8=>
     some (!r8))).bind fun o2=>
 match o2 with
 |c11=>if c11 then (
     some false)
   else (
     (Mm fuel ak).bind fun iC=>
     if (!iC.2.2)then (
       some false)
     else (
       (E_ bL iC.1).bind fun Oz=>
       (AR ak).bind fun OB=>
       (MF ai bL Oz OB).bind fun iN=>
       (EY ak iC.2.1).bind fun xD=>
       (Ep ak iN.r.Facts xD).bind fun wz=>
       some wz.2))
theorem ae4{fuel:Nat}{ah:List Int}{aa:Sv}{ai:List Method}{aA:Sv}{bL:List Rule}{bi:Sv}{ak:aV}{gu gY:Sv}{R:Bool}(hF:Me fuel ah ai bL ak=some R):
   Fw.Spec Tryz.prog 100 [aa.v,aA.v,bi.v,(zg [gu.v,gY.v])] [ag aa ah,dO aA ai,dV bi bL,ag gu ak.Head,bZ gY ak.Atoms] (fun _:Unit=>(.bool R)) (fun _=>[]):=by
 refine Se 54 Tryz.func100 [.tmp 8] ?_
 intro H0 F0
 unfold Me at hF
 refine au ?_
 refine bM (fun k1=>?_)
 refine bC ?_
 obtain⟨o2,jq,hO3⟩:=bind_some hF
 refine au ?_
 refine gG (fun f' cs'=>∃(c11:Bool)(g:Fr),c11=o2/\f'=aN g [(1,aA.v),(2,bi.v),(7,(pz k1)),(24,(.bool c11))]/\aK cs' [dO aA ai,dV bi bL,aQ k1 39 (zg [gu.v,gY.v]),ag gu ak.Head,bZ gY ak.Atoms]) ?_ ?_
 · replace hF:=jq
   refine bC ?_
   refine bnd hF fun r4 hx5 hF=>bJ (Wi hx5) (fun _=>?_)
   refine bg ?_
   rcases dK (!r4)with dB|dB
   · rw[dB]
     try rw[dB]at hF; dsimp only[bB,bA]at hF
     exact dw hF
   rw[dB]
   try rw[dB]at hF; dsimp only[bB,bA]at hF
   refine aX ?_
   refine bnd hF fun r8 dF hF=>bJ (PE dF) (fun _=>?_)
   exact dw hF
 rintro _ _ ⟨c11,g55,rfl,rfl,hE⟩
 replace hF:=hO3
 try dsimp only at hF
 refine bH hE ?_
 refine Ci hF (fun aBZ hF=>?_) (fun aBZ hF=>?_)
 · exact ze hF
 refine bC ?_
 refine bnd hF fun iC iM hF=>GN (afu iM) (fun ve=>?_)
 refine au ?_
 refine zx ?_
 refine zx ?_
 refine zx ?_
 refine dJ (fun k15=>?_)
 refine au ?_
 refine As (zg [ve.2.2.1.v,ve.2.2.2.2.1.v]) ?_
 refine bF ?_
 refine Ci hF (fun KD hF=>?_) (fun KD hF=>?_)
 · exact ze hF
 refine au ?_
 refine jM (.t .h) bq ?_
 refine jM .q2 bq ?_
 refine jM .q3 bq ?_
 refine dS [0,1,2,3,4,6,13,14,20,5,7,8,9,10,11,12,15,16,17,18,19,21,22] [0,0,0,0,0,24,0,120,254,510,1022,2046,4094,0,0,25086,65535,131071,262143,262143,0,1572863,4194303] [5,7,8,15,16,21] mixed (by decide+kernel) ?_
 refine aAc ?_
 refine ed rfl .no .q3 (fun ha hp=>jw jC.h dY.h.sz rfl (EN ha (.tmp rfl rfl) rfl) hp.2 rfl) ?_
 refine iq rfl .no rfl (fun ha=>sD (g:=true) dY.h rfl rfl) (fun tQ=>?_)
 refine bnd hF fun Oz hx39 hF=>df rfl rfl .no (.rd .q6 rfl (.rd .q3 rfl .nil)) (.own .h (fun _ h=>h) (.own .q4 (fun _ h=>h) .nil)) (fun ha=>zD (post':=fun p40:Sv×List Nat=>[dD p40.1 Oz]) (fun p40=>(.frz .h bq ax)) (bU akm.h (.cons (EN ha (.tmp rfl rfl) rfl) (.cons (EN ha (.tmp rfl rfl) rfl) .nil)) (agK hx39))) (fun p40=>?_)
 refine bnd hF fun OB Gx hF=>df rfl rfl .no (.rd .q9 rfl (.rd .q10 rfl .nil)) (.own (.t .h) (fun _ h=>h) (.own .q5 (fun _ h=>h) .nil)) (fun ha=>zD (post':=fun p43:Sv×List Nat=>[ag p43.1 OB]) (fun p43=>(.frz .h bq ax)) (bU X3.h (.cons (EN ha (.tmp rfl rfl) rfl) .nil) (O7 Gx))) (fun p43=>?_)
 refine bnd hF fun iN xg hF=>XN rfl rfl .no (.rd .q7 rfl (.rd .q8 rfl (.rd (.t .h) rfl (.rd .h rfl .nil)))) (.own .q2 (fun _ h=>h) (.own .q6 (fun _ h=>h) .nil)) (fun ha=>zD (post':=fun p46:Nat×Sv×Sv×Sv×Sv×List Nat×Sv×List Nat×Sv×List Nat×Sv×List Nat=>[bS p46.1 162 (zg [p46.2.1.v,p46.2.2.1.v,p46.2.2.2.1.v,p46.2.2.2.2.1.v,p46.2.2.2.2.2.2.1.v,p46.2.2.2.2.2.2.2.2.1.v,(zi iN.r.Rounds),p46.2.2.2.2.2.2.2.2.2.2.1.v]),dO p46.2.1 iN.l,dV p46.2.2.1 iN.rules,dD p46.2.2.2.1 iN.facts,dD p46.2.2.2.2.1 iN.r.Facts,a_ p46.2.2.2.2.2.2.2.1 p46.2.2.2.2.2.2.1 iN.r.Values,FB p46.2.2.2.2.2.2.2.2.2.1 p46.2.2.2.2.2.2.2.2.1 iN.r.Log,FC p46.2.2.2.2.2.2.2.2.2.2.2 p46.2.2.2.2.2.2.2.2.2.2.1 iN.lines]) (fun p46=>(.frz .q4 bq ax)) (bU ako.h (.cons (EN ha (.tmp rfl rfl) rfl) (.cons (EN ha (.tmp rfl rfl) rfl) (.cons (EN ha (.tmp rfl rfl) rfl) (.cons (EN ha (.tmp rfl rfl) rfl) .nil)))) (afG xg))) (fun p46=>?_)
 refine bQ rfl .no (fun ha=>mR (v:=(.pointer (some ⟨p46.1,0,some 0⟩))) rfl (EN ha (.tmp rfl rfl) rfl)) ?_
 refine cB ?_
 refine ed rfl .no .h (fun ha hp=>fI (v:=p46.2.2.2.2.1.v) nJ.h (EN ha (.tmp rfl rfl) rfl) hp.2 rfl rfl) ?_
 refine bnd hF fun xD CY hF=>df rfl rfl .no (.rd (.t (.t (.t (.t (.t (.t (.t (.t (.t (.t (.t (.t (.t (.t (.t (.t (.t (.t .h)))))))))))))))))) rfl (.rd (.t (.t (.t (.t (.t (.t (.t (.t (.t (.t (.t (.t (.t (.t (.t (.t (.t (.t (.t .h))))))))))))))))))) rfl (.rd .q12 rfl (.rd .q11 rfl .nil)))) (.own .h (fun _ h=>h) (.own .q10 (fun _ h=>h) (.dep rfl .nil))) (fun ha=>zD (post':=fun p49:Sv×List Nat=>[ag p49.1 xD]) (fun p49=>(.frz .h bq ax)) (bU acA.h (.cons (EN ha (.tmp rfl rfl) rfl) (.cons (EN ha (.tmp rfl rfl) rfl) .nil)) (Wx CY))) (fun p49=>?_)
 refine bnd hF fun wz KF hF=>qB rfl rfl .no (.rd (.t (.t (.t (.t (.t (.t (.t (.t (.t (.t (.t (.t (.t (.t (.t (.t (.t (.t (.t .h))))))))))))))))))) rfl (.rd (.t (.t (.t (.t (.t (.t (.t (.t (.t (.t (.t (.t (.t (.t (.t (.t (.t (.t (.t (.t .h)))))))))))))))))))) rfl (.rd .q5 rfl (.rd .h rfl .nil)))) (.dep rfl (.own .q11 (fun _ h=>h) (.dep rfl .nil))) (fun ha=>bU akl.h (.cons (EN ha (.tmp rfl rfl) rfl) (.cons (EN ha (.tmp rfl rfl) rfl) (.cons (EN ha (.tmp rfl rfl) rfl) .nil))) (aft KF)) (fun p52=>?_)
 refine du ?_
 refine bQ rfl .no (fun ha=>oo (l:=[(zg [p52.1.v,p52.2.v]),(.bool wz.2)]) (v:=(zg [p52.1.v,p52.2.v])) (EN ha (.tmp rfl rfl) rfl) rfl) ?_
 refine bQ rfl .no (fun ha=>oo (l:=[(zg [p52.1.v,p52.2.v]),(.bool wz.2)]) (v:=(.bool wz.2)) (EN ha (.tmp rfl rfl) rfl) rfl) ?_
 refine df rfl rfl .no (.cons .q13 .nil) (.dep rfl (.dep rfl (.dep rfl .nil))) (fun ha=>gF (e':=(zg [p52.1.v,p52.2.v])) (v:=(zg [p52.1.v,p52.2.v])) dY.h.sz (EN ha (.tmp rfl rfl) rfl) (EN ha (.tmp rfl rfl) rfl) rfl rfl rfl rfl rfl) (fun _=>?_)
 refine cB ?_
 exact ze hF
def D5(aC:List Rule)(bz:List Int)(fJ:List Method)(iY:aV)(fuel:Nat):List Int->Nat->(List Rule)->Option (Bool)
 |[],k8,c2=>(Me fuel bz fJ c2 iY).bind fun d_=>
   some d_
 |dz::dE,k8,c2=>(ix aC dz).bind fun pK=>
   (app c2 ([pK]:List Rule)).bind fun z30=>
   D5 aC bz fJ iY fuel dE (k8+1) z30
def HY(fuel:Nat)(Cz:List Int)(aC:List Rule)(bz:List Int)(fJ:List Method)(iY:aV):Option (Bool):=
 D5 aC bz fJ iY fuel Cz 0 ([]:List Rule)
theorem aah{fuel:Nat}{Cz:List Int}{aa:Sv}{bD:Nat}{aC:List Rule}{eU:Sv}{dQ:Nat}{bz:List Int}{gI:Sv}{iD:Nat}{fJ:List Method}{l7:Sv}{lZ:Nat}{iY:aV}{qH qI:Sv}{R:Bool}(hF:HY fuel Cz aC bz fJ iY=some R):
   Fw.Spec Tryz.prog 99 [aa.v,(pz bD),(pz dQ),(pz iD),(pz lZ)] [ag aa Cz,aQ bD 35 eU.v,dV eU aC,aQ dQ 22 gI.v,ag gI bz,aQ iD 33 l7.v,dO l7 fJ,aQ lZ 39 (zg [qH.v,qI.v]),ag qH iY.Head,bZ qI iY.Atoms] (fun _:Unit=>(.bool R)) (fun _=>[]):=by
 refine Se 30 Tryz.func99 [.tmp 6] ?_
 intro H0 F0
 unfold HY at hF
 refine aP ?_
 refine dx rfl (bV (g:=true) CJ.h yw.h .nil (vs:=[]) rfl rfl rfl (by simp)) (fun k1=>?_)
 refine dH (.cons .h .nil) (bY (Ro:=(aj iG)) (E:=91) (F:=[]) (xs:=([]:List Rule)) bX rfl rfl) ?_
 refine eD ?_
 refine aY (bK (m:=Cz.length) (fun m6 f' cs'=>∃(g:Fr)(k8:Nat)(dE:List Int)(c2:List Rule)(v3:Sv)(F4:List Nat),m6=dE.length/\f'=aN g [(1,(pz bD)),(2,(pz dQ)),(3,(pz iD)),(4,(pz lZ)),(7,v3.v),(11,aa.v),(12,(zi (Cz.length:Int))),(13,(zi (k8:Int)))]/\List.drop k8 Cz=dE/\aK cs' [aQ bD 35 eU.v,dV eU aC,aQ dQ 22 gI.v,ag gI bz,aQ iD 33 l7.v,dO l7 fJ,aQ lZ 39 (zg [qH.v,qI.v]),ag qH iY.Head,bZ qI iY.Atoms,aAf F4 v3 c2,ag aa Cz]/\D5 aC bz fJ iY fuel dE k8 c2=some R) ⟨_,0,_,_,⟨(some ⟨k1,0,none⟩),0,1⟩,(k1::[]),rfl,ay,rfl,ax,hF⟩ ?_)
 rintro m6 _ _ ⟨g7,k8,dE,c2,v3,F4,rfl,rfl,fZ,hE,hF⟩
 refine Kb hE Cz (fun Cs=>?_)
 rcases dE with _|⟨dz,dE⟩
 · have o7:=dn fZ
   rw[D5]at hF
   refine aP ?_
   refine cO ?_
   refine eG ?_
   refine bnd hF fun d_ gq hF=>dU (.cons .q9 (.rd .q3 rfl (.rd .q5 rfl (.rd .q7 rfl (.rd .q8 rfl .nil))))) (gH bq (fun _=>.nil) (jA (.rd (.t .h) rfl (.rd .q2 rfl (.rd .h rfl (.rd .q3 rfl (.rd .q4 rfl .nil))))) (bU axg.h bN (ae4 gq)))) (fun _=>?_)
   exact ze hF
 obtain⟨o7,iM,o9⟩:=bW fZ
 rw[D5]at hF
 refine aP ?_
 refine cK ?_
 refine bC ?_
 refine Ai iM (fun k20 uY=>?_)
 refine Al dG ?_
 refine bu ?_
 refine zI hF fun pK adG hx25 hF=>?_
 refine Ai hx25 (fun k26 j27=>?_)
 refine iw (zo pK) AV (fun p28=>?_)
 refine dx rfl (bV (g:=true) CJ.h yw.h bN (vs:=[(zg [(zi pK.From),(zi pK.To),p28.v])]) rfl rfl rfl (by intro v hv; simp at hv; rcases hv with rfl<;>rfl)) (fun vv=>?_)
 refine dH (.cons .h (.rd .h rfl .nil)) (bY (Ro:=(aj iG)) (E:=91) (F:=([]++[])) (xs:=([pK]:List Rule)) (eF az5 bX dm) rfl rfl) ?_
 refine bnd hF fun z30 hx31 hF=>dU (.cons .q13 (.cons .h .nil)) (ek (Ro:=(aj iG)) CJ.h alq yw.h rfl rfl rfl (.tmp rfl rfl) (.tmp rfl rfl) hx31 fM) (fun p32=>?_)
 refine bu ?_
 rw[wk k8]
 exact⟨_,bO _,_,k8+1,dE,_,p32.1,p32.2,rfl,ay,o9,ax,hF⟩
def DN(bT:Int)(aC:List Rule)(bz:List Int)(fJ:List Method)(iY:aV)(c3:List Int)(c6:Bool)(c7:Int)(fuel:Nat):Nat->(List Int)->Bool->Int->Option ((List Int)×Bool)
 |0,_,_,_=>none
 |m24+1,c19,wm,c23=>if (decide ((c23:Int)<bT))then (
     ((Kc .i64 c7 c23).bind fun x34=>
       if (((CG .i64 x34 1):Int)==1)then (
         (app c19 ([c23]:List Int)).bind fun z37=>
         some (z37,false))
       else (
         some (c19,wm))).bind fun o32=>
     match o32 with
     |(yY,wB)=>DN bT aC bz fJ iY c3 c6 c7 fuel m24 yY wB (IntKind.i64.wrap (c23+1)))
   else (
     (bif c6 then ((HY fuel c19 aC bz fJ iY).bind fun r49=>
         some r49)
       else (bif (decide (((c19.length:Int):Int)<(c3.length:Int)))then ((HY fuel c19 aC bz fJ iY).bind fun Am=>
           some Am)
         else (bif (((c19.length:Int):Int)==(c3.length:Int))then ((L_ c19 c3).bind fun OG=>
             bif (decide ((OG:Int)<0))then ((HY fuel c19 aC bz fJ iY).bind fun r61=>
               some r61)
             else (some false))
           else (some false)))).bind fun y8=>
     match y8 with
     |c64=>if c64 then (
         some (c19,wm))
       else (
         some (c3,c6)))
def G8(bT:Int)(aC:List Rule)(bz:List Int)(fJ:List Method)(iY:aV)(x1:Int)(fuel:Nat):Nat->(List Int)->Bool->Int->Option ((List Int)×Bool)
 |0,_,_,_=>none
 |m8+1,c3,c6,c7=>if (decide ((c7:Int)<x1))then (
     (DN bT aC bz fJ iY c3 c6 c7 fuel ((bT-0).toNat+2) ([]:List Int) false 0).bind fun o16=>
     match o16 with
     |(mQ,jP)=>G8 bT aC bz fJ iY x1 fuel m8 mQ jP (IntKind.i64.wrap (c7+1)))
   else (
     some (c3,(!c6)))
def OX(fuel:Nat)(bT:Int)(aC:List Rule)(bz:List Int)(fJ:List Method)(iY:aV):Option ((List Int)×Bool):=
 (Ka .i64 1 bT).bind fun x1=>
 G8 bT aC bz fJ iY x1 fuel ((x1-0).toNat+2) ([]:List Int) true 0
theorem anj{fuel:Nat}{bT:Int}{bD:Nat}{aC:List Rule}{eU:Sv}{dQ:Nat}{bz:List Int}{gI:Sv}{iD:Nat}{fJ:List Method}{l7:Sv}{lZ:Nat}{iY:aV}{qH qI:Sv}{R:(List Int)×Bool}(hF:OX fuel bT aC bz fJ iY=some R):
   Fw.Spec Tryz.prog 98 [(zi bT),(.func (.func 99) [].toArray [(pz bD),(pz dQ),(pz iD),(pz lZ)].toArray)] [aQ bD 35 eU.v,dV eU aC,aQ dQ 22 gI.v,ag gI bz,aQ iD 33 l7.v,dO l7 fJ,aQ lZ 39 (zg [qH.v,qI.v]),ag qH iY.Head,bZ qI iY.Atoms] (fun p:Sv×List Nat=>(.tuple [p.1.v,(.bool R.2)].toArray)) (fun p=>[a_ p.2 p.1 R.1]):=by
 refine Se 62 Tryz.func98 [.tmp 4,.tmp 5] ?_
 intro H0 F0
 unfold OX at hF
 refine jD ?_
 refine bnd hF fun x1 hx2 hF=>aO (aj4 (i:=1) (j:=bT) (.int _ _) (.tmp rfl rfl) hx2) ?_
 refine bg ?_
 refine aY (bK (m:=((x1-0).toNat+2)) (fun m8 f' cs'=>∃(g:Fr)(c3:List Int)(c6:Bool)(c7:Int)(v4:Sv)(F5:List Nat),f'=aN g [(0,(zi bT)),(1,(.func (.func 99) [].toArray [(pz bD),(pz dQ),(pz iD),(pz lZ)].toArray)),(6,v4.v),(11,(zi x1)),(12,(zi c7))]/\aK cs' [aQ bD 35 eU.v,dV eU aC,aQ dQ 22 gI.v,ag gI bz,aQ iD 33 l7.v,dO l7 fJ,aQ lZ 39 (zg [qH.v,qI.v]),ag qH iY.Head,bZ qI iY.Atoms,a_ F5 v4 c3,sQ v4.v c6]/\G8 bT aC bz fJ iY x1 fuel m8 c3 c6 c7=some R) ⟨_,_,_,_,⟨none,0,0⟩,[],ay,(.conv .nil (fH (Ro:=(aj aH)) (E:=3)) (.cons .nil) (.conv .nil atN (.cons .nil) ax)),hF⟩ ?_)
 rintro m8 _ _ ⟨g9,c3,c6,c7,v4,F5,rfl,hE,hF⟩
 refine bH hE ?_
 rcases m8 with _|m8
 · rw[G8]at hF
   exact absurd hF (by simp)
 rw[G8]at hF
 refine aP ?_
 refine Ci hF (fun Uh hF=>?_) (fun Uh hF=>?_)
 · refine au ?_
   obtain⟨o16,azj,aB0⟩:=bind_some hF
   refine fD (fun f' cs'=>∃(mQ:List Int)(jP:Bool)(v69:Sv)(LA:List Nat)(g:Fr),o16=(mQ,jP)/\f'=aN g [(0,(zi bT)),(1,(.func (.func 99) [].toArray [(pz bD),(pz dQ),(pz iD),(pz lZ)].toArray)),(6,v69.v),(11,(zi x1)),(12,(zi c7))]/\aK cs' [aQ bD 35 eU.v,dV eU aC,aQ dQ 22 gI.v,ag gI bz,aQ iD 33 l7.v,dO l7 fJ,aQ lZ 39 (zg [qH.v,qI.v]),ag qH iY.Head,bZ qI iY.Atoms,a_ LA v69 mQ,sQ v69.v jP]) ?_ ?_
   · replace hF:=azj
     refine aY (cu (Cm (zi c7) rfl rfl ?_))
     refine bC ?_
     refine dx rfl (bV (g:=true) cz.h cZ.h .nil (vs:=[]) rfl rfl rfl (by simp)) (fun k18=>?_)
     refine dH (.cons .h .nil) (bY (Ro:=(aj aH)) (E:=3) (F:=[]) (xs:=([]:List Int)) bX rfl rfl) ?_
     refine bF ?_
     refine aY (bK (m:=((bT-0).toNat+2)) (fun m24 f' cs'=>∃(g:Fr)(c19:List Int)(wm:Bool)(c23:Int)(v20:Sv)(y7:List Nat),f'=aN g [(0,(zi bT)),(1,(.func (.func 99) [].toArray [(pz bD),(pz dQ),(pz iD),(pz lZ)].toArray)),(6,v4.v),(7,(zi c7)),(8,v20.v),(11,(zi x1)),(12,(zi c7)),(16,(zi bT)),(17,(zi c23))]/\aK cs' [aQ bD 35 eU.v,dV eU aC,aQ dQ 22 gI.v,ag gI bz,aQ iD 33 l7.v,dO l7 fJ,aQ lZ 39 (zg [qH.v,qI.v]),ag qH iY.Head,bZ qI iY.Atoms,a_ F5 v4 c3,sQ v4.v c6,a_ y7 v20 c19,sQ v20.v wm]/\DN bT aC bz fJ iY c3 c6 c7 fuel m24 c19 wm c23=some o16) ⟨_,_,_,_,⟨(some ⟨k18,0,none⟩),0,1⟩,(k18::[]),ay,(.conv .nil atO (.cons .nil) ax),hF⟩ ?_)
     rintro m24 _ _ ⟨U6,c19,wm,c23,v20,y7,rfl,hE,hF⟩
     refine bH hE ?_
     rcases m24 with _|m24
     · rw[DN]at hF
       exact absurd hF (by simp)
     rw[DN]at hF
     refine aP ?_
     refine Ci hF (fun aeP hF=>?_) (fun aeP hF=>?_)
     · refine au ?_
       obtain⟨o32,acH,adT⟩:=bind_some hF
       refine fD (fun f' cs'=>∃(yY:List Int)(wB:Bool)(v42:Sv)(F43:List Nat)(g:Fr),o32=(yY,wB)/\f'=aN g [(0,(zi bT)),(1,(.func (.func 99) [].toArray [(pz bD),(pz dQ),(pz iD),(pz lZ)].toArray)),(6,v4.v),(7,(zi c7)),(8,v42.v),(11,(zi x1)),(12,(zi c7)),(16,(zi bT)),(17,(zi c23))]/\aK cs' [aQ bD 35 eU.v,dV eU aC,aQ dQ 22 gI.v,ag gI bz,aQ iD 33 l7.v,dO l7 fJ,aQ lZ 39 (zg [qH.v,qI.v]),ag qH iY.Head,bZ qI iY.Atoms,a_ F5 v4 c3,sQ v4.v c6,a_ F43 v42 yY,sQ v42.v wB]) ?_ ?_
       · replace hF:=acH
         refine aY (cu (Cm (zi c23) rfl rfl ?_))
         refine aX ?_
         refine bnd hF fun x34 sZ hF=>aO (acv (i:=c7) (j:=c23) (.tmp rfl rfl) (.tmp rfl rfl) sZ) ?_
         refine aO (acw (i:=x34) (j:=1) (.tmp rfl rfl) (.int _ _)) ?_
         refine bg ?_
         refine Ci hF (fun Ku hF=>?_) (fun Ku hF=>?_)
         · refine bC ?_
           refine dx rfl (bV (g:=true) cz.h cZ.h bN (vs:=[(zi c23)]) rfl rfl rfl (by intro v hv; simp at hv; rcases hv with rfl<;>rfl)) (fun gZ=>?_)
           refine dH (.cons .h .nil) (bY (Ro:=(aj aH)) (E:=3) (F:=([]++[])) (xs:=([c23]:List Int)) (eF (jd (fun _=>rfl)) bX dm) rfl rfl) ?_
           refine bnd hF fun z37 hx38 hF=>dU (.cons .q12 (.cons .h .nil)) (ek (Ro:=(aj aH)) cz.h iL cZ.h rfl rfl rfl (.tmp rfl rfl) (.tmp rfl rfl) hx38 fM) (fun p39=>?_)
           refine BB (.cons .h .nil) ((atP (by obtain⟨e,-⟩:=ahN hx38; rw[e]; simp))) dm ?_
           refine bg ?_
           cases hF
           exact⟨_,_,p39.1,p39.2,_,rfl,ay,ax⟩
         refine au ?_
         cases hF
         exact⟨_,_,v20,y7,_,rfl,ay,ax⟩
       rintro _ _ ⟨yY,wB,v42,F43,g45,rfl,rfl,hE⟩
       replace hF:=adT
       try dsimp only at hF
       refine bH hE ?_
       refine aP ?_
       exact⟨m24,bO _,_,_,_,_,v42,F43,ay,ax,hF⟩
     refine aP ?_
     obtain⟨y8,R5,Uv⟩:=bind_some hF
     refine au ?_
     refine gG (fun f' cs'=>∃(c64:Bool)(g:Fr),c64=y8/\f'=aN g [(0,(zi bT)),(1,(.func (.func 99) [].toArray [(pz bD),(pz dQ),(pz iD),(pz lZ)].toArray)),(6,v4.v),(8,v20.v),(11,(zi x1)),(12,(zi c7)),(56,(.bool c64))]/\aK cs' [aQ bD 35 eU.v,dV eU aC,aQ dQ 22 gI.v,ag gI bz,aQ iD 33 l7.v,dO l7 fJ,aQ lZ 39 (zg [qH.v,qI.v]),ag qH iY.Head,bZ qI iY.Atoms,a_ F5 v4 c3,sQ v4.v c6,a_ y7 v20 c19,sQ v20.v wm]) ?_ ?_
     · replace hF:=R5
       refine au ?_
       refine fQ .q10 (fun hp=>asb (u:=v4) cz.h (.tmp rfl rfl) hp) ?_
       refine au ?_
       rcases dK c6 with UN|UN
       · rw[UN]
         try rw[UN]at hF; dsimp only[bB,bA]at hF
         iterate 25 refine au ?_
         refine bnd hF fun r49 Y7 hF=>dU (.cons .q11 (.rd .h rfl (.rd (.t .h) rfl (.rd .q2 rfl (.rd .q3 rfl (.rd .q4 rfl (.rd .q5 rfl (.rd .q6 rfl (.rd .q7 rfl (.rd .q8 rfl .nil)))))))))) (gH bq (fun _=>.nil) (lg adx.h (.tmp rfl rfl) bN (aah Y7))) (fun _=>?_)
         exact dw hF
       rw[UN]
       try rw[UN]at hF; dsimp only[bB,bA]at hF
       refine Cr ?_
       rcases dK (decide (((c19.length:Int):Int)<(c3.length:Int)))with UO|UO
       · rw[UO]
         try rw[UO]at hF; dsimp only[bB,bA]at hF
         refine acC ?_
         refine bnd hF fun Am yJ hF=>dU (.cons .q11 (.rd .h rfl (.rd (.t .h) rfl (.rd .q2 rfl (.rd .q3 rfl (.rd .q4 rfl (.rd .q5 rfl (.rd .q6 rfl (.rd .q7 rfl (.rd .q8 rfl .nil)))))))))) (gH bq (fun _=>.nil) (lg adx.h (.tmp rfl rfl) bN (aah yJ))) (fun _=>?_)
         exact dw hF
       rw[UO]
       try rw[UO]at hF; dsimp only[bB,bA]at hF
       refine Cr ?_
       rcases dK (((c19.length:Int):Int)==(c3.length:Int))with UQ|UQ
       · rw[UQ]
         try rw[UQ]at hF; dsimp only[bB,bA]at hF
         refine aX ?_
         refine bnd hF fun OG aeQ hF=>l9 (.cons .q9 (.cons .q10 .nil)) (jy (pre:=[]) (.cons bq (.cons bq .nil)) (fun _=>.nil) (bU axb.h bN (aeT aeQ))) (fun _=>?_)
         refine bu ?_
         rcases dK (decide ((OG:Int)<0))with UR|UR
         · rw[UR]
           try rw[UR]at hF; dsimp only[bB,bA]at hF
           refine aX ?_
           refine bnd hF fun r61 aB1 hF=>dU (.cons (.t .h) (.rd (.t .h) rfl (.rd .q2 rfl (.rd .q3 rfl (.rd .q4 rfl (.rd .q5 rfl (.rd .q6 rfl (.rd .q7 rfl (.rd .q8 rfl (.rd .q9 rfl .nil)))))))))) (gH bq (fun _=>.nil) (lg adx.h (.tmp rfl rfl) bN (aah aB1))) (fun _=>?_)
           exact dw hF
         rw[UR]
         try rw[UR]at hF; dsimp only[bB,bA]at hF
         exact dw hF
       rw[UQ]
       try rw[UQ]at hF; dsimp only[bB,bA]at hF
       exact dw hF
     rintro _ _ ⟨c64,g66,rfl,rfl,hE⟩
     replace hF:=Uv
     try dsimp only at hF
     refine bH hE ?_
     refine Ci hF (fun aB2 hF=>?_) (fun aB2 hF=>?_)
     · refine aP ?_
       cases hF
       exact⟨_,_,v20,y7,_,rfl,ay,ax⟩
     refine au ?_
     cases hF
     exact⟨_,_,v4,F5,_,rfl,ay,ax⟩
   rintro _ _ ⟨mQ,jP,v69,LA,g72,rfl,rfl,hE⟩
   replace hF:=aB0
   try dsimp only at hF
   refine bH hE ?_
   refine aP ?_
   exact⟨m8,bO _,_,_,_,_,v69,LA,ay,ax,hF⟩
 refine bF ?_
 refine fQ .q10 (fun hp=>asc (u:=v4) cz.h (.tmp rfl rfl) hp) ?_
 refine aP ?_
 cases hF
 exact Er (v4,F5)
def Pk(fuel:Nat)(ah:List Int)(ai:List Method)(bL:List Rule)(ak:aV):Option ((List Int)×Bool):=
 (EM ah ai bL).bind fun r5=>
 if (!r5)then (
   some ([],false))
 else (
   (OX fuel (bL.length:Int) bL ah ai ak).bind fun r8=>
   some (r8.1,r8.2))
theorem anQ{fuel:Nat}{ah:List Int}{aa:Sv}{ai:List Method}{aA:Sv}{bL:List Rule}{bi:Sv}{ak:aV}{gu gY:Sv}{R:(List Int)×Bool}(hF:Pk fuel ah ai bL ak=some R):
   Fw.Spec Tryz.prog 40 [aa.v,aA.v,bi.v,(zg [gu.v,gY.v])] [ag aa ah,dO aA ai,dV bi bL,ag gu ak.Head,bZ gY ak.Atoms] (fun p:Sv×List Nat=>(.tuple [p.1.v,(.bool R.2)].toArray)) (fun p=>[a_ p.2 p.1 R.1]):=by
 refine Se 21 Tryz.func40 [.tmp 8,.tmp 9] ?_
 intro H0 F0
 unfold Pk at hF
 refine au ?_
 refine bM (fun k1=>?_)
 refine bM (fun k2=>?_)
 refine bM (fun k3=>?_)
 refine bM (fun k4=>?_)
 refine eD ?_
 refine bnd hF fun r5 hx6 hF=>bJ (Wi hx6) (fun _=>?_)
 refine bg ?_
 refine Ci hF (fun UB hF=>?_) (fun UB hF=>?_)
 · refine aX ?_
   cases hF
   exact gL (⟨none,0,0⟩,[]) (.tmp rfl rfl (.tmp rfl rfl .nil)) rfl (.conv .nil (fH (Ro:=(aj aH)) (E:=3)) (.cons .nil) (.sel (.cons .h .nil)))
 refine aP ?_
 refine aO (rC (fn:=.func 99) (vs:=[]) (us:=[(pz k3),(pz k1),(pz k2),(pz k4)]) .nil bN) ?_
 refine bnd hF fun r8 dF hF=>fq (anj dF) (fun ny=>?_)
 refine zx ?_
 refine zx ?_
 refine aP ?_
 cases hF
 exact Er (ny.1,ny.2)
def Iq(OH:List (List UInt8))(Tv:List UInt8):Option (List UInt8):=
 if OH.length<4294967296/\(Lib.join OH Tv).length<4294967296 then some (Lib.join OH Tv)else none
theorem afo{OH:List (List UInt8)}{aa:Sv}{Tv R:List UInt8}(hF:Iq OH Tv=some R):
   Fw.Spec Tryz.prog 102 [aa.v,sv Tv] [zr9 aa OH] (fun _:Unit=>(sv R)) (fun _=>[]):=by
 unfold Iq at hF
 split at hF
 · rename_i h
   cases hF
   exact arH KV.h.sz (Go.Proofs.Any.strings_Join_none aiP extra) (Go.Proofs.Any.strings_Join aiP extra) h.1 h.2
 · simp at hF
def Pm(bT:Int):Option (List UInt8):=
 if -9223372036854775808<=bT/\bT<=9223372036854775807 then some (Lib.itoa bT)else none
theorem anR{bT:Int}{R:List UInt8}(hF:Pm bT=some R):
   Fw.Spec Tryz.prog 189 [.int .i64 bT] [] (fun _:Unit=>(sv R)) (fun _=>[]):=by
 unfold Pm at hF
 split at hF
 · rename_i h
   cases hF
   exact arG fun w hv=>Go.Proofs.Any.strconv_Itoa asg bT h.1 h.2 w (xq.var (fun _ h=>h) hv.choose_spec)
 · simp at hF
def EG(bT:Int):Option ((List UInt8)):=
 (Pm bT).bind fun r1=>
 some r1
theorem afV{bT:Int}{R:(List UInt8)}(hF:EG bT=some R):
   Fw.Spec Tryz.prog 101 [(zi bT)] [] (fun _:Unit=>(sv R)) (fun _=>[]):=by
 refine Se 5 Tryz.func101 [.tmp 2] ?_
 intro H0 F0
 unfold EG at hF
 refine aX ?_
 refine bnd hF fun r1 hx2 hF=>bJ (anR hx2) (fun _=>?_)
 exact ze hF
def xP(Df:List UInt8):List Int->Nat->(List (List UInt8))->Option ((List UInt8))
 |[],k8,c2=>(Iq c2 Df).bind fun d_=>
   some d_
 |dz::dE,k8,c2=>(EG dz).bind fun iV=>
   (app c2 ([iV]:List (List UInt8))).bind fun z26=>
   xP Df dE (k8+1) z26
def Bf(ai:List Int)(Df:List UInt8):Option ((List UInt8)):=
 xP Df ai 0 ([]:List (List UInt8))
theorem aaU{ai:List Int}{aa:Sv}{Df:List UInt8}{R:(List UInt8)}(hF:Bf ai Df=some R):
   Fw.Spec Tryz.prog 41 [aa.v,(sv Df)] [ag aa ai] (fun _:Unit=>(sv R)) (fun _=>[]):=by
 refine Se 24 Tryz.func41 [.tmp 4] ?_
 intro H0 F0
 unfold Bf at hF
 refine aP ?_
 refine dx rfl (bV (g:=true) NH.h KV.h .nil (vs:=[]) rfl rfl rfl (by simp)) (fun k1=>?_)
 refine dH (.cons .h .nil) (bY (Ro:=(aj rdStr)) (E:=9) (F:=[]) (xs:=([]:List (List UInt8))) bX rfl rfl) ?_
 refine eD ?_
 refine aY (bK (m:=ai.length) (fun m6 f' cs'=>∃(g:Fr)(k8:Nat)(dE:List Int)(c2:List (List UInt8))(v3:Sv)(F4:List Nat),m6=dE.length/\f'=aN g [(1,(sv Df)),(5,v3.v),(9,aa.v),(10,(zi (ai.length:Int))),(11,(zi (k8:Int)))]/\List.drop k8 ai=dE/\aK cs' [zp9 F4 v3 c2,ag aa ai]/\xP Df dE k8 c2=some R) ⟨_,0,_,_,⟨(some ⟨k1,0,none⟩),0,1⟩,(k1::[]),rfl,ay,rfl,ax,hF⟩ ?_)
 rintro m6 _ _ ⟨g7,k8,dE,c2,v3,F4,rfl,rfl,fZ,hE,hF⟩
 refine Kb hE ai (fun Cs=>?_)
 rcases dE with _|⟨dz,dE⟩
 · have o7:=dn fZ
   rw[xP]at hF
   refine aP ?_
   refine cO ?_
   refine bF ?_
   refine bnd hF fun d_ gq hF=>dU (.cons .h .nil) (gH bq (fun _=>.nil) (bU aks.h bN (afo gq))) (fun _=>?_)
   exact ze hF
 obtain⟨o7,iM,o9⟩:=bW fZ
 rw[xP]at hF
 refine aP ?_
 refine cK ?_
 refine bC ?_
 refine Ai iM (fun k20 uY=>?_)
 refine Al dG ?_
 refine aX ?_
 refine bnd hF fun iV tq hF=>bJ (afV tq) (fun _=>?_)
 refine dx rfl (bV (g:=true) NH.h KV.h bN (vs:=[(sv iV)]) rfl rfl rfl (by intro v hv; simp at hv; rcases hv with rfl<;>rfl)) (fun k25=>?_)
 refine dH (.cons .h .nil) (bY (Ro:=(aj rdStr)) (E:=9) (F:=([]++[])) (xs:=([iV]:List (List UInt8))) (eF (jd (fun _=>rfl)) bX dm) rfl rfl) ?_
 refine bnd hF fun z26 hx27 hF=>dU (.cons .q2 (.cons .h .nil)) (ek (Ro:=(aj rdStr)) NH.h akt KV.h rfl rfl rfl (.tmp rfl rfl) (.tmp rfl rfl) hx27 fM) (fun p28=>?_)
 refine bu ?_
 rw[wk k8]
 exact⟨_,bO _,_,k8+1,dE,_,p28.1,p28.2,rfl,ay,o9,ax,hF⟩
def O1(fuel:Nat)(ah:List Int)(ai:List Method)(bL:List Rule)(ak:aV):Option (sj×Bool):=
 ((EM ah ai bL).bind fun r5=>
   bif (!r5)then (some true)
   else ((AY ah ak).bind fun r9=>
     bif (!r9)then (some true)
     else ((Me fuel ah ai bL ak).bind fun mK=>
       some mK))).bind fun o3=>
 match o3 with
 |c16=>if c16 then (
     some ((⟨[],[],[]⟩:sj),false))
   else (
     (Mm fuel ak).bind fun d_=>
     if (!d_.2.2)then (
       some ((⟨[],[],[]⟩:sj),false))
     else (
       (E_ bL d_.1).bind fun jr=>
       (AR ak).bind fun pQ=>
       (MF ai bL jr pQ).bind fun rZ=>
       (MO rZ.r.Facts).bind fun wu=>
       (EY ak d_.2.1).bind fun r36=>
       some ((⟨jr,wu,r36⟩:sj),true)))
theorem anr{fuel:Nat}{ah:List Int}{aa:Sv}{ai:List Method}{aA:Sv}{bL:List Rule}{bi:Sv}{ak:aV}{gu gY:Sv}{R:sj×Bool}(hF:O1 fuel ah ai bL ak=some R):
   Fw.Spec Tryz.prog 42 [aa.v,aA.v,bi.v,(zg [gu.v,gY.v])] [ag aa ah,dO aA ai,dV bi bL,ag gu ak.Head,bZ gY ak.Atoms] (fun p:Sv×Sv×List Nat×Sv×List Nat=>(.tuple [(zg [p.1.v,p.2.1.v,p.2.2.2.1.v]),(.bool R.2)].toArray)) (fun p=>[dD p.1 R.1.All,fV p.2.2.1 p.2.1 R.1.Some,a_ p.2.2.2.2 p.2.2.2.1 R.1.Tuple]):=by
 refine Se 61 Tryz.func42 [.cell 8 85,.tmp 9] ?_
 intro H0 F0
 unfold O1 at hF
 refine au ?_
 refine bM (fun k1=>?_)
 refine dJ (fun k2=>?_)
 refine bC ?_
 obtain⟨o3,vX,hO4⟩:=bind_some hF
 refine au ?_
 refine gG (fun f' cs'=>∃(c16:Bool)(g:Fr),c16=o3/\f'=aN g [(1,aA.v),(2,bi.v),(7,(pz k1)),(8,(pz k2)),(31,(.bool c16))]/\aK cs' [dO aA ai,dV bi bL,aQ k1 39 (zg [gu.v,gY.v]),ag gu ak.Head,bZ gY ak.Atoms,bS k2 85 (.agg ([(.slice none 0 0),(.slice none 0 0),(.slice none 0 0)]:List Value).toArray)]) ?_ ?_
 · replace hF:=vX
   refine bC ?_
   refine bnd hF fun r5 hx6 hF=>bJ (Wi hx6) (fun _=>?_)
   refine bg ?_
   rcases dK (!r5)with fG|fG
   · rw[fG]
     try rw[fG]at hF; dsimp only[bB,bA]at hF
     exact dw hF
   rw[fG]
   try rw[fG]at hF; dsimp only[bB,bA]at hF
   refine aX ?_
   refine bnd hF fun r9 fU hF=>bJ (PE fU) (fun _=>?_)
   refine aP ?_
   rcases dK (!r9)with kv|kv
   · rw[kv]
     try rw[kv]at hF; dsimp only[bB,bA]at hF
     exact dw hF
   rw[kv]
   try rw[kv]at hF; dsimp only[bB,bA]at hF
   refine eG ?_
   refine bnd hF fun mK iA hF=>bJ (ae4 iA) (fun _=>?_)
   exact dw hF
 rintro _ _ ⟨c16,g41,rfl,rfl,hE⟩
 replace hF:=hO4
 try dsimp only at hF
 refine bH hE ?_
 refine Ci hF (fun Ku hF=>?_) (fun Ku hF=>?_)
 · refine au ?_
   refine aO (gy vT.h rfl (vs:=[]) .nil (cells:=[(.slice none 0 0),(.slice none 0 0),(.slice none 0 0)]) rfl) ?_
   refine As (.agg ([(.slice none 0 0),(.slice none 0 0),(.slice none 0 0)]:List Value).toArray) ?_
   refine bC ?_
   cases hF
   exact gL (⟨none,0,0⟩,⟨none,0,0⟩,[],⟨none,0,0⟩,[]) (.cellA rfl rfl .h rfl Oc.h vT.h.sz rfl rfl (.tmp rfl rfl .nil)) rfl (.conv .nil (BC (R:=dW) (E:=147)) (.cons .nil) (.conv .nil (fH (Ro:=fP) (E:=147)) (.cons .nil) (.conv .nil (fH (Ro:=(aj aH)) (E:=3)) (.cons .nil) (.sel (.rd .q2 rfl (.cons (.t .h) (.cons .h .nil)))))))
 refine bC ?_
 refine bnd hF fun d_ gq hF=>GN (afu gq) (fun r_=>?_)
 refine au ?_
 refine zx ?_
 refine zx ?_
 refine zx ?_
 refine dJ (fun k20=>?_)
 refine au ?_
 refine As (zg [r_.2.2.1.v,r_.2.2.2.2.1.v]) ?_
 refine bF ?_
 refine Ci hF (fun T_ hF=>?_) (fun T_ hF=>?_)
 · refine au ?_
   refine aO (gy vT.h rfl (vs:=[]) .nil (cells:=[(.slice none 0 0),(.slice none 0 0),(.slice none 0 0)]) rfl) ?_
   refine As (.agg ([(.slice none 0 0),(.slice none 0 0),(.slice none 0 0)]:List Value).toArray) ?_
   refine bC ?_
   cases hF
   exact gL (⟨none,0,0⟩,⟨none,0,0⟩,[],⟨none,0,0⟩,[]) (.cellA rfl rfl .h rfl Oc.h vT.h.sz rfl rfl (.tmp rfl rfl .nil)) rfl (.conv .nil (BC (R:=dW) (E:=147)) (.cons .nil) (.conv .nil (fH (Ro:=fP) (E:=147)) (.cons .nil) (.conv .nil (fH (Ro:=(aj aH)) (E:=3)) (.cons .nil) (.sel (.rd .q2 rfl (.cons (.t .h) (.cons .h .nil)))))))
 refine aP ?_
 refine bnd hF fun jr mY hF=>l9 (.cons (.t .h) (.rd .q4 rfl .nil)) (gH bq (fun _=>(.cons .nil)) (jA (.rd (.t .h) rfl (.rd .h rfl .nil)) (bU akm.h bN (agK mY)))) (fun lX=>?_)
 refine bg ?_
 refine jM (.t .h) bq ?_
 refine dS [0,1,2,3,4,12,13,5,6,7,8,9,10,11,14,15,16,17] [0,0,0,0,0,16,62,126,254,510,1022,2046,0,0,16382,32767,65535,131071] [5,6,11,14,16] mixed (by decide+kernel) ?_
 refine TC ?_
 refine ed rfl .no .q2 (fun ha hp=>jw jC.h dY.h.sz rfl (EN ha (.tmp rfl rfl) rfl) hp.2 rfl) ?_
 refine bnd hF fun pQ hx28 hF=>df rfl rfl .no (.rd .q8 rfl (.rd .q9 rfl .nil)) (.own .q2 (fun _ h=>h) .nil) (fun ha=>zD (post':=fun p29:Sv×List Nat=>[ag p29.1 pQ]) (fun p29=>(.frz .h bq ax)) (bU X3.h (.cons (EN ha (.tmp rfl rfl) rfl) .nil) (O7 hx28))) (fun p29=>?_)
 refine bnd hF fun rZ hx31 hF=>XN rfl rfl .no (.rd .q6 rfl (.rd .q7 rfl (.rd (.t .h) rfl (.rd .h rfl .nil)))) (.own .q3 (fun _ h=>h) .nil) (fun ha=>bU ako.h (.cons (EN ha (.tmp rfl rfl) rfl) (.cons (EN ha (.tmp rfl rfl) rfl) (.cons (EN ha (.tmp rfl rfl) rfl) (.cons (EN ha (.tmp rfl rfl) rfl) .nil)))) (afG hx31)) (fun p32=>?_)
 refine bQ rfl .no (fun ha=>mR (v:=(.pointer (some ⟨p32.1,0,some 0⟩))) rfl (EN ha (.tmp rfl rfl) rfl)) ?_
 refine cB ?_
 refine ed rfl .no .h (fun ha hp=>fI (v:=p32.2.2.2.2.1.v) nJ.h (EN ha (.tmp rfl rfl) rfl) hp.2 rfl rfl) ?_
 refine bnd hF fun wu hx34 hF=>qB rfl rfl .no (.cons .q4 .nil) (.dep rfl (.own .q10 (fun _ h=>h) .nil)) (fun ha=>gH bq (fun _=>(.cons .nil)) (bU axh.h (.cons (EN ha (.tmp rfl rfl) rfl) .nil) (aaz hx34))) (fun p35=>?_)
 refine bnd hF fun r36 vU hF=>Rm rfl rfl .no (.cons .q14 (.cons .q13 (.rd (.t (.t (.t (.t (.t (.t (.t (.t (.t (.t (.t (.t (.t (.t (.t (.t .h)))))))))))))))) rfl (.rd (.t (.t (.t (.t (.t (.t (.t (.t (.t (.t (.t (.t (.t (.t (.t (.t (.t .h))))))))))))))))) rfl .nil)))) (.dep rfl (.dep rfl .nil)) (fun ha=>jy (pre:=_) (.cons bq (.cons bq .nil)) (fun _=>(.cons .nil)) (jA (.rd .q2 rfl (.rd .q3 rfl (.rd .h rfl (.rd (.t .h) rfl .nil)))) (bU acA.h (.cons (EN ha (.tmp rfl rfl) rfl) (.cons (EN ha (.tmp rfl rfl) rfl) .nil)) (Wx vU)))) (fun p38=>?_)
 refine bQ rfl .no (fun ha=>gy vT.h rfl (vs:=[lX.1.v,p35.1.v,p38.1.v]) (.cons (EN ha (.tmp rfl rfl) rfl) (.cons (EN ha (.tmp rfl rfl) rfl) (.cons (EN ha (.tmp rfl rfl) rfl) .nil))) (cells:=[lX.1.v,p35.1.v,p38.1.v]) rfl) ?_
 refine df rfl rfl .no (.cons (.t (.t (.t (.t (.t (.t (.t (.t (.t (.t (.t (.t (.t (.t (.t (.t (.t (.t (.t (.t (.t .h))))))))))))))))))))) .nil) (.dep rfl (.dep rfl .nil)) (fun ha=>gF (e':=(zg [lX.1.v,p35.1.v,p38.1.v])) (v:=(zg [lX.1.v,p35.1.v,p38.1.v])) vT.h.sz (EN ha (.tmp rfl rfl) rfl) (EN ha (.tmp rfl rfl) rfl) rfl rfl rfl rfl rfl) (fun _=>?_)
 refine cB ?_
 refine au ?_
 cases hF
 exact gL (lX.1,p35.1,p35.2,p38.1,p38.2) (.cellA rfl rfl .h rfl Oc.h vT.h.sz rfl rfl (.tmp rfl rfl .nil)) rfl (.sel (.rd .q14 rfl (.cons .q5 (.cons .q3 .nil))))
def XD(lL:Int):Option (Bool):=
 (pX lL 0 2).bind fun r1=>
 some r1
theorem arc{lL:Int}{R:Bool}(hF:XD lL=some R):
   Fw.Spec Tryz.prog 201 [(zi lL)] [] (fun _:Unit=>(.bool R)) (fun _=>[]):=by
 refine Se 5 Tryz.func201 [.tmp 2] ?_
 intro H0 F0
 unfold XD at hF
 refine aX ?_
 refine bnd hF fun r1 hx2 hF=>bJ (t_ hx2) (fun _=>?_)
 exact ze hF
def Wl(bT:Int):Option (Bool):=
 (EU bT).bind fun r1=>
 some (!r1)
theorem an4{bT:Int}{R:Bool}(hF:Wl bT=some R):
   Fw.Spec Tryz.prog 271 [(zi bT)] [] (fun _:Unit=>(.bool R)) (fun _=>[]):=by
 refine Se 6 Tryz.func271 [.tmp 2] ?_
 intro H0 F0
 unfold Wl at hF
 refine aX ?_
 refine bnd hF fun r1 hx2 hF=>bJ (Pz hx2) (fun _=>?_)
 exact ze hF
def LW:List Int->Nat->Option (Int)
 |[],k4=>some (-1)
 |x6::aJ,k4=>(Wl x6).bind fun ik=>
   if ik then (
     some (k4:Int))
   else (
     LW aJ (k4+1))
def VQ(ah:List Int):Option (Int):=
 LW ah 0
theorem anb{ah:List Int}{aa:Sv}{R:Int}(hF:VQ ah=some R):
   Fw.Spec Tryz.prog 242 [aa.v,(.func (.func 271) [].toArray [].toArray)] [ag aa ah] (fun _:Unit=>(zi R)) (fun _=>[]):=by
 refine Se 19 Tryz.func242 [.tmp 4] ?_
 intro H0 F0
 unfold VQ at hF
 refine eG ?_
 refine aY (bK (m:=ah.length) (fun m2 f' cs'=>∃(g:Fr)(k4:Nat)(aJ:List Int),m2=aJ.length/\f'=aN g [(0,aa.v),(1,(.func (.func 271) [].toArray [].toArray)),(7,(zi (ah.length:Int))),(8,(zi (k4:Int)))]/\List.drop k4 ah=aJ/\aK cs' [ag aa ah]/\LW aJ k4=some R) ⟨_,0,_,rfl,ay,rfl,ax,hF⟩ ?_)
 rintro m2 _ _ ⟨g3,k4,aJ,rfl,rfl,hd7,hE,hF⟩
 refine Kb hE ah (fun jV=>?_)
 rcases aJ with _|⟨x6,aJ⟩
 · have fB:=dn hd7
   rw[LW]at hF
   refine aP ?_
   refine cO ?_
   exact ze hF
 obtain⟨fB,dF,fw⟩:=bW hd7
 rw[LW]at hF
 refine aP ?_
 refine cK ?_
 refine jD ?_
 refine Ai dF (fun k13 lY=>?_)
 refine Al dG ?_
 refine bnd hF fun ik hx16 hF=>mX .nil (lg axu.h (.tmp rfl rfl) bN (an4 hx16)) (fun _=>?_)
 refine au ?_
 refine Ci hF (fun tC hF=>?_) (fun tC hF=>?_)
 · exact ze hF
 refine aX ?_
 rw[wk k4]
 exact⟨_,bO _,_,k4+1,aJ,rfl,ay,fw,ax,hF⟩
def OT(ah:List Int):Option (Bool):=
 (VQ ah).bind fun r1=>
 some (decide ((0:Int)<=r1))
theorem am4{ah:List Int}{aa:Sv}{R:Bool}(hF:OT ah=some R):
   Fw.Spec Tryz.prog 176 [aa.v,(.func (.func 271) [].toArray [].toArray)] [ag aa ah] (fun _:Unit=>(.bool R)) (fun _=>[]):=by
 refine Se 9 Tryz.func176 [.tmp 4] ?_
 intro H0 F0
 unfold OT at hF
 refine bu ?_
 refine bnd hF fun r1 hx2 hF=>bJ (anb hx2) (fun _=>?_)
 exact ze hF
def P6(ai:List Int):Option (Bool):=
 (OT ai).bind fun r1=>
 some (!r1)
theorem aoM{ai:List Int}{aa:Sv}{R:Bool}(hF:P6 ai=some R):
   Fw.Spec Tryz.prog 202 [aa.v] [ag aa ai] (fun _:Unit=>(.bool R)) (fun _=>[]):=by
 refine Se 6 Tryz.func202 [.tmp 2] ?_
 intro H0 F0
 unfold P6 at hF
 refine aX ?_
 refine bnd hF fun r1 hx2 hF=>bJ (am4 hx2) (fun _=>?_)
 exact ze hF
def PL(aU:Fact):Option ((List UInt8)):=
 ((XD aU.Rel).bind fun r4=>
   bif (!r4)then (some true)
   else ((pX (aU.Values.length:Int) 1 3).bind fun r8=>
     bif (!r8)then (some true)
     else ((P6 aU.Values).bind fun iC=>
       some (!iC)))).bind fun o2=>
 match o2 with
 |c15=>if c15 then (
     some [])
   else (
     (EG aU.Rel).bind fun r16=>
     (gV [114] r16).bind fun n_=>
     (gV n_ [40]).bind fun qx=>
     (Bf aU.Values [44]).bind fun pQ=>
     (gV qx pQ).bind fun x30=>
     (gV x30 [41]).bind fun x34=>
     some x34)
theorem aoj{aU:Fact}{aM:Sv}{R:(List UInt8)}(hF:PL aU=some R):
   Fw.Spec Tryz.prog 109 [(zg [(zi aU.Rel),aM.v])] [ag aM aU.Values] (fun _:Unit=>(sv R)) (fun _=>[]):=by
 refine Se 30 Tryz.func109 [.tmp 2] ?_
 intro H0 F0
 unfold PL at hF
 refine au ?_
 refine bM (fun k1=>?_)
 refine bC ?_
 obtain⟨o2,jq,hO3⟩:=bind_some hF
 refine au ?_
 refine gG (fun f' cs'=>∃(c15:Bool)(g:Fr),c15=o2/\f'=aN g [(1,(pz k1)),(19,(.bool c15))]/\aK cs' [aQ k1 147 (zg [(zi aU.Rel),aM.v]),ag aM aU.Values]) ?_ ?_
 · replace hF:=jq
   refine bg ?_
   refine bnd hF fun r4 hx5 hF=>bJ (arc hx5) (fun _=>?_)
   refine bg ?_
   rcases dK (!r4)with dB|dB
   · rw[dB]
     try rw[dB]at hF; dsimp only[bB,bA]at hF
     exact dw hF
   rw[dB]
   try rw[dB]at hF; dsimp only[bB,bA]at hF
   refine bF ?_
   refine bnd hF fun r8 dF hF=>bJ (t_ dF) (fun _=>?_)
   refine aP ?_
   rcases dK (!r8)with jf|jf
   · rw[jf]
     try rw[jf]at hF; dsimp only[bB,bA]at hF
     exact dw hF
   rw[jf]
   try rw[jf]at hF; dsimp only[bB,bA]at hF
   refine aX ?_
   refine bnd hF fun iC iM hF=>bJ (aoM iM) (fun _=>?_)
   exact dw hF
 rintro _ _ ⟨c15,g39,rfl,rfl,hE⟩
 replace hF:=hO3
 try dsimp only at hF
 refine bH hE ?_
 refine Ci hF (fun Kk hF=>?_) (fun Kk hF=>?_)
 · exact ze hF
 refine au ?_
 refine dS [0,1,5,6,2,3,4,7,8,9,10] [0,1,3,7,15,0,32,103,255,511,1023] [2,7] mixed (by decide+kernel) ?_
 refine sU ?_
 refine bnd hF fun r16 iX hF=>jk (afV iX) (fun _=>?_)
 refine bnd hF fun n_ mJ hF=>?_
 obtain⟨aA0,aA1⟩:=jR mJ
 refine bQ rfl .no (fun ha=>j6 (s:=[114]) (t:=r16) (u:=n_) (EN ha (.sv _) rfl) (EN ha (.tmp rfl rfl) rfl) mJ) ?_
 refine bnd hF fun qx hx24 hF=>?_
 obtain⟨aIF,aIG⟩:=jR hx24
 refine bQ rfl .no (fun ha=>j6 (s:=n_) (t:=[40]) (u:=qx) (EN ha (.tmp rfl rfl) rfl) (EN ha (.sv _) rfl) hx24) ?_
 refine bnd hF fun pQ hx28 hF=>jk (aaU hx28) (fun _=>?_)
 refine bnd hF fun x30 hx31 hF=>?_
 obtain⟨aIH,hz32⟩:=jR hx31
 refine bQ rfl .no (fun ha=>j6 (s:=qx) (t:=pQ) (u:=x30) (EN ha (.tmp rfl rfl) rfl) (EN ha (.tmp rfl rfl) rfl) hx31) ?_
 refine bnd hF fun x34 sZ hF=>?_
 obtain⟨aA2,aA3⟩:=jR sZ
 refine bQ rfl .no (fun ha=>j6 (s:=x30) (t:=[41]) (u:=x34) (EN ha (.tmp rfl rfl) rfl) (EN ha (.sv _) rfl) sZ) ?_
 refine cB ?_
 exact ze hF
def Ef:List Fact->Nat->(List (List UInt8))->Option ((List UInt8))
 |[],k8,c2=>(Iq c2 [32]).bind fun d_=>
   if (d_==[])then (
     some [110,111,110,101])
   else (
     some d_)
 |dz::dE,k8,c2=>(PL dz).bind fun jl=>
   (app c2 ([jl]:List (List UInt8))).bind fun z29=>
   Ef dE (k8+1) z29
def MQ(ai:List Fact):Option ((List UInt8)):=
 Ef ai 0 ([]:List (List UInt8))
theorem afW{ai:List Fact}{aa:Sv}{R:(List UInt8)}(hF:MQ ai=some R):
   Fw.Spec Tryz.prog 43 [aa.v] [dD aa ai] (fun _:Unit=>(sv R)) (fun _=>[]):=by
 refine Se 25 Tryz.func43 [.tmp 2] ?_
 intro H0 F0
 unfold MQ at hF
 refine aP ?_
 refine dx rfl (bV (g:=true) NH.h KV.h .nil (vs:=[]) rfl rfl rfl (by simp)) (fun k1=>?_)
 refine dH (.cons .h .nil) (bY (Ro:=(aj rdStr)) (E:=9) (F:=[]) (xs:=([]:List (List UInt8))) bX rfl rfl) ?_
 refine eD ?_
 refine aY (bK (m:=ai.length) (fun m6 f' cs'=>∃(g:Fr)(k8:Nat)(dE:List Fact)(c2:List (List UInt8))(v3:Sv)(F4:List Nat),m6=dE.length/\f'=aN g [(3,v3.v),(8,aa.v),(9,(zi (ai.length:Int))),(10,(zi (k8:Int)))]/\List.drop k8 ai=dE/\aK cs' [zp9 F4 v3 c2,dD aa ai]/\Ef dE k8 c2=some R) ⟨_,0,_,_,⟨(some ⟨k1,0,none⟩),0,1⟩,(k1::[]),rfl,ay,rfl,ax,hF⟩ ?_)
 rintro m6 _ _ ⟨g7,k8,dE,c2,v3,F4,rfl,rfl,fZ,hE,hF⟩
 refine Kb hE ai (fun Cs=>?_)
 rcases dE with _|⟨dz,dE⟩
 · have o7:=dn fZ
   rw[Ef]at hF
   refine aP ?_
   refine cO ?_
   refine bu ?_
   refine bnd hF fun d_ gq hF=>dU (.cons .h .nil) (gH bq (fun _=>.nil) (bU aks.h (.cons (.tmp rfl rfl) (.cons (.sv _) .nil)) (afo gq))) (fun _=>?_)
   refine aX ?_
   refine aO (ajU (s:=d_) (t:=[]) (.tmp rfl rfl) (.sv _)) ?_
   refine au ?_
   refine Ci hF (fun mI hF=>?_) (fun mI hF=>?_)
   · exact ze hF
   exact ze hF
 obtain⟨o7,iM,o9⟩:=bW fZ
 rw[Ef]at hF
 refine aP ?_
 refine cK ?_
 refine bC ?_
 refine Ai iM (fun k21 U4=>?_)
 refine iw (ky dz) kL (fun lX=>?_)
 refine dJ (fun k24=>?_)
 refine As (zg [(zi dz.Rel),lX.v]) ?_
 refine aP ?_
 refine bnd hF fun jl ll hF=>bJ (aoj ll) (fun _=>?_)
 refine dx rfl (bV (g:=true) NH.h KV.h bN (vs:=[(sv jl)]) rfl rfl rfl (by intro v hv; simp at hv; rcases hv with rfl<;>rfl)) (fun k28=>?_)
 refine dH (.cons .h .nil) (bY (Ro:=(aj rdStr)) (E:=9) (F:=([]++[])) (xs:=([jl]:List (List UInt8))) (eF (jd (fun _=>rfl)) bX dm) rfl rfl) ?_
 refine bnd hF fun z29 rR hF=>dU (.cons .q4 (.cons .h .nil)) (ek (Ro:=(aj rdStr)) NH.h akt KV.h rfl rfl rfl (.tmp rfl rfl) (.tmp rfl rfl) rR fM) (fun p31=>?_)
 refine bu ?_
 rw[wk k8]
 exact⟨_,bO _,_,k8+1,dE,_,p31.1,p31.2,rfl,ay,o9,ax,hF⟩
def QD(fuel:Nat)(ah:List Int)(ai:List Method)(bL:List Rule)(ak:aV):Option ((List UInt8)):=
 ((EM ah ai bL).bind fun r4=>
   bif (!r4)then (some true)
   else ((AY ah ak).bind fun r8=>
     some (!r8))).bind fun o2=>
 match o2 with
 |c11=>if c11 then (
     some [])
   else (
     (PH fuel ah ai ak).bind fun iC=>
     if iC then (
       some [102,101,97,115,105,98,108,101])
     else (
       (Pk fuel ah ai bL ak).bind fun ik=>
       if ik.2 then (
         (Bf ik.1 [44]).bind fun qp=>
         (gV [102,101,97,115,105,98,108,101,32,98,121,32,114,117,108,101,115,32] qp).bind fun mg=>
         some mg)
       else (
         (O1 fuel ah ai bL ak).bind fun jl=>
         if (!jl.2)then (
           some [117,110,107,110,111,119,110])
         else (
           (Bf jl.1.Tuple [44]).bind fun vg=>
           (gV [105,110,102,101,97,115,105,98,108,101,58,32,40] vg).bind fun x32=>
           (gV x32 [41,32,105,110,32]).bind fun Dz=>
           (MQ jl.1.All).bind fun Lh=>
           (gV Dz Lh).bind fun x43=>
           (gV x43 [32,110,111,116,32,105,110,32]).bind fun DD=>
           (MQ jl.1.Some).bind fun qw=>
           (gV DD qw).bind fun x54=>
           some x54))))
theorem apU{fuel:Nat}{ah:List Int}{aa:Sv}{ai:List Method}{aA:Sv}{bL:List Rule}{bi:Sv}{ak:aV}{gu gY:Sv}{R:(List UInt8)}(hF:QD fuel ah ai bL ak=some R):
   Fw.Spec Tryz.prog 13 [aa.v,aA.v,bi.v,(zg [gu.v,gY.v])] [ag aa ah,dO aA ai,dV bi bL,ag gu ak.Head,bZ gY ak.Atoms] (fun _:Unit=>(sv R)) (fun _=>[]):=by
 refine Se 64 Tryz.func13 [.tmp 8] ?_
 intro H0 F0
 unfold QD at hF
 refine au ?_
 refine bM (fun k1=>?_)
 refine bC ?_
 obtain⟨o2,jq,hO3⟩:=bind_some hF
 refine au ?_
 refine gG (fun f' cs'=>∃(c11:Bool)(g:Fr),c11=o2/\f'=aN g [(0,aa.v),(1,aA.v),(2,bi.v),(7,(pz k1)),(23,(.bool c11))]/\aK cs' [ag aa ah,dO aA ai,dV bi bL,aQ k1 39 (zg [gu.v,gY.v]),ag gu ak.Head,bZ gY ak.Atoms]) ?_ ?_
 · replace hF:=jq
   refine bC ?_
   refine bnd hF fun r4 hx5 hF=>bJ (Wi hx5) (fun _=>?_)
   refine bg ?_
   rcases dK (!r4)with dB|dB
   · rw[dB]
     try rw[dB]at hF; dsimp only[bB,bA]at hF
     exact dw hF
   rw[dB]
   try rw[dB]at hF; dsimp only[bB,bA]at hF
   refine aX ?_
   refine bnd hF fun r8 dF hF=>bJ (PE dF) (fun _=>?_)
   exact dw hF
 rintro _ _ ⟨c11,g62,rfl,rfl,hE⟩
 replace hF:=hO3
 try dsimp only at hF
 refine bH hE ?_
 refine Ci hF (fun CO hF=>?_) (fun CO hF=>?_)
 · exact ze hF
 refine bu ?_
 refine bnd hF fun iC iM hF=>bJ (aof iM) (fun _=>?_)
 refine au ?_
 refine Ci hF (fun aek hF=>?_) (fun aek hF=>?_)
 · exact ze hF
 refine bF ?_
 refine bnd hF fun ik hx16 hF=>fq (anQ hx16) (fun p17=>?_)
 refine au ?_
 refine zx ?_
 refine zx ?_
 refine bu ?_
 refine Ci hF (fun ael hF=>?_) (fun ael hF=>?_)
 · refine bg ?_
   refine bnd hF fun qp nK hF=>dU (.cons .h .nil) (gH bq (fun _=>.nil) (bU alA.h (.cons (.tmp rfl rfl) (.cons (.sv _) .nil)) (aaU nK))) (fun _=>?_)
   refine bnd hF fun mg mY hF=>?_
   obtain⟨aA_,aA'⟩:=jR mY
   refine aO (j6 (s:=[102,101,97,115,105,98,108,101,32,98,121,32,114,117,108,101,115,32]) (t:=qp) (u:=mg) (.sv _) (.tmp rfl rfl) mY) ?_
   exact ze hF
 refine bu ?_
 refine bnd hF fun jl ll hF=>GN (anr ll) (fun p27=>?_)
 refine au ?_
 refine zx ?_
 refine zx ?_
 refine dJ (fun k28=>?_)
 refine As (zg [p27.1.v,p27.2.1.v,p27.2.2.2.1.v]) ?_
 refine bF ?_
 refine Ci hF (fun KG hF=>?_) (fun KG hF=>?_)
 · exact ze hF
 refine au ?_
 refine dS [0,1,5,6,10,11,2,3,4,7,8,9,12,13,14] [0,1,3,7,15,0,32,103,255,511,0,1024,3303,8191,16383] [2,7,12] mixed (by decide+kernel) ?_
 refine du ?_
 refine ed rfl .no .h (fun ha hp=>fI (v:=p27.2.2.2.1.v) iF.h (EN ha (.tmp rfl rfl) rfl) hp.2 rfl rfl) ?_
 refine du ?_
 refine ed rfl .no .h (fun ha hp=>fI (v:=p27.1.v) nJ.h (EN ha (.tmp rfl rfl) rfl) hp.2 rfl rfl) ?_
 refine du ?_
 refine ed rfl .no .h (fun ha hp=>fI (v:=p27.2.1.v) nJ.h (EN ha (.tmp rfl rfl) rfl) hp.2 rfl rfl) ?_
 refine bnd hF fun vg rR hF=>df rfl rfl .no (.cons .q3 .nil) (.own .h (fun _ h=>h) (.own .h (fun _ h=>h) (.dep rfl .nil))) (fun ha=>gH bq (fun _=>.nil) (bU alA.h (.cons (EN ha (.tmp rfl rfl) rfl) (.cons (EN ha (.sv _) rfl) .nil)) (aaU rR))) (fun _=>?_)
 refine bnd hF fun x32 yF hF=>?_
 obtain⟨aBa,aBb⟩:=jR yF
 refine bQ rfl .no (fun ha=>j6 (s:=[105,110,102,101,97,115,105,98,108,101,58,32,40]) (t:=vg) (u:=x32) (EN ha (.sv _) rfl) (EN ha (.tmp rfl rfl) rfl) yF) ?_
 refine bnd hF fun Dz vU hF=>?_
 obtain⟨aBc,aBd⟩:=jR vU
 refine bQ rfl .no (fun ha=>j6 (s:=x32) (t:=[41,32,105,110,32]) (u:=Dz) (EN ha (.tmp rfl rfl) rfl) (EN ha (.sv _) rfl) vU) ?_
 refine bnd hF fun Lh yA hF=>ND rfl rfl .no (.rd .q2 rfl .nil) (.own (.t .h) (fun _ h=>h) (.dep rfl (.dep rfl .nil))) (fun ha=>bU alB.h (.cons (EN ha (.tmp rfl rfl) rfl) .nil) (afW yA)) (fun _=>?_)
 refine bnd hF fun x43 yE hF=>?_
 obtain⟨aBe,aBf⟩:=jR yE
 refine bQ rfl .no (fun ha=>j6 (s:=Dz) (t:=Lh) (u:=x43) (EN ha (.tmp rfl rfl) rfl) (EN ha (.tmp rfl rfl) rfl) yE) ?_
 refine bnd hF fun DD CY hF=>?_
 obtain⟨aBg,aBh⟩:=jR CY
 refine bQ rfl .no (fun ha=>j6 (s:=x43) (t:=[32,110,111,116,32,105,110,32]) (u:=DD) (EN ha (.tmp rfl rfl) rfl) (EN ha (.sv _) rfl) CY) ?_
 refine bnd hF fun qw uP hF=>df rfl rfl .no (.cons .q3 .nil) (.dep rfl (.dep rfl (.dep rfl .nil))) (fun ha=>gH bq (fun _=>.nil) (bU alB.h (.cons (EN ha (.tmp rfl rfl) rfl) .nil) (afW uP))) (fun _=>?_)
 refine bnd hF fun x54 ma hF=>?_
 obtain⟨aBi,aBj⟩:=jR ma
 refine bQ rfl .no (fun ha=>j6 (s:=DD) (t:=qw) (u:=x54) (EN ha (.tmp rfl rfl) rfl) (EN ha (.tmp rfl rfl) rfl) ma) ?_
 refine cB ?_
 exact ze hF
def MR(aL:List Int):List Int->Nat->Option (Bool)
 |[],k4=>some true
 |x6::aJ,k4=>(ix aL (k4:Int)).bind fun pM=>
   if ((x6:Int)!=pM)then (
     some false)
   else (
     MR aL aJ (k4+1))
def Fe(ae:List Int)(aL:List Int):Option (Bool):=
 if (((ae.length:Int):Int)!=(aL.length:Int))then (
   some false)
 else (
   MR aL ae 0)
theorem P7{ae:List Int}{aa:Sv}{aL:List Int}{aA:Sv}{R:Bool}(hF:Fe ae aL=some R):
   Fw.Spec Tryz.prog 14 [aa.v,aA.v] [ag aa ae,ag aA aL] (fun _:Unit=>(.bool R)) (fun _=>[]):=by
 refine Se 26 Tryz.func14 [.tmp 4] ?_
 intro H0 F0
 unfold Fe at hF
 refine yg ?_
 refine Ci hF (fun CV hF=>?_) (fun CV hF=>?_)
 · exact ze hF
 refine aX ?_
 refine aY (bK (m:=ae.length) (fun m2 f' cs'=>∃(g:Fr)(k4:Nat)(aJ:List Int),m2=aJ.length/\f'=aN g [(0,aa.v),(1,aA.v),(5,(zi (k4:Int)))]/\List.drop k4 ae=aJ/\aK cs' [ag aa ae,ag aA aL]/\MR aL aJ k4=some R) ⟨_,0,_,rfl,ay,rfl,ax,hF⟩ ?_)
 rintro m2 _ _ ⟨g3,k4,aJ,rfl,rfl,hd7,hE,hF⟩
 refine Kb hE ae (fun jV=>?_)
 rcases aJ with _|⟨x6,aJ⟩
 · have fB:=dn hd7
   rw[MR]at hF
   refine bF ?_
   refine cO ?_
   exact ze hF
 obtain⟨fB,dF,fw⟩:=bW hd7
 rw[MR]at hF
 refine bF ?_
 refine cK ?_
 refine bg ?_
 refine dS [0,1,2,3,4,5,6,7,8] [0,0,3,7,0,0,48,112,255] [] mixed (by decide+kernel) ?_
 refine cB ?_
 refine Di dF (fun k13 lY=>?_)
 refine Dl dG ?_
 refine cB ?_
 refine zI hF fun pM adS gq hF=>?_
 refine Di gq (fun k19 GV=>?_)
 refine Dl dG ?_
 refine cB ?_
 refine Ci hF (fun qN hF=>?_) (fun qN hF=>?_)
 · exact ze hF
 refine bu ?_
 rw[wk k4]
 exact⟨_,bO _,_,k4+1,aJ,rfl,ay,fw,ax,hF⟩
def Qp(ae:Method)(aL:Method):Option (Bool):=
 if ((ae.Rel:Int)!=aL.Rel)then (
   some false)
 else (
   (Fe ae.Inputs aL.Inputs).bind fun r3=>
   if (!r3)then (
     some false)
   else (
     if ((ae.Limit:Int)!=aL.Limit)then (
       some false)
     else (
       if ((ae.Cost:Int)!=aL.Cost)then (
         some false)
       else (
         if ((ae.Quota:Int)!=aL.Quota)then (
           some false)
         else (
           some true)))))
theorem api{ae:Method}{aM:Sv}{aL:Method}{aW:Sv}{R:Bool}(hF:Qp ae aL=some R):
   Fw.Spec Tryz.prog 44 [(zg [(zi ae.Rel),aM.v,(zi ae.Limit),(zi ae.Cost),(zi ae.Quota)]),(zg [(zi aL.Rel),aW.v,(zi aL.Limit),(zi aL.Cost),(zi aL.Quota)])] [ag aM ae.Inputs,ag aW aL.Inputs] (fun _:Unit=>(.bool R)) (fun _=>[]):=by
 refine Se 31 Tryz.func44 [.tmp 4] ?_
 intro H0 F0
 unfold Qp at hF
 refine au ?_
 refine bM (fun k1=>?_)
 refine bM (fun k2=>?_)
 refine jD ?_
 refine Ci hF (fun KL hF=>?_) (fun KL hF=>?_)
 · exact ze hF
 refine bF ?_
 refine bnd hF fun r3 hx4 hF=>bJ (P7 hx4) (fun _=>?_)
 refine bg ?_
 refine Ci hF (fun KX hF=>?_) (fun KX hF=>?_)
 · exact ze hF
 refine eG ?_
 refine Ci hF (fun KY hF=>?_) (fun KY hF=>?_)
 · exact ze hF
 refine eG ?_
 refine Ci hF (fun Lt hF=>?_) (fun Lt hF=>?_)
 · exact ze hF
 refine eG ?_
 refine Ci hF (fun hb6 hF=>?_) (fun hb6 hF=>?_)
 · exact ze hF
 exact ze hF
def Mi(aL:List Method):List Method->Nat->Option (Bool)
 |[],k4=>some true
 |x6::aJ,k4=>(ix aL (k4:Int)).bind fun jG=>
   (Qp x6 jG).bind fun mO=>
   if (!mO)then (
     some false)
   else (
     Mi aL aJ (k4+1))
def WH(ae:List Method)(aL:List Method):Option (Bool):=
 if (((ae.length:Int):Int)!=(aL.length:Int))then (
   some false)
 else (
   Mi aL ae 0)
theorem aoN{ae:List Method}{aa:Sv}{aL:List Method}{aA:Sv}{R:Bool}(hF:WH ae aL=some R):
   Fw.Spec Tryz.prog 15 [aa.v,aA.v] [dO aa ae,dO aA aL] (fun _:Unit=>(.bool R)) (fun _=>[]):=by
 refine Se 27 Tryz.func15 [.tmp 4] ?_
 intro H0 F0
 unfold WH at hF
 refine yg ?_
 refine Ci hF (fun yD hF=>?_) (fun yD hF=>?_)
 · exact ze hF
 refine aX ?_
 refine aY (bK (m:=ae.length) (fun m2 f' cs'=>∃(g:Fr)(k4:Nat)(aJ:List Method),m2=aJ.length/\f'=aN g [(0,aa.v),(1,aA.v),(5,(zi (k4:Int)))]/\List.drop k4 ae=aJ/\aK cs' [dO aa ae,dO aA aL]/\Mi aL aJ k4=some R) ⟨_,0,_,rfl,ay,rfl,ax,hF⟩ ?_)
 rintro m2 _ _ ⟨g3,k4,aJ,rfl,rfl,hd7,hE,hF⟩
 refine Kb hE ae (fun jV=>?_)
 rcases aJ with _|⟨x6,aJ⟩
 · have fB:=dn hd7
   rw[Mi]at hF
   refine bF ?_
   refine cO ?_
   exact ze hF
 obtain⟨fB,dF,fw⟩:=bW hd7
 rw[Mi]at hF
 refine bF ?_
 refine cK ?_
 refine bg ?_
 refine dS [0,1,2,3,4,5,6,7,8,9] [0,0,3,7,0,0,48,112,255,511] [8] mixed (by decide+kernel) ?_
 refine cB ?_
 refine Di dF (fun k13 lY=>?_)
 refine qM (wJ x6) xR (fun jm=>?_)
 refine cB ?_
 refine zI hF fun jG Od nK hF=>?_
 refine Di nK (fun k20 uY=>?_)
 refine qM (wJ jG) xR (fun mP=>?_)
 refine bnd hF fun mO hx24 hF=>jk (api hx24) (fun _=>?_)
 refine cB ?_
 refine Ci hF (fun CX hF=>?_) (fun CX hF=>?_)
 · exact ze hF
 refine bu ?_
 rw[wk k4]
 exact⟨_,bO _,_,k4+1,aJ,rfl,ay,fw,ax,hF⟩
def Q0(ae:Rule)(aL:Rule):Option (Bool):=
 if ((ae.From:Int)!=aL.From)then (
   some false)
 else (
   if ((ae.To:Int)!=aL.To)then (
     some false)
   else (
     (Fe ae.Map aL.Map).bind fun r3=>
     if (!r3)then (
       some false)
     else (
       some true)))
theorem aqA{ae:Rule}{gK:Sv}{aL:Rule}{kV:Sv}{R:Bool}(hF:Q0 ae aL=some R):
   Fw.Spec Tryz.prog 45 [(zg [(zi ae.From),(zi ae.To),gK.v]),(zg [(zi aL.From),(zi aL.To),kV.v])] [ag gK ae.Map,ag kV aL.Map] (fun _:Unit=>(.bool R)) (fun _=>[]):=by
 refine Se 21 Tryz.func45 [.tmp 4] ?_
 intro H0 F0
 unfold Q0 at hF
 refine au ?_
 refine bM (fun k1=>?_)
 refine bM (fun k2=>?_)
 refine jD ?_
 refine Ci hF (fun KY hF=>?_) (fun KY hF=>?_)
 · exact ze hF
 refine eG ?_
 refine Ci hF (fun Lt hF=>?_) (fun Lt hF=>?_)
 · exact ze hF
 refine bF ?_
 refine bnd hF fun r3 hx4 hF=>bJ (P7 hx4) (fun _=>?_)
 refine bg ?_
 refine Ci hF (fun hb6 hF=>?_) (fun hb6 hF=>?_)
 · exact ze hF
 exact ze hF
def MG(aL:List Rule):List Rule->Nat->Option (Bool)
 |[],k4=>some true
 |x6::aJ,k4=>(ix aL (k4:Int)).bind fun jG=>
   (Q0 x6 jG).bind fun mO=>
   if (!mO)then (
     some false)
   else (
     MG aL aJ (k4+1))
def W_(ae:List Rule)(aL:List Rule):Option (Bool):=
 if (((ae.length:Int):Int)!=(aL.length:Int))then (
   some false)
 else (
   MG aL ae 0)
theorem apV{ae:List Rule}{aa:Sv}{aL:List Rule}{aA:Sv}{R:Bool}(hF:W_ ae aL=some R):
   Fw.Spec Tryz.prog 16 [aa.v,aA.v] [dV aa ae,dV aA aL] (fun _:Unit=>(.bool R)) (fun _=>[]):=by
 refine Se 27 Tryz.func16 [.tmp 4] ?_
 intro H0 F0
 unfold W_ at hF
 refine yg ?_
 refine Ci hF (fun yD hF=>?_) (fun yD hF=>?_)
 · exact ze hF
 refine aX ?_
 refine aY (bK (m:=ae.length) (fun m2 f' cs'=>∃(g:Fr)(k4:Nat)(aJ:List Rule),m2=aJ.length/\f'=aN g [(0,aa.v),(1,aA.v),(5,(zi (k4:Int)))]/\List.drop k4 ae=aJ/\aK cs' [dV aa ae,dV aA aL]/\MG aL aJ k4=some R) ⟨_,0,_,rfl,ay,rfl,ax,hF⟩ ?_)
 rintro m2 _ _ ⟨g3,k4,aJ,rfl,rfl,hd7,hE,hF⟩
 refine Kb hE ae (fun jV=>?_)
 rcases aJ with _|⟨x6,aJ⟩
 · have fB:=dn hd7
   rw[MG]at hF
   refine bF ?_
   refine cO ?_
   exact ze hF
 obtain⟨fB,dF,fw⟩:=bW hd7
 rw[MG]at hF
 refine bF ?_
 refine cK ?_
 refine bg ?_
 refine dS [0,1,2,3,4,5,6,7,8,9] [0,0,3,7,0,0,48,112,255,511] [8] mixed (by decide+kernel) ?_
 refine cB ?_
 refine Di dF (fun k13 lY=>?_)
 refine qM (zo x6) AV (fun jm=>?_)
 refine cB ?_
 refine zI hF fun jG Od nK hF=>?_
 refine Di nK (fun k20 uY=>?_)
 refine qM (zo jG) AV (fun mP=>?_)
 refine bnd hF fun mO hx24 hF=>jk (aqA hx24) (fun _=>?_)
 refine cB ?_
 refine Ci hF (fun CX hF=>?_) (fun CX hF=>?_)
 · exact ze hF
 refine bu ?_
 rw[wk k4]
 exact⟨_,bO _,_,k4+1,aJ,rfl,ay,fw,ax,hF⟩
def Q3(ae:Atom)(aL:Atom):Option (Bool):=
 if ((ae.Rel:Int)!=aL.Rel)then (
   some false)
 else (
   (Fe ae.Terms aL.Terms).bind fun r3=>
   if (!r3)then (
     some false)
   else (
     some true))
theorem aqB{ae:Atom}{aM:Sv}{aL:Atom}{aW:Sv}{R:Bool}(hF:Q3 ae aL=some R):
   Fw.Spec Tryz.prog 110 [(zg [(zi ae.Rel),aM.v]),(zg [(zi aL.Rel),aW.v])] [ag aM ae.Terms,ag aW aL.Terms] (fun _:Unit=>(.bool R)) (fun _=>[]):=by
 refine Se 16 Tryz.func110 [.tmp 4] ?_
 intro H0 F0
 unfold Q3 at hF
 refine au ?_
 refine bM (fun k1=>?_)
 refine bM (fun k2=>?_)
 refine jD ?_
 refine Ci hF (fun Lt hF=>?_) (fun Lt hF=>?_)
 · exact ze hF
 refine bF ?_
 refine bnd hF fun r3 hx4 hF=>bJ (P7 hx4) (fun _=>?_)
 refine bg ?_
 refine Ci hF (fun hb6 hF=>?_) (fun hb6 hF=>?_)
 · exact ze hF
 exact ze hF
def MH(aL:List Atom):List Atom->Nat->Option (Bool)
 |[],k4=>some true
 |x6::aJ,k4=>(ix aL (k4:Int)).bind fun jG=>
   (Q3 x6 jG).bind fun mO=>
   if (!mO)then (
     some false)
   else (
     MH aL aJ (k4+1))
def Xa(ae:List Atom)(aL:List Atom):Option (Bool):=
 if (((ae.length:Int):Int)!=(aL.length:Int))then (
   some false)
 else (
   MH aL ae 0)
theorem apW{ae:List Atom}{aa:Sv}{aL:List Atom}{aA:Sv}{R:Bool}(hF:Xa ae aL=some R):
   Fw.Spec Tryz.prog 46 [aa.v,aA.v] [bZ aa ae,bZ aA aL] (fun _:Unit=>(.bool R)) (fun _=>[]):=by
 refine Se 27 Tryz.func46 [.tmp 4] ?_
 intro H0 F0
 unfold Xa at hF
 refine yg ?_
 refine Ci hF (fun yD hF=>?_) (fun yD hF=>?_)
 · exact ze hF
 refine aX ?_
 refine aY (bK (m:=ae.length) (fun m2 f' cs'=>∃(g:Fr)(k4:Nat)(aJ:List Atom),m2=aJ.length/\f'=aN g [(0,aa.v),(1,aA.v),(5,(zi (k4:Int)))]/\List.drop k4 ae=aJ/\aK cs' [bZ aa ae,bZ aA aL]/\MH aL aJ k4=some R) ⟨_,0,_,rfl,ay,rfl,ax,hF⟩ ?_)
 rintro m2 _ _ ⟨g3,k4,aJ,rfl,rfl,hd7,hE,hF⟩
 refine Kb hE ae (fun jV=>?_)
 rcases aJ with _|⟨x6,aJ⟩
 · have fB:=dn hd7
   rw[MH]at hF
   refine bF ?_
   refine cO ?_
   exact ze hF
 obtain⟨fB,dF,fw⟩:=bW hd7
 rw[MH]at hF
 refine bF ?_
 refine cK ?_
 refine bg ?_
 refine dS [0,1,2,3,4,5,6,7,8,9] [0,0,3,7,0,0,48,112,255,511] [8] mixed (by decide+kernel) ?_
 refine cB ?_
 refine Di dF (fun k13 lY=>?_)
 refine qM (tZ x6) vw (fun jm=>?_)
 refine cB ?_
 refine zI hF fun jG Od nK hF=>?_
 refine Di nK (fun k20 uY=>?_)
 refine qM (tZ jG) vw (fun mP=>?_)
 refine bnd hF fun mO hx24 hF=>jk (aqB hx24) (fun _=>?_)
 refine cB ?_
 refine Ci hF (fun CX hF=>?_) (fun CX hF=>?_)
 · exact ze hF
 refine bu ?_
 rw[wk k4]
 exact⟨_,bO _,_,k4+1,aJ,rfl,ay,fw,ax,hF⟩
def QE(ae:aV)(aL:aV):Option (Bool):=
 (Fe ae.Head aL.Head).bind fun r3=>
 if (!r3)then (
   some false)
 else (
   (Xa ae.Atoms aL.Atoms).bind fun r6=>
   if (!r6)then (
     some false)
   else (
     some true))
theorem apX{ae:aV}{aa aM:Sv}{aL:aV}{aA aW:Sv}{R:Bool}(hF:QE ae aL=some R):
   Fw.Spec Tryz.prog 17 [(zg [aa.v,aM.v]),(zg [aA.v,aW.v])] [ag aa ae.Head,bZ aM ae.Atoms,ag aA aL.Head,bZ aW aL.Atoms] (fun _:Unit=>(.bool R)) (fun _=>[]):=by
 refine Se 17 Tryz.func17 [.tmp 4] ?_
 intro H0 F0
 unfold QE at hF
 refine au ?_
 refine bM (fun k1=>?_)
 refine bM (fun k2=>?_)
 refine eD ?_
 refine bnd hF fun r3 hx4 hF=>bJ (P7 hx4) (fun _=>?_)
 refine bg ?_
 refine Ci hF (fun KL hF=>?_) (fun KL hF=>?_)
 · exact ze hF
 refine bF ?_
 refine bnd hF fun r6 hx7 hF=>bJ (apW hx7) (fun _=>?_)
 refine bg ?_
 refine Ci hF (fun KX hF=>?_) (fun KX hF=>?_)
 · exact ze hF
 exact ze hF
def V5(fuel:Nat)(KP:List Int)(KQ:List Method)(Jp:List Rule)(GJ:aV):Option (Bool):=
 if (decide ((1048576:Int)<(KP.length:Int)))then (
   some true)
 else (
   (WF KQ 1048576).bind fun r2=>
   if (decide ((r2:Int)<0))then (
     some true)
   else (
     (WV Jp r2).bind fun r5=>
     if (decide ((r5:Int)<0))then (
       some true)
     else (
       (Qx GJ r5).bind fun r8=>
       if (decide ((r8:Int)<0))then (
         some true)
       else (
         (zu KP).bind fun DI=>
         (ML KQ).bind fun jH=>
         (M7 Jp).bind fun d_=>
         (Jk GJ).bind fun yR=>
         (QA fuel DI jH d_ yR).bind fun mO=>
         (zu KP).bind fun r26=>
         (ML KQ).bind fun vg=>
         (M7 Jp).bind fun r32=>
         (Jk GJ).bind fun yV=>
         (QD fuel r26 vg r32 yV).bind fun OE=>
         if (!(OE==mO))then (
           some false)
         else (
           (zu KP).bind fun Ak=>
           (Fe r26 Ak).bind fun Ar=>
           if (!Ar)then (
             some false)
           else (
             (ML KQ).bind fun lu=>
             (WH vg lu).bind fun qw=>
             if (!qw)then (
               some false)
             else (
               (M7 Jp).bind fun K9=>
               (W_ r32 K9).bind fun OG=>
               if (!OG)then (
                 some false)
               else (
                 (Jk GJ).bind fun r60=>
                 (QE yV r60).bind fun r63=>
                 if (!r63)then (
                   some false)
                 else (
                   some true)))))))))
theorem anD{fuel:Nat}{KP:List Int}{aa:Sv}{KQ:List Method}{aA:Sv}{Jp:List Rule}{bi:Sv}{GJ:aV}{gu gY:Sv}{R:Bool}(hF:V5 fuel KP KQ Jp GJ=some R):
   Fw.Spec Tryz.prog 3 [aa.v,aA.v,bi.v,(zg [gu.v,gY.v])] [ag aa KP,TE aA KQ,TF bi Jp,ag gu GJ.Head,JE gY GJ.Atoms] (fun _:Unit=>(.bool R)) (fun _=>[]):=by
 refine Se 79 Tryz.func3 [.tmp 8] ?_
 intro H0 F0
 unfold V5 at hF
 refine au ?_
 refine bM (fun k1=>?_)
 refine eD ?_
 refine Ci hF (fun aeI hF=>?_) (fun aeI hF=>?_)
 · exact ze hF
 refine bF ?_
 refine bnd hF fun r2 hx3 hF=>bJ (aoA hx3) (fun _=>?_)
 refine bF ?_
 refine Ci hF (fun Uh hF=>?_) (fun Uh hF=>?_)
 · exact ze hF
 refine aP ?_
 refine bnd hF fun r5 hx6 hF=>bJ (apF hx6) (fun _=>?_)
 refine bF ?_
 refine Ci hF (fun aeE hF=>?_) (fun aeE hF=>?_)
 · exact ze hF
 refine aP ?_
 refine bnd hF fun r8 dF hF=>bJ (apH dF) (fun _=>?_)
 refine bF ?_
 refine Ci hF (fun aB3 hF=>?_) (fun aB3 hF=>?_)
 · exact ze hF
 refine au ?_
 refine dS [0,2,4,6,1,3,5,7,8,9] [0,1,0,7,0,31,0,127,255,511] [1,3,5,7,8] mixed (by decide+kernel) ?_
 refine sU ?_
 refine bnd hF fun DI Uz hF=>ni (IZ Uz) (fun p13=>?_)
 refine bnd hF fun jH mf hF=>ni (aax mf) (fun p16=>?_)
 refine bnd hF fun d_ gq hF=>ni (aaE gq) (fun r_=>?_)
 refine bnd hF fun yR yB hF=>Dx2 (aaF yB) (fun mP=>?_)
 refine bnd hF fun mO hx24 hF=>atC rfl rfl .no (.cons (.t .h) (.cons .h (.cons .h (.cons .h (.cons .h .nil))))) .nil (fun ha=>jy (pre:=[]) (.cons bq (.cons bq (.cons bq (.cons bq (.cons bq .nil))))) (fun _=>.nil) (bU cf8.h (.cons (EN ha (.tmp rfl rfl) rfl) (.cons (EN ha (.tmp rfl rfl) rfl) (.cons (EN ha (.tmp rfl rfl) rfl) (.cons (EN ha (.tmp rfl rfl) rfl) .nil)))) (apP hx24))) (fun _=>?_)
 refine cB ?_
 refine bg ?_
 refine bnd hF fun r26 hx27 hF=>fq (IZ hx27) (fun p28=>?_)
 refine aP ?_
 refine bnd hF fun vg rR hF=>fq (aax rR) (fun p31=>?_)
 refine aP ?_
 refine bnd hF fun r32 yF hF=>fq (aaE yF) (fun p34=>?_)
 refine aP ?_
 refine bnd hF fun yV yG hF=>Af (aaF yG) (fun p37=>?_)
 refine dJ (fun uX=>?_)
 refine As (zg [p37.1.v,p37.2.2.1.v]) ?_
 refine bu ?_
 refine bnd hF fun OE vV hF=>adt (.cons .q2 (.cons (.t .h) (.cons (.t .h) (.cons (.t .h) (.cons (.t .h) .nil))))) (jy (pre:=[]) (.cons bq (.cons bq (.cons bq (.cons bq (.cons bq .nil))))) (fun _=>.nil) (bU az0.h bN (apU vV))) (fun _=>?_)
 refine bu ?_
 refine aO (avw (s:=OE) (t:=mO) (.tmp rfl rfl) (.tmp rfl rfl)) ?_
 refine au ?_
 refine Ci hF (fun TP hF=>?_) (fun TP hF=>?_)
 · exact ze hF
 refine aX ?_
 refine bnd hF fun Ak qO hF=>fq (IZ qO) (fun p44=>?_)
 refine bnd hF fun Ar Ac hF=>l9 (.cons .h (.cons .q4 .nil)) (jy (pre:=[]) (.cons bq (.cons bq .nil)) (fun _=>.nil) (bU az6.h bN (P7 Ac))) (fun _=>?_)
 refine bg ?_
 refine Ci hF (fun TQ hF=>?_) (fun TQ hF=>?_)
 · exact ze hF
 refine aX ?_
 refine bnd hF fun lu kU hF=>fq (aax kU) (fun p50=>?_)
 refine bnd hF fun qw uP hF=>l9 (.cons .h (.cons .q5 .nil)) (jy (pre:=[]) (.cons bq (.cons bq .nil)) (fun _=>.nil) (bU az7.h bN (aoN uP))) (fun _=>?_)
 refine bg ?_
 refine Ci hF (fun adD hF=>?_) (fun adD hF=>?_)
 · exact ze hF
 refine aX ?_
 refine bnd hF fun K9 ma hF=>fq (aaE ma) (fun p56=>?_)
 refine bnd hF fun OG aeQ hF=>l9 (.cons .h (.cons .q6 .nil)) (jy (pre:=[]) (.cons bq (.cons bq .nil)) (fun _=>.nil) (bU az8.h bN (apV aeQ))) (fun _=>?_)
 refine bg ?_
 refine Ci hF (fun aeP hF=>?_) (fun aeP hF=>?_)
 · exact ze hF
 refine bg ?_
 refine dS [0,1,2,3,4] [0,0,2,7,15] [2,3] mixed (by decide+kernel) ?_
 refine ed rfl .no .q8 (fun ha hp=>jw zY.h qf.h.sz rfl (EN ha (.tmp rfl rfl) rfl) hp.2 rfl) ?_
 refine du ?_
 refine bnd hF fun r60 Zz hF=>qB rfl rfl .no (.rd (.t (.t (.t (.t (.t (.t (.t (.t (.t (.t (.t (.t (.t (.t (.t (.t (.t (.t .h)))))))))))))))))) rfl (.rd (.t (.t (.t (.t (.t (.t (.t (.t (.t (.t (.t (.t (.t (.t (.t (.t (.t (.t (.t .h))))))))))))))))))) rfl .nil)) (.own .q8 (fun _ h=>h) .nil) (fun ha=>bU azT.h (.cons (EN ha (.tmp rfl rfl) rfl) .nil) (aaF Zz)) (fun p62=>?_)
 refine bnd hF fun r63 adL hF=>Fx rfl rfl .no (.cons (.t .h) (.cons .h (.cons .q6 (.cons .q6 .nil)))) (.dep rfl .nil) (fun ha=>jy (pre:=[]) (.cons bq (.cons bq (.cons bq (.cons bq .nil)))) (fun _=>.nil) (bU az9.h (.cons (EN ha (.tmp rfl rfl) rfl) (.cons (EN ha (.tmp rfl rfl) rfl) .nil)) (apX adL))) (fun _=>?_)
 refine cB ?_
 refine Ci hF (fun CP hF=>?_) (fun CP hF=>?_)
 · exact ze hF
 exact ze hF
end Go.Proofs.YtdmapdjncfkhhaaGreatDoor
