/-
  Functions of the program as Lean functions, and that the calls return what these say: part 4. No conditions.
-/
import Derived.Shelf.Sort.Plain
import Derived.Shelf.Slices.In.SortNone
import Derived.Shelf.Slices.CompactI
import Derived.Shelf.Strings.OnBuilder
import Derived.Shelf.Strconv.Itoa3
import Derived.Test.YtdmapdjncfkhhaaGreatDoorPlanLineG2
import Derived.KernelRfl
set_option maxRecDepth 100000
set_option maxHeartbeats 1000000
set_option linter.unusedVariables false
namespace Go.Proofs.YtdmapdjncfkhhaaGreatDoor
open Go Go.Fw

def D5(dW:List Fact):List Atom->Nat->(List aY)->Option ((List aY))
 |[],k9,c3=>some c3
 |eB::dU,k9,c3=>(Sl c3 eB dW).bind fun gH=>
   D5 dW dU (k9+1) gH
def LA(ai:Query)(dW:List Fact):Option ((List aY)):=
 D5 dW ai.Atoms 0 ([(⟨[],[]⟩:aY)]:List aY)
theorem aix{ai:Query}{ae ay:Sv}{dW:List Fact}{aC:Sv}{R:(List aY)}(hF:LA ai dW=some R):
   Fw.Spec Tryz.prog 250 [(zg [ae.v,ay.v]),aC.v] [ah ae ai.Head,bH ay ai.Atoms,dY aC dW] (fun p:Sv×List Nat=>p.1.v) (fun p=>[rE p.2 p.1 R]):=by
 refine Se 23 Tryz.func250 [.tmp 4] ?_
 intro H0 F0
 unfold LA at hF
 refine au ?_
 refine bB (fun k1=>?_)
 refine bq ?_
 refine aI (jm dV.h rfl (vs:=[]) .nil (cells:=[(.slice none 0 0),(.slice none 0 0)]) rfl) ?_
 refine dQ rfl (cz (g:=true) zM.h dV.h bZ (vs:=[(.agg ([(.slice none 0 0),(.slice none 0 0)]:List Value).toArray)]) rfl rfl rfl (by intro v hv; simp at hv; rcases hv with rfl<;>rfl)) (fun k2=>?_)
 iterate 2 refine XM .nil (iD (Ro:=(aG aK)) (E:=3)) dz ?_
 refine dP (.cons .q2 (.cons (.t .h) (.cons .h .nil))) (cK (Ro:=qx) (E:=136) (F:=(([]++[])++[])) (xs:=([(⟨[],[]⟩:aY)]:List aY)) (gq (TS (v0:=⟨none,0,0⟩) (v1:=⟨none,0,0⟩) (a:=(⟨[],[]⟩:aY))) cB dz) rfl rfl) ?_
 refine dK ?_
 refine bn (bF (m:=ai.Atoms.length) (fun m7 f' cs'=>∃(g:Fr)(k9:Nat)(dU:List Atom)(c3:List aY)(v4:Sv)(F5:List Nat),m7=dU.length/\f'=aM g [(1,aC.v),(5,v4.v),(11,ay.v),(12,(zi (ai.Atoms.length:Int))),(13,(zi (k9:Int)))]/\List.drop k9 ai.Atoms=dU/\aL cs' [dY aC dW,rE F5 v4 c3,bH ay ai.Atoms]/\D5 dW dU k9 c3=some R) ⟨_,0,_,_,⟨(some ⟨k2,0,none⟩),1,1⟩,(k2::(([]++[])++[])),rfl,aA,rfl,az,hF⟩ ?_)
 rintro m7 _ _ ⟨g8,k9,dU,c3,v4,F5,rfl,rfl,lI,hE,hF⟩
 refine Kb hE ai.Atoms (fun Jy=>?_)
 rcases dU with _|⟨eB,dU⟩
 · have sH:=dn lI
   rw[D5]at hF
   refine aU ?_
   refine bR ?_
   refine dK ?_
   cases hF
   exact Er (v4,F5)
 obtain⟨sH,iy,qb⟩:=bN lI
 rw[D5]at hF
 refine aU ?_
 refine bQ ?_
 refine bq ?_
 refine Ai iy (fun k18 j19=>?_)
 refine iM (oV eB) pO (fun wE=>?_)
 refine dH (fun k21=>?_)
 refine As (zg [(zi eB.Rel),wE.v]) ?_
 refine aV ?_
 refine bnd hF fun gH mK hF=>su (.cons .q4 (.rd (.t .h) rfl (.rd .q3 rfl .nil))) (lF bU (fun _=>(.cons .nil)) (dB aqV.h bZ (ajE mK))) (fun iA=>?_)
 refine aZ ?_
 rw[wk k9]
 exact⟨_,bG _,_,k9+1,dU,_,iA.1,iA.2,rfl,aA,qb,az,hF⟩
def DD(mh:List Int):List Int->Nat->Option (Bool)
 |[],k4=>some true
 |x6::ax,k4=>(ix mh (k4:Int)).bind fun j5=>
   if ((x6:Int)!=j5)then (
     some false)
   else (
     DD mh ax (k4+1))
def Rn(ll:List Int)(mh:List Int):Option (Bool):=
 if (((ll.length:Int):Int)!=(mh.length:Int))then (
   some false)
 else (
   DD mh ll 0)
theorem ahy{ll:List Int}{ae:Sv}{mh:List Int}{aC:Sv}{R:Bool}(hF:Rn ll mh=some R):
   Fw.Spec Tryz.prog 251 [ae.v,aC.v] [ah ae ll,ah aC mh] (fun _:Unit=>(.bool R)) (fun _=>[]):=by
 refine Se 26 Tryz.func251 [.tmp 4] ?_
 intro H0 F0
 unfold Rn at hF
 refine oC ?_
 refine Ci hF (fun Ab hF=>?_) (fun Ab hF=>?_)
 · exact ze hF
 refine bf ?_
 refine bn (bF (m:=ll.length) (fun m2 f' cs'=>∃(g:Fr)(k4:Nat)(ax:List Int),m2=ax.length/\f'=aM g [(0,ae.v),(1,aC.v),(12,(zi (ll.length:Int))),(13,(zi (k4:Int)))]/\List.drop k4 ll=ax/\aL cs' [ah ae ll,ah aC mh]/\DD mh ax k4=some R) ⟨_,0,_,rfl,aA,rfl,az,hF⟩ ?_)
 rintro m2 _ _ ⟨g3,k4,ax,rfl,rfl,hd7,hE,hF⟩
 refine Kb hE ll (fun iK=>?_)
 rcases ax with _|⟨x6,ax⟩
 · have dM:=dn hd7
   rw[DD]at hF
   refine aU ?_
   refine bR ?_
   exact ze hF
 obtain⟨dM,bP,dL⟩:=bN hd7
 rw[DD]at hF
 refine aU ?_
 refine bQ ?_
 refine aZ ?_
 refine dE [0,1,2,3,4,5,6,7,8] [0,0,3,7,0,0,48,112,255] [] mixed (by decide+kernel) ?_
 refine bS ?_
 refine Di bP (fun k13 j6=>?_)
 refine Dl bY ?_
 refine bS ?_
 refine zI hF fun j5 YN fV hF=>?_
 refine Di fV (fun k19 Ke=>?_)
 refine Dl bY ?_
 refine bS ?_
 refine Ci hF (fun lg hF=>?_) (fun lg hF=>?_)
 · exact ze hF
 refine aV ?_
 rw[wk k4]
 exact⟨_,bG _,_,k4+1,ax,rfl,aA,dL,az,hF⟩
def DW(ai:Query)(nM:List Int):List aY->Nat->Option (aY×Bool)
 |[],kI=>some ((⟨[],[]⟩:aY),false)
 |x34::nE,kI=>(I6 ai x34).bind fun GX=>
   (Rn GX nM).bind fun gM=>
   if gM then (
     some (x34,true))
   else (
     DW ai nM nE (kI+1))
def Ld(ai:Query)(dW:List Fact)(nM:List Int):Option (aY×Bool):=
 (LA ai dW).bind fun r3=>
 DW ai nM r3 0
theorem aib{ai:Query}{ae ay:Sv}{dW:List Fact}{aC:Sv}{nM:List Int}{bJ:Sv}{R:aY×Bool}(hF:Ld ai dW nM=some R):
   Fw.Spec Tryz.prog 187 [(zg [ae.v,ay.v]),aC.v,bJ.v] [ah ae ai.Head,bH ay ai.Atoms,dY aC dW,ah bJ nM] (fun p:Sv×Sv=>(.tuple [(zg [p.1.v,p.2.v]),(.bool R.2)].toArray)) (fun p=>[ah p.1 R.1.Vars,ah p.2 R.1.Values]):=by
 refine Se 26 Tryz.func187 [.cell 6 136,.tmp 7] ?_
 intro H0 F0
 unfold Ld at hF
 refine au ?_
 refine bB (fun k1=>?_)
 refine dH (fun k2=>?_)
 refine aZ ?_
 refine bnd hF fun r3 hx4 hF=>eZ (aix hx4) (fun p5=>?_)
 refine bq ?_
 refine bn (rZ .h bU ?_)
 refine bF (m:=r3.length) (fun Qx f' cs'=>∃(g:Fr)(kI:Nat)(nE:List aY),Qx=nE.length/\f'=aM g [(2,bJ.v),(3,(pz k1)),(6,(pz k2)),(12,p5.1.v),(13,(zi (r3.length:Int))),(14,(zi (kI:Int)))]/\List.drop kI r3=nE/\aL cs' [ah bJ nM,bi k1 39 (zg [ae.v,ay.v]),ah ae ai.Head,bH ay ai.Atoms,b_ k2 136 (.agg ([(.slice none 0 0),(.slice none 0 0)]:List Value).toArray),tY p5.1 r3]/\DW ai nM nE kI=some R) ⟨_,0,_,rfl,aA,rfl,az,hF⟩ ?_
 rintro Qx _ _ ⟨g31,kI,nE,rfl,rfl,OH,hE,hF⟩
 refine Kb hE r3 (fun arc=>?_)
 rcases nE with _|⟨x34,nE⟩
 · have OI:=dn OH
   rw[DW]at hF
   refine aU ?_
   refine bR ?_
   refine aV ?_
   refine aI (jm dV.h rfl (vs:=[]) .nil (cells:=[(.slice none 0 0),(.slice none 0 0)]) rfl) ?_
   refine As (.agg ([(.slice none 0 0),(.slice none 0 0)]:List Value).toArray) ?_
   refine bq ?_
   cases hF
   exact iX (⟨none,0,0⟩,⟨none,0,0⟩) (.cellA rfl rfl .h rfl ku.h dV.h.sz rfl rfl (.tmp rfl rfl .nil)) rfl (.conv .nil (zf (R:=aK) (E:=3)) (.cons .nil) (.conv .nil (zf (R:=aK) (E:=3)) (.cons .nil) (.sel (.rd (.t .h) rfl (.rd .h rfl .nil)))))
 obtain⟨OI,JJ,hd38⟩:=bN OH
 rw[DW]at hF
 refine aU ?_
 refine bQ ?_
 refine bq ?_
 refine Ai JJ (fun qh Ka=>?_)
 refine zT (Iz x34) LJ (fun p43=>?_)
 refine dH (fun Vs=>?_)
 refine As (zg [p43.1.v,p43.2.v]) ?_
 refine aU ?_
 refine bnd hF fun GX Ac hF=>eZ (aby Ac) (fun p47=>?_)
 refine au ?_
 refine bnd hF fun gM iO hF=>dZ (.cons .h (.rd .q4 rfl .nil)) (lF bU (fun _=>.nil) (dB aqW.h bZ (ahy iO))) (fun _=>?_)
 refine au ?_
 refine Ci hF (fun PL hF=>?_) (fun PL hF=>?_)
 · refine aW ?_
   refine As (zg [p43.1.v,p43.2.v]) ?_
   refine bq ?_
   cases hF
   exact iX (p43.1,p43.2) (.cellA rfl rfl .h rfl ku.h dV.h.sz rfl rfl (.tmp rfl rfl .nil)) rfl (.sel (.rd .q3 rfl (.rd .q4 rfl .nil)))
 refine aV ?_
 rw[wk kI]
 exact⟨_,bG _,_,kI+1,nE,rfl,aA,hd38,az,hF⟩
def LX(fuel:Nat)(ed:Query)(ai:Query):Option (Bool):=
 if (((ed.Head.length:Int):Int)!=(ai.Head.length:Int))then (
   some false)
 else (
   (Ie ed).bind fun r4=>
   (Ie ai).bind fun r7=>
   (Ht ([r4,r7]:List (List Int))).bind fun qf=>
   (Nu fuel ed qf).bind fun jw=>
   if (!jw.2.2)then (
     some false)
   else (
     (I6 ed jw.2.1).bind fun mR=>
     (Ld ai jw.1 mR).bind fun sW=>
     some sW.2))
theorem ai3{fuel:Nat}{ed:Query}{ae ay:Sv}{ai:Query}{aC aR:Sv}{R:Bool}(hF:LX fuel ed ai=some R):
   Fw.Spec Tryz.prog 97 [(zg [ae.v,ay.v]),(zg [aC.v,aR.v])] [ah ae ed.Head,bH ay ed.Atoms,ah aC ai.Head,bH aR ai.Atoms] (fun _:Unit=>(.bool R)) (fun _=>[]):=by
 refine Se 41 Tryz.func97 [.tmp 4] ?_
 intro H0 F0
 unfold LX at hF
 refine au ?_
 refine bB (fun k1=>?_)
 refine bB (fun k2=>?_)
 refine Cs ?_
 refine Ci hF (fun zU hF=>?_) (fun zU hF=>?_)
 · exact ze hF
 refine au ?_
 refine dE [0,1,3,12,2,4,5,6,7,8,9,10,11,13,14,15] [0,0,2,0,14,30,62,127,255,511,511,511,0,5119,14335,32767] [2,4,6,7,14] mixed (by decide+kernel) ?_
 refine dI ?_
 refine jI rfl .no rfl (fun ha=>Jb (g:=true) dV.h rfl rfl) (fun k3=>?_)
 refine bnd hF fun r4 hx5 hF=>eU rfl rfl .no (.rd .q3 rfl (.rd .q4 rfl .nil)) (.own .h (fun _ h=>h) .nil) (fun ha=>dB aeI.h (.cons (EN ha (.tmp rfl rfl) rfl) .nil) (@aaH ed ae ay _ hx5)) (fun p6=>?_)
 refine bnd hF fun r7 jy hF=>eU rfl rfl .no (.rd .q6 rfl (.rd .q7 rfl .nil)) (.own (.t .h) (fun _ h=>h) .nil) (fun ha=>dB aeI.h (.cons (EN ha (.tmp rfl rfl) rfl) .nil) (@aaH ai aC aR _ jy)) (fun p9=>?_)
 refine jI rfl .no rfl (fun ha=>cz (g:=true) (len:=2) (parts:=[(0,.tmp 20),(1,.tmp 22)]) NU.h uf.h (.cons (EN ha (.tmp rfl rfl) rfl) (.cons (EN ha (.tmp rfl rfl) rfl) .nil)) (vs:=[p6.1.v,p9.1.v]) rfl rfl rfl (by intro v hv; simp at hv; rcases hv with rfl|rfl<;>rfl)) (fun k10=>?_)
 refine jO (.cons .h (.cons (.t .h) (.cons .h .nil))) (cK (Ro:=(aP 3 (aG aK))) (E:=22) (F:=(p6.2++(p9.2++[]))) (xs:=([r4,r7]:List (List Int))) (gq Tz (gq Tz cB dz) dz) rfl rfl) ?_
 refine bnd hF fun qf qD hF=>uS rfl rfl .no (.cons .h .nil) (.dep rfl (.own .h (fun _ h=>h) .nil)) (fun ha=>lF bU (fun _=>(.cons .nil)) (dB aeJ.h (.cons (EN ha (.tmp rfl rfl) rfl) .nil) (@aag ([r4,r7]:List (List Int)) (⟨(some ⟨k10,0,none⟩),2,1⟩) _ qD))) (fun p13=>?_)
 refine bnd hF fun jw jS hF=>NE rfl rfl .no (.cons (.t .h) (.rd .q4 rfl (.rd .q5 rfl .nil))) (.dep rfl (.own (.t .h) (fun _ h=>h) .nil)) (fun ha=>lF bU (fun _=>(.cons (.cons (.cons .nil)))) (zk (.rd (.t .h) rfl (.rd .q2 rfl (.rd .h rfl .nil))) (dB aqN.h (.cons (EN ha (.tmp rfl rfl) rfl) (.cons (EN ha (.tmp rfl rfl) rfl) .nil)) (@ak9 fuel ed ae ay qf p13.1 _ jS)))) (fun p16=>?_)
 refine du ?_
 refine dX rfl .no (fun ha=>wP (l:=[p16.1.v,(zg [p16.2.2.1.v,p16.2.2.2.2.1.v]),(.bool jw.2.2)]) (v:=p16.1.v) (EN ha (.tmp rfl rfl) rfl) rfl) ?_
 refine dX rfl .no (fun ha=>wP (l:=[p16.1.v,(zg [p16.2.2.1.v,p16.2.2.2.2.1.v]),(.bool jw.2.2)]) (v:=(zg [p16.2.2.1.v,p16.2.2.2.2.1.v])) (EN ha (.tmp rfl rfl) rfl) rfl) ?_
 refine dX rfl .no (fun ha=>wP (l:=[p16.1.v,(zg [p16.2.2.1.v,p16.2.2.2.2.1.v]),(.bool jw.2.2)]) (v:=(.bool jw.2.2)) (EN ha (.tmp rfl rfl) rfl) rfl) ?_
 refine du ?_
 refine eU rfl rfl .no (.cons .q5 .nil) (.dep rfl (.dep rfl .nil)) (fun ha=>kg (e':=(zg [p16.2.2.1.v,p16.2.2.2.2.1.v])) (v:=(zg [p16.2.2.1.v,p16.2.2.2.2.1.v])) dV.h.sz (EN ha (.tmp rfl rfl) rfl) (EN ha (.tmp rfl rfl) rfl) rfl rfl rfl rfl rfl) (fun _=>?_)
 refine bS ?_
 refine aV ?_
 refine Ci hF (fun o_ hF=>?_) (fun o_ hF=>?_)
 · exact ze hF
 refine au ?_
 refine rZ .q3 bU ?_
 iterate 2 refine rZ .q4 bU ?_
 refine dE [0,1,2,3,9,4,5,6,7,8,10,11] [0,0,0,0,12,31,63,127,127,0,767,2047] [4,5,10] mixed (by decide+kernel) ?_
 refine dI ?_
 refine fA rfl .no .q3 (fun ha hp=>lC ku.h dV.h.sz rfl (EN ha (.tmp rfl rfl) rfl) hp.2 rfl) ?_
 refine jI rfl .no rfl (fun ha=>Jb (g:=true) dV.h rfl rfl) (fun k23=>?_)
 refine bnd hF fun mR hx25 hF=>eU rfl rfl .no (.rd .q9 rfl (.rd .q10 rfl (.rd .q3 rfl (.rd .q2 rfl .nil)))) (.own .h (fun _ h=>h) (.dep rfl .nil)) (fun ha=>NG (post':=fun p26:Sv×List Nat=>[ah p26.1 mR]) (fun p26=>(.frz .h bU az)) (dB aqT.h (.cons (EN ha (.tmp rfl rfl) rfl) (.cons (EN ha (.tmp rfl rfl) rfl) .nil)) (@aby ed ae ay jw.2.1 p16.2.2.1 p16.2.2.2.2.1 _ hx25))) (fun p26=>?_)
 refine bnd hF fun sW hx28 hF=>uS rfl rfl .no (.rd .q12 rfl (.rd .q13 rfl (.rd .q2 rfl (.rd .h rfl .nil)))) (.own (.t .h) (fun _ h=>h) (.dep rfl .nil)) (fun ha=>dB aqU.h (.cons (EN ha (.tmp rfl rfl) rfl) (.cons (EN ha (.tmp rfl rfl) rfl) (.cons (EN ha (.tmp rfl rfl) rfl) .nil))) (@aib ai aC aR jw.1 p16.1 mR p26.1 _ hx28)) (fun p29=>?_)
 refine du ?_
 refine dX rfl .no (fun ha=>wP (l:=[(zg [p29.1.v,p29.2.v]),(.bool sW.2)]) (v:=(zg [p29.1.v,p29.2.v])) (EN ha (.tmp rfl rfl) rfl) rfl) ?_
 refine dX rfl .no (fun ha=>wP (l:=[(zg [p29.1.v,p29.2.v]),(.bool sW.2)]) (v:=(.bool sW.2)) (EN ha (.tmp rfl rfl) rfl) rfl) ?_
 refine eU rfl rfl .no (.cons .q3 .nil) (.dep rfl (.dep rfl .nil)) (fun ha=>kg (e':=(zg [p29.1.v,p29.2.v])) (v:=(zg [p29.1.v,p29.2.v])) dV.h.sz (EN ha (.tmp rfl rfl) rfl) (EN ha (.tmp rfl rfl) rfl) rfl rfl rfl rfl rfl) (fun _=>?_)
 refine bS ?_
 exact ze hF
def Le(fuel:Nat)(ag:List Int)(ed:Query)(ai:Query):Option (Bool):=
 ((yG ag ed).bind fun r5=>
   bif r5 then ((yG ag ai).bind fun r9=>
     bif r9 then ((LX fuel ed ai).bind fun ik=>
       some ik)
     else (some false))
   else (some false)).bind fun o3=>
 match o3 with
 |c16=>some c16
theorem aic{fuel:Nat}{ag:List Int}{ae:Sv}{ed:Query}{aC aR:Sv}{ai:Query}{bJ eP:Sv}{R:Bool}(hF:Le fuel ag ed ai=some R):
   Fw.Spec Tryz.prog 223 [ae.v,(zg [aC.v,aR.v]),(zg [bJ.v,eP.v])] [ah ae ag,ah aC ed.Head,bH aR ed.Atoms,ah bJ ai.Head,bH eP ai.Atoms] (fun _:Unit=>(.bool R)) (fun _=>[]):=by
 refine Se 20 Tryz.func223 [.tmp 6] ?_
 intro H0 F0
 unfold Le at hF
 refine au ?_
 refine bB (fun k1=>?_)
 refine bB (fun k2=>?_)
 refine aW ?_
 obtain⟨o3,vI,hO4⟩:=bind_some hF
 refine au ?_
 refine fE (fun f' cs'=>∃(c16:Bool)(g:Fr),c16=o3/\f'=aM g [(6,(.bool c16))]/\aL cs' []) ?_ ?_
 · replace hF:=vI
   refine aW ?_
   refine bnd hF fun r5 hx6 hF=>aX (Lx hx6) (fun _=>?_)
   refine au ?_
   rcases bL r5 with fD|fD
   · rw[fD]
     try rw[fD]at hF; dsimp only[aO,aN]at hF
     refine aV ?_
     refine bnd hF fun r9 eX hF=>aX (Lx eX) (fun _=>?_)
     refine aW ?_
     rcases bL r9 with lV|lV
     · rw[lV]
       try rw[lV]at hF; dsimp only[aO,aN]at hF
       refine aV ?_
       refine bnd hF fun ik iy hF=>aX (ai3 iy) (fun _=>?_)
       exact bO hF
     rw[lV]
     try rw[lV]at hF; dsimp only[aO,aN]at hF
     exact bO hF
   rw[fD]
   try rw[fD]at hF; dsimp only[aO,aN]at hF
   exact bO hF
 rintro _ _ ⟨c16,g17,rfl,rfl,hE⟩
 replace hF:=hO4
 try dsimp only at hF
 refine bD hE ?_
 exact ze hF
def Sm(aa:Atom):Option (Atom):=
 (x_ aa.Terms).bind fun r3=>
 some (⟨aa.Rel,r3⟩:Atom)
theorem ajF{aa:Atom}{ay:Sv}{R:Atom}(hF:Sm aa=some R):
   Fw.Spec Tryz.prog 222 [(zg [(zi aa.Rel),ay.v])] [ah ay aa.Terms] (fun p:Sv×List Nat=>(zg [(zi R.Rel),p.1.v])) (fun p=>[bC p.2 p.1 R.Terms]):=by
 refine Se 9 Tryz.func222 [.cell 2 123] ?_
 intro H0 F0
 unfold Sm at hF
 refine au ?_
 refine bB (fun k1=>?_)
 refine dH (fun k2=>?_)
 refine au ?_
 refine dE [0,1,2,3,4,5,6] [0,1,0,4,12,31,63] [4,6] mixed (by decide+kernel) ?_
 refine o9 ?_
 refine bnd hF fun r3 hx4 hF=>Aw (KG hx4) (fun p5=>?_)
 refine dX rfl .no (fun ha=>jm ou.h rfl (vs:=[(zi aa.Rel),p5.1.v]) (.cons (EN ha (.tmp rfl rfl) rfl) (.cons (EN ha (.tmp rfl rfl) rfl) .nil)) (cells:=[(zi aa.Rel),p5.1.v]) rfl) ?_
 refine eU rfl rfl .no (.cons (.t .h) .nil) .nil (fun ha=>kg (e':=(zg [(zi aa.Rel),p5.1.v])) (v:=(zg [(zi aa.Rel),p5.1.v])) ou.h.sz (EN ha (.tmp rfl rfl) rfl) (EN ha (.tmp rfl rfl) rfl) rfl rfl rfl rfl rfl) (fun _=>?_)
 refine du ?_
 refine au ?_
 cases hF
 exact Er (p5.1,p5.2)
def A9(ag:List Int)(ai:Query)(c8:List Query)(c11:Int)(gH:(List Int))(fuel:Nat):List Atom->Nat->(List Atom)->Option ((List Query))
 |[],tq,kU=>(Le fuel ag (⟨gH,kU⟩:Query) ai).bind fun r80=>
   if r80 then (
     (app c8 ([(⟨gH,kU⟩:Query)]:List Query)).bind fun z84=>
     some z84)
   else (
     some c8)
 |VH::zG,tq,kU=>((JG .i64 c11 (tq:Int)).bind fun x94=>
     if (((Oz .i64 x94 1):Int)==1)then (
       (Sm VH).bind fun GD=>
       (app kU ([GD]:List Atom)).bind fun agA=>
       some agA)
     else (
       some kU)).bind fun o88=>
   match o88 with
   |PU=>A9 ag ai c8 c11 gH fuel zG (tq+1) PU
def A_(ag:List Int)(ai:Query)(x6:Int)(fuel:Nat):Nat->(List Query)->Int->Option ((List Query))
 |0,_,_=>none
 |m12+1,c8,c11=>if (decide ((c11:Int)<x6))then (
     ((x_ ai.Head).bind fun gH=>
       A9 ag ai c8 c11 gH fuel ai.Atoms 0 ([]:List Atom)).bind fun sU=>
     match sU with
     |c109=>A_ ag ai x6 fuel m12 c109 (IntKind.i64.wrap (c11+1)))
   else (
     some c8)
def KO(fuel:Nat)(ag:List Int)(ai:Query):Option ((List Query)):=
 (yG ag ai).bind fun r3=>
 if (!r3)then (
   some ([]:List Query))
 else (
   (Oy .i64 1 (ai.Atoms.length:Int)).bind fun x6=>
   A_ ag ai x6 fuel ((x6-0).toNat+2) ([]:List Query) 0)
theorem ahF{fuel:Nat}{ag:List Int}{ae:Sv}{ai:Query}{aC aR:Sv}{R:(List Query)}(hF:KO fuel ag ai=some R):
   Fw.Spec Tryz.prog 140 [ae.v,(zg [aC.v,aR.v])] [ah ae ag,ah aC ai.Head,bH aR ai.Atoms] (fun p:Sv×List Nat=>p.1.v) (fun p=>[vg p.2 p.1 R]):=by
 refine Se 58 Tryz.func140 [.tmp 4] ?_
 intro H0 F0
 unfold KO at hF
 refine au ?_
 refine bB (fun k1=>?_)
 refine bq ?_
 refine dQ rfl (cz (g:=true) FC.h rJ.h .nil (vs:=[]) rfl rfl rfl (by simp)) (fun k2=>?_)
 refine dP (.cons .h .nil) (cK (Ro:=sF) (E:=39) (F:=[]) (xs:=([]:List Query)) cB rfl rfl) ?_
 refine aZ ?_
 refine bnd hF fun r3 hx4 hF=>aX (Lx hx4) (fun _=>?_)
 refine aW ?_
 refine Ci hF (fun Yo hF=>?_) (fun Yo hF=>?_)
 · refine aV ?_
   cases hF
   exact Er (⟨(some ⟨k2,0,none⟩),0,1⟩,(k2::[]))
 refine aZ ?_
 refine bnd hF fun x6 hx7 hF=>aI (aev (i:=1) (j:=(ai.Atoms.length:Int)) (.int _ _) (.tmp rfl rfl) hx7) ?_
 refine aW ?_
 refine bn (bF (m:=((x6-0).toNat+2)) (fun m12 f' cs'=>∃(g:Fr)(c8:List Query)(c11:Int)(v9:Sv)(Kl:List Nat),f'=aM g [(0,ae.v),(3,(pz k1)),(5,v9.v),(19,(zi x6)),(20,(zi c11))]/\aL cs' [ah ae ag,bi k1 39 (zg [aC.v,aR.v]),ah aC ai.Head,bH aR ai.Atoms,vg Kl v9 c8]/\A_ ag ai x6 fuel m12 c8 c11=some R) ⟨_,_,_,⟨(some ⟨k2,0,none⟩),0,1⟩,(k2::[]),aA,az,hF⟩ ?_)
 rintro m12 _ _ ⟨g13,c8,c11,v9,Kl,rfl,hE,hF⟩
 refine bD hE ?_
 rcases m12 with _|m12
 · rw[A_]at hF
   exact absurd hF (by simp)
 rw[A_]at hF
 refine aU ?_
 refine Ci hF (fun asF hF=>?_) (fun asF hF=>?_)
 · refine au ?_
   obtain⟨sU,Oa,O_⟩:=bind_some hF
   refine gX (fun f' cs'=>∃(c109:List Query)(UZ:Sv)(ZP:List Nat)(g:Fr),c109=sU/\f'=aM g [(0,ae.v),(3,(pz k1)),(5,UZ.v),(19,(zi x6)),(20,(zi c11))]/\aL cs' [ah ae ag,bi k1 39 (zg [aC.v,aR.v]),ah aC ai.Head,bH aR ai.Atoms,vg ZP UZ c109]) ?_ ?_
   · replace hF:=Oa
     refine bn (fe (Cm (zi c11) rfl rfl ?_))
     refine aV ?_
     refine bnd hF fun gH mK hF=>eZ (KG mK) (fun iA=>?_)
     refine aI (jm rJ.h rfl (vs:=[iA.1.v]) bZ (cells:=[iA.1.v,(.slice none 0 0)]) rfl) ?_
     refine dH (fun k25=>?_)
     refine As (zg [iA.1.v,(.slice none 0 0)]) ?_
     refine di ?_
     refine bn (bF (m:=ai.Atoms.length) (fun m69 f' cs'=>∃(g:Fr)(tq:Nat)(zG kU:List Atom)(v66:Sv)(wJ:List Nat),m69=zG.length/\f'=aM g [(0,ae.v),(3,(pz k1)),(5,v9.v),(6,(zi c11)),(7,(pz k25)),(19,(zi x6)),(20,(zi c11)),(28,aR.v),(29,(zi (ai.Atoms.length:Int))),(30,(zi (tq:Int)))]/\List.drop tq ai.Atoms=zG/\aL cs' [ah ae ag,bi k1 39 (zg [aC.v,aR.v]),ah aC ai.Head,bH aR ai.Atoms,vg Kl v9 c8,b_ k25 39 (zg [iA.1.v,v66.v]),bC iA.2 iA.1 gH,rD wJ v66 kU]/\A9 ag ai c8 c11 gH fuel zG tq kU=some sU) ⟨_,0,_,_,⟨none,0,0⟩,[],rfl,aA,rfl,(.conv .nil (iD (Ro:=kM) (E:=123)) (.cons .nil) az),hF⟩ ?_)
     rintro m69 _ _ ⟨g70,tq,zG,kU,v66,wJ,rfl,rfl,agB,hE,hF⟩
     refine Kb hE ai.Atoms (fun aAi=>?_)
     rcases zG with _|⟨VH,zG⟩
     · have avY:=dn agB
       rw[A9]at hF
       refine aU ?_
       refine bR ?_
       refine di ?_
       refine bnd hF fun r80 Zk hF=>su (.cons .q7 (.cons .q6 (.rd .h rfl (.rd .q2 rfl (.rd .q3 rfl .nil))))) (mV (pre:=_) (.cons bU (.cons bU .nil)) (fun _=>.nil) (zk (.rd .q2 rfl (.rd .h rfl (.rd (.t .h) rfl (.rd .q3 rfl (.rd .q4 rfl .nil))))) (dB aqM.h bZ (aic Zk)))) (fun _=>?_)
       refine au ?_
       refine Ci hF (fun avZ hF=>?_) (fun avZ hF=>?_)
       · refine bq ?_
         refine dQ rfl (cz (g:=true) FC.h rJ.h bZ (vs:=[(zg [iA.1.v,v66.v])]) rfl rfl rfl (by intro v hv; simp at hv; rcases hv with rfl<;>rfl)) (fun k83=>?_)
         refine dP (.cons .h (.cons (.t .h) (.cons .h .nil))) (cK (Ro:=sF) (E:=39) (F:=((iA.2++wJ)++[])) (xs:=([(⟨gH,kU⟩:Query)]:List Query)) (gq (afu (a:=(⟨gH,kU⟩:Query))) cB dz) rfl rfl) ?_
         refine bnd hF fun z84 JW hF=>dZ (.cons .q5 (.cons .h .nil)) (fT (Ro:=sF) FC.h aeE rJ.h rfl rfl rfl (.tmp rfl rfl) (.tmp rfl rfl) JW iF) (fun p86=>?_)
         refine aW ?_
         cases hF
         exact⟨_,p86.1,p86.2,_,rfl,aA,az⟩
       refine au ?_
       cases hF
       exact⟨_,v9,Kl,_,rfl,aA,az⟩
     obtain⟨avY,av_,av'⟩:=bN agB
     rw[A9]at hF
     refine aU ?_
     refine bQ ?_
     refine au ?_
     obtain⟨o88,asG,awc⟩:=bind_some hF
     refine gX (fun f' cs'=>∃(PU:List Atom)(v105:Sv)(ZQ:List Nat)(g:Fr),PU=o88/\f'=aM g [(0,ae.v),(3,(pz k1)),(5,v9.v),(6,(zi c11)),(7,(pz k25)),(19,(zi x6)),(20,(zi c11)),(28,aR.v),(29,(zi (ai.Atoms.length:Int))),(30,(zi (tq:Int)))]/\aL cs' [ah ae ag,bi k1 39 (zg [aC.v,aR.v]),ah aC ai.Head,bH aR ai.Atoms,vg Kl v9 c8,b_ k25 39 (zg [iA.1.v,v105.v]),bC iA.2 iA.1 gH,rD ZQ v105 PU]) ?_ ?_
     · replace hF:=asG
       refine bn (fe (Cm (zi (tq:Int)) rfl rfl ?_))
       refine Ai av_ (fun k90 j91=>?_)
       refine iM (oV VH) pO (fun p92=>?_)
       refine dH (fun k93=>?_)
       refine au ?_
       refine As (zg [(zi VH.Rel),p92.v]) ?_
       refine aU ?_
       refine bnd hF fun x94 hx95 hF=>aI (aew (i:=c11) (j:=(tq:Int)) (.tmp rfl rfl) (.tmp rfl rfl) hx95) ?_
       refine aI (aex (i:=x94) (j:=1) (.tmp rfl rfl) (.int _ _)) ?_
       refine aW ?_
       refine Ci hF (fun asH hF=>?_) (fun asH hF=>?_)
       · refine oW [0,1,2,3,4,5,6,7] [0,1,0,4,12,31,63,127] [3,5,7] mixed (by decide+kernel) ?_
         refine du ?_
         refine fA rfl .no .q8 (fun ha hp=>gu (v:=v66.v) OC.h (EN ha (.tmp rfl rfl) rfl) hp.2 rfl rfl) ?_
         refine fA rfl .no .h (fun ha hp=>lC aqk.h ou.h.sz rfl (EN ha (.tmp rfl rfl) rfl) hp.2 rfl) ?_
         refine bnd hF fun GD Zf hF=>eU rfl rfl .no (.rd (.t .h) rfl .nil) (.dep rfl (.own .q8 (fun _ h=>h) .nil)) (fun ha=>dB aqX.h (.cons (EN ha (.tmp rfl rfl) rfl) .nil) (ajF Zf)) (fun p98=>?_)
         refine jI rfl .no rfl (fun ha=>cz (g:=true) (len:=1) (parts:=[(0,.tmp 43)]) uh.h ou.h (.cons (EN ha (.tmp rfl rfl) rfl) .nil) (vs:=[(zg [(zi GD.Rel),p98.1.v])]) rfl rfl rfl (by intro v hv; simp at hv; rcases hv with rfl<;>rfl)) (fun uE=>?_)
         refine jO (.cons .h (.cons .h .nil)) (cK (Ro:=kM) (E:=123) (F:=(p98.2++[])) (xs:=([GD]:List Atom)) (gq NW cB dz) rfl rfl) ?_
         refine bnd hF fun agA hx101 hF=>eU rfl rfl .no (.cons .q11 (.cons .h .nil)) (.dep rfl (.dep rfl (.dep rfl .nil))) (fun ha=>fT (Ro:=kM) uh.h Um ou.h rfl rfl rfl (EN ha (.tmp rfl rfl) rfl) (EN ha (.tmp rfl rfl) rfl) hx101 iF) (fun ZR=>?_)
         refine du ?_
         refine eU rfl rfl .no (.cons .q9 .nil) (.dep rfl (.dep rfl (.dep rfl .nil))) (fun ha=>kg (e':=(zg [iA.1.v,ZR.1.v])) Uk.h.sz (EN ha (.tmp rfl rfl) rfl) (EN ha (.tmp rfl rfl) rfl) rfl rfl rfl rfl rfl) (fun _=>?_)
         refine du ?_
         cases hF
         exact⟨_,ZR.1,ZR.2,_,rfl,aA,az⟩
       refine au ?_
       cases hF
       exact⟨_,v66,wJ,_,rfl,aA,az⟩
     rintro _ _ ⟨PU,v105,ZQ,aDm,rfl,rfl,hE⟩
     replace hF:=awc
     try dsimp only at hF
     refine bD hE ?_
     refine aU ?_
     rw[wk tq]
     exact⟨_,bG _,_,tq+1,zG,_,v105,ZQ,rfl,aA,av',az,hF⟩
   rintro _ _ ⟨c109,UZ,ZP,aDn,rfl,rfl,hE⟩
   replace hF:=O_
   try dsimp only at hF
   refine bD hE ?_
   refine aU ?_
   exact⟨m12,bG _,_,_,_,UZ,ZP,aA,az,hF⟩
 refine dK ?_
 cases hF
 exact Er (v9,Kl)
def KE(ag:List Step):Option ((List Step)):=
 (app ([]:List Step) ag).bind fun z5=>
 some z5
theorem aht{ag:List Step}{ae:Sv}{R:(List Step)}(hF:KE ag=some R):
   Fw.Spec Tryz.prog 224 [ae.v] [g_ ae ag] (fun p:Sv×List Nat=>p.1.v) (fun p=>[pX p.2 p.1 R]):=by
 refine Se 8 Tryz.func224 [.tmp 2] ?_
 intro H0 F0
 unfold KE at hF
 refine aZ ?_
 refine Xx (xs:=ag) oz.h (.tmp rfl rfl) .h Xi (fun bn1 hn2=>?_)
 refine au ?_
 refine Cc (fun hb3=>?_) (fun hb3=>?_)
 · have hnil:=hn2 hb3
   replace hF:some []=some R:=by rw[hnil]at hF; simpa[app]using hF
   refine aU ?_
   cases hF
   exact iX (⟨none,0,0⟩,[]) (.tmp rfl rfl .nil) rfl (.conv .nil (iD (Ro:=(aG gZ)) (E:=204)) (.cons .nil) (.sel (.cons .h .nil)))
 refine aW ?_
 refine dQ rfl (cz (g:=true) oz.h qy.h .nil (vs:=[]) rfl rfl rfl (by simp)) (fun k4=>?_)
 refine dP (.cons .h .nil) (cK (Ro:=(aG gZ)) (E:=204) (F:=[]) (xs:=([]:List Step)) cB rfl rfl) ?_
 refine au ?_
 refine bnd hF fun z5 hx6 hF=>dZ (.cons .h (.rd .h rfl .nil)) (fT (Ro:=(aG gZ)) oz.h NZ qy.h rfl rfl rfl (.tmp rfl rfl) (.tmp rfl rfl) hx6 qp) (fun p7=>?_)
 refine bq ?_
 cases hF
 exact Er (p7.1,p7.2)
def IE(kT:Int)(aH:Atom)(eQ:List Int):Option (Bool):=
 ((kL kT 0 (IntKind.i64.wrap ((aH.Terms.length:Int)-1))).bind fun r3=>
   bif (!r3)then (some true)
   else ((ix aH.Terms kT).bind fun x7=>
     (yX x7).bind fun ik=>
     bif ik then ((ix aH.Terms kT).bind fun Dk=>
       (Dz eQ Dk).bind fun iJ=>
       some (!iJ))
     else (some false))).bind fun o1=>
 match o1 with
 |QX=>some QX
theorem ai4{kT:Int}{bM:Nat}{aH:Atom}{fo:Sv}{jA:Nat}{eQ:List Int}{xA:Sv}{R:Bool}(hF:IE kT aH eQ=some R):
   Fw.Spec Tryz.prog 277 [(zi kT),(pz bM),(pz jA)] [bi bM 123 (zg [(zi aH.Rel),fo.v]),ah fo aH.Terms,bi jA 22 xA.v,ah xA eQ] (fun _:Unit=>(.bool R)) (fun _=>[]):=by
 refine Se 30 Tryz.func277 [.tmp 4] ?_
 intro H0 F0
 unfold IE at hF
 refine bq ?_
 obtain⟨o1,qI,hO2⟩:=bind_some hF
 refine dE [0,1,2,3,4,5,6,7,8,9,10,11,12,13,14,15,16,17,18,19,20,21,22,23,24,25] [0,0,2,6,14,31,63,127,255,511,255,2047,4095,8191,16383,32767,32767,98303,32767,491519,1015807,2097151,4194303,8388607,16777215,33554431] [5,13,21] mixed (by decide+kernel) ?_
 refine mD (fun f' cs'=>∃(QX:Bool)(g:Fr),QX=o1/\f'=aM g [(4,(.bool QX))]/\aL cs' []) ?_ ?_
 · replace hF:=qI
   refine ve ?_
   refine bnd hF fun r3 hx4 hF=>dR (l8 hx4) (fun _=>?_)
   refine bS ?_
   rcases bL (!r3)with gm|gm
   · rw[gm]
     try rw[gm]at hF; dsimp only[aO,aN]at hF
     exact eO hF
   rw[gm]
   try rw[gm]at hF; dsimp only[aO,aN]at hF
   refine dI ?_
   refine zI hF fun x7 hp9 eX hF=>?_
   refine Di eX (fun k11 j12=>?_)
   refine Dl bY ?_
   refine bnd hF fun ik iy hF=>dR (IU iy) (fun _=>?_)
   refine du ?_
   rcases bL ik with pu|pu
   · rw[pu]
     try rw[pu]at hF; dsimp only[aO,aN]at hF
     refine o9 ?_
     refine zI hF fun Dk auw lT hF=>?_
     refine Di lT (fun k21 Vt=>?_)
     refine Dl bY ?_
     refine bnd hF fun iJ hx24 hF=>dR (VL hx24) (fun _=>?_)
     exact eO hF
   rw[pu]
   try rw[pu]at hF; dsimp only[aO,aN]at hF
   exact eO hF
 rintro _ _ ⟨QX,g27,rfl,rfl,hE⟩
 replace hF:=hO2
 try dsimp only at hF
 refine bD hE ?_
 exact ze hF
def Hm(aH:Atom)(eQ:List Int):List Int->Nat->Option (Int)
 |[],k4=>some (-1)
 |x6::ax,k4=>(IE x6 aH eQ).bind fun fI=>
   if fI then (
     some (k4:Int))
   else (
     Hm aH eQ ax (k4+1))
def Rj(ag:List Int)(aH:Atom)(eQ:List Int):Option (Int):=
 Hm aH eQ ag 0
theorem ahs{ag:List Int}{ae:Sv}{bM:Nat}{aH:Atom}{fo:Sv}{jA:Nat}{eQ:List Int}{xA:Sv}{R:Int}(hF:Rj ag aH eQ=some R):
   Fw.Spec Tryz.prog 242 [ae.v,(.func (.func 277) [].toArray [(pz bM),(pz jA)].toArray)] [ah ae ag,bi bM 123 (zg [(zi aH.Rel),fo.v]),ah fo aH.Terms,bi jA 22 xA.v,ah xA eQ] (fun _:Unit=>(zi R)) (fun _=>[]):=by
 refine Se 19 Tryz.func242 [.tmp 4] ?_
 intro H0 F0
 unfold Rj at hF
 refine dK ?_
 refine bn (bF (m:=ag.length) (fun m2 f' cs'=>∃(g:Fr)(k4:Nat)(ax:List Int),m2=ax.length/\f'=aM g [(0,ae.v),(1,(.func (.func 277) [].toArray [(pz bM),(pz jA)].toArray)),(7,(zi (ag.length:Int))),(8,(zi (k4:Int)))]/\List.drop k4 ag=ax/\aL cs' [ah ae ag,bi bM 123 (zg [(zi aH.Rel),fo.v]),ah fo aH.Terms,bi jA 22 xA.v,ah xA eQ]/\Hm aH eQ ax k4=some R) ⟨_,0,_,rfl,aA,rfl,az,hF⟩ ?_)
 rintro m2 _ _ ⟨g3,k4,ax,rfl,rfl,hd7,hE,hF⟩
 refine Kb hE ag (fun iK=>?_)
 rcases ax with _|⟨x6,ax⟩
 · have dM:=dn hd7
   rw[Hm]at hF
   refine aU ?_
   refine bR ?_
   exact ze hF
 obtain⟨dM,bP,dL⟩:=bN hd7
 rw[Hm]at hF
 refine aU ?_
 refine bQ ?_
 refine iU ?_
 refine Ai bP (fun k13 j6=>?_)
 refine Al bY ?_
 refine bnd hF fun fI hx16 hF=>kE (.rd .q2 rfl (.rd .q3 rfl (.rd .q4 rfl (.rd .q5 rfl .nil)))) (oo aq3.h (.tmp rfl rfl) bZ (ai4 hx16)) (fun _=>?_)
 refine au ?_
 refine Ci hF (fun pq hF=>?_) (fun pq hF=>?_)
 · exact ze hF
 refine aV ?_
 rw[wk k4]
 exact⟨_,bG _,_,k4+1,ax,rfl,aA,dL,az,hF⟩
def KC(ag:List Int)(aH:Atom)(eQ:List Int):Option (Bool):=
 (Rj ag aH eQ).bind fun r1=>
 some (decide ((0:Int)<=r1))
theorem ahk{ag:List Int}{ae:Sv}{bM:Nat}{aH:Atom}{fo:Sv}{jA:Nat}{eQ:List Int}{xA:Sv}{R:Bool}(hF:KC ag aH eQ=some R):
   Fw.Spec Tryz.prog 176 [ae.v,(.func (.func 277) [].toArray [(pz bM),(pz jA)].toArray)] [ah ae ag,bi bM 123 (zg [(zi aH.Rel),fo.v]),ah fo aH.Terms,bi jA 22 xA.v,ah xA eQ] (fun _:Unit=>(.bool R)) (fun _=>[]):=by
 refine Se 9 Tryz.func176 [.tmp 4] ?_
 intro H0 F0
 unfold KC at hF
 refine aZ ?_
 refine bnd hF fun r1 hx2 hF=>aX (ahs hx2) (fun _=>?_)
 exact ze hF
def MZ(aF:Method)(aa:Atom)(cZ:List Int):Option (Bool):=
 (bif ((aF.Rel:Int)==aa.Rel)then ((KC aF.Inputs aa cZ).bind fun r7=>
     some (!r7))
   else (some false)).bind fun o4=>
 match o4 with
 |c10=>some c10
theorem aks{aF:Method}{ay:Sv}{aa:Atom}{aR:Sv}{cZ:List Int}{bJ:Sv}{R:Bool}(hF:MZ aF aa cZ=some R):
   Fw.Spec Tryz.prog 225 [(zg [(zi aF.Rel),ay.v,(zi aF.Limit),(zi aF.Cost),(zi aF.Quota)]),(zg [(zi aa.Rel),aR.v]),bJ.v] [ah ay aF.Inputs,ah aR aa.Terms,ah bJ cZ] (fun _:Unit=>(.bool R)) (fun _=>[]):=by
 refine Se 19 Tryz.func225 [.tmp 6] ?_
 intro H0 F0
 unfold MZ at hF
 refine au ?_
 refine bB (fun k1=>?_)
 refine bB (fun k2=>?_)
 refine bB (fun k3=>?_)
 refine aW ?_
 obtain⟨o4,awd,hO5⟩:=bind_some hF
 refine au ?_
 refine fE (fun f' cs'=>∃(c10:Bool)(g:Fr),c10=o4/\f'=aM g [(6,(.bool c10))]/\aL cs' []) ?_ ?_
 · replace hF:=awd
   refine aZ ?_
   rcases bL ((aF.Rel:Int)==aa.Rel)with gm|gm
   · rw[gm]
     try rw[gm]at hF; dsimp only[aO,aN]at hF
     refine aV ?_
     refine aI (uK (fn:=.func 277) (vs:=[]) (us:=[(pz k2),(pz k3)]) .nil bZ) ?_
     refine au ?_
     refine bnd hF fun r7 jy hF=>aX (ahk jy) (fun _=>?_)
     exact bO hF
   rw[gm]
   try rw[gm]at hF; dsimp only[aO,aN]at hF
   exact bO hF
 rintro _ _ ⟨c10,g11,rfl,rfl,hE⟩
 replace hF:=hO5
 try dsimp only at hF
 refine bD hE ?_
 exact ze hF
def yc(cZ:List Int)(jD:Int)(ff:finder->(List Bool)->(List Int)->Int->Option ((List Bool)×finder))(jc:Nat)(oG:Atom):List Method->Nat->(List Method)->(List Atom)->(List Step)->(List Step)->Int->(List Bool)->Option ((List Method)×(List Atom)×(List Step)×(List Step)×Int×(List Bool))
 |[],oH,xM,xN,Af,xO,vQ,vR=>some (xM,xN,Af,xO,vQ,vR)
 |qL::yZ,oH,xM,xN,Af,xO,vQ,vR=>(((ix vR (jc:Int)).bind fun U0=>
       bif U0 then (some true)
       else ((MZ qL oG cZ).bind fun agC=>
         some (!agC))).bind fun ZT=>
     match ZT with
     |PV=>if PV then (
         some (xM,xN,Af,xO,vQ,vR))
       else (
         (jT (decide (0<=(jc:Int))&&decide ((jc:Int)<(vR.length:Int)))).bind fun awe=>
         (some (vR.set ((jc:Int)).toNat true)).bind fun ZU=>
         (app Af ([(⟨(jc:Int),(oH:Int)⟩:Step)]:List Step)).bind fun ZV=>
         (Ht ([cZ,oG.Terms]:List (List Int))).bind fun U1=>
         (ff (⟨xM,xN,ZV,xO,vQ⟩:finder) ZU U1 (IntKind.i64.wrap (jD+qL.Cost))).bind fun rM=>
         (jT (decide (0<=((IntKind.i64.wrap ((rM.2.steps.length:Int)-1)):Int))&&decide (((IntKind.i64.wrap ((rM.2.steps.length:Int)-1)):Int)<(rM.2.steps.length:Int)))).bind fun awf=>
         (jT (decide (0<=(jc:Int))&&decide ((jc:Int)<(rM.1.length:Int)))).bind fun awg=>
         (some (rM.1.set ((jc:Int)).toNat false)).bind fun agD=>
         some (rM.2.l,rM.2.atoms,(rM.2.steps.take ((IntKind.i64.wrap ((rM.2.steps.length:Int)-1)):Int).toNat),rM.2.best,rM.2.cost,agD))).bind fun ZW=>
   match ZW with
   |(PW,PX,PY,PZ,P5,P6)=>yc cZ jD ff jc oG yZ (oH+1) PW PX PY PZ P5 P6
def DF(cZ:List Int)(jD:Int)(ff:finder->(List Bool)->(List Int)->Int->Option ((List Bool)×finder)):List Atom->Nat->(List Method)->(List Atom)->(List Step)->(List Step)->Int->(List Bool)->Option ((List Bool)×finder)
 |[],jc,pE,c213,Gh,c218,Gi,c222=>some (c222,(⟨pE,c213,Gh,c218,Gi⟩:finder))
 |oG::y5,jc,pE,c213,Gh,c218,Gi,c222=>(yc cZ jD ff jc oG pE 0 pE c213 Gh c218 Gi c222).bind fun U2=>
   match U2 with
   |(P7,P8,P9,P_,Qa,Qb)=>DF cZ jD ff y5 (jc+1) P7 P8 P9 P_ Qa Qb
def VS(ff:finder->(List Bool)->(List Int)->Int->Option ((List Bool)×finder))(fuel:Nat)(bg:finder)(pR:List Bool)(cZ:List Int)(jD:Int):Option ((List Bool)×finder):=
 if (((bg.steps.length:Int):Int)==(bg.atoms.length:Int))then (
   if ((bg.best.isEmpty)||(decide ((jD:Int)<bg.cost)))then (
     (KE bg.steps).bind fun r3=>
     (jT (!r3.isEmpty)).bind fun u6=>
     some (pR,(⟨bg.l,bg.atoms,bg.steps,r3,jD⟩:finder)))
   else (
     some (pR,bg)))
 else (
   DF cZ jD ff bg.atoms 0 bg.l bg.atoms bg.steps bg.best bg.cost pR)
def DK(fuel:Nat):Nat->finder->(List Bool)->(List Int)->Int->Option ((List Bool)×finder)
 |0,_,_,_,_=>none
 |n+1,bg,pR,cZ,jD=>VS (DK fuel n) fuel bg pR cZ jD
def V7(fuel:Nat)(bg:finder)(pR:List Bool)(cZ:List Int)(jD:Int):Option ((List Bool)×finder):=
 DK fuel fuel bg pR cZ jD
theorem aao(fuel:Nat):∀(n:Nat)(iW:Nat)(bg:finder)(ae:Sv)(ay:Sv)(dm:Sv)(Ag:List Nat)(gy:Sv)(CU:List Nat)(pR:List Bool)(aC:Sv)(Ah:List Nat)(cZ:List Int)(bJ:Sv)(jD:Int)(R:(List Bool)×finder)(hF:DK fuel n bg pR cZ jD=some R),
   Fw.Spec Tryz.prog 141 [(pz iW),aC.v,bJ.v,(zi jD)] [b_ iW 192 (zg [ae.v,ay.v,dm.v,gy.v,(zi bg.cost)]),dD ae bg.l,bH ay bg.atoms,pX Ag dm bg.steps,aQ (mF 204 (aG gZ)) CU gy.v bg.best,xU Ah aC pR,ah bJ cZ] (fun _:List Nat×Sv×Sv×Sv×List Nat×Sv×List Nat=>(.tuple [].toArray)) (fun p=>[xU p.1 aC R.1,b_ iW 192 (zg [p.2.1.v,p.2.2.1.v,p.2.2.2.1.v,p.2.2.2.2.2.1.v,(zi R.2.cost)]),dD p.2.1 R.2.l,bH p.2.2.1 R.2.atoms,pX p.2.2.2.2.1 p.2.2.2.1 R.2.steps,aQ (mF 204 (aG gZ)) p.2.2.2.2.2.2 p.2.2.2.2.2.1.v R.2.best])
 |0,_,_,_,_,_,_,_,_,_,_,_,_,_,_,_,hF=>by cases hF
 |n+1,iW,bg,ae,ay,dm,Ag,gy,CU,pR,aC,Ah,cZ,bJ,jD,R,hF=>by
   have ih:=aao fuel n
   unfold DK at hF
   generalize DK fuel n=ff at hF ih
   refine Se 125 Tryz.func141 [] ?_
   intro H0 F0
   unfold VS at hF
   refine au ?_
   refine dE [0,1,2,3,4,5,6,7,8,9,10] [0,1,3,7,15,0,32,96,224,480,1023] [] mixed (by decide+kernel) ?_
   refine du ?_
   refine dX rfl .no (fun ha=>ol (v:=(pz iW)) rfl (EN ha (.tmp rfl rfl) rfl)) ?_
   refine du ?_
   refine fA rfl .no .h (fun ha hp=>gu (v:=dm.v) N7.h (EN ha (.tmp rfl rfl) rfl) hp.2 rfl rfl) ?_
   refine fA rfl .no .q3 (fun ha hp=>qw (l:=bg.steps.length) oz.h (EN ha (.tmp rfl rfl) rfl) (ER hp)) ?_
   refine du ?_
   refine dX rfl .no (fun ha=>ol (v:=(pz iW)) rfl (EN ha (.tmp rfl rfl) rfl)) ?_
   refine du ?_
   refine fA rfl .no .h (fun ha hp=>gu (v:=ay.v) OC.h (EN ha (.tmp rfl rfl) rfl) hp.2 rfl rfl) ?_
   refine dI ?_
   refine Ci hF (fun asI hF=>?_) (fun asI hF=>?_)
   · refine aW ?_
     refine fE (fun f' cs'=>∃(g:Fr),f'=aM g [(0,(pz iW)),(3,(zi jD)),(35,(.bool ((bg.best.isEmpty)||(decide ((jD:Int)<bg.cost)))))]/\aL cs' [b_ iW 192 (zg [ae.v,ay.v,dm.v,gy.v,(zi bg.cost)]),dD ae bg.l,bH ay bg.atoms,pX Ag dm bg.steps,aQ (mF 204 (aG gZ)) CU gy.v bg.best,xU Ah aC pR]) ?_ ?_
     · refine au ?_
       refine aI (ol (v:=(pz iW)) rfl (.tmp rfl rfl)) ?_
       refine aW ?_
       refine fq .q4 (fun hp=>amK (Ro:=(aG gZ)) oz.h (.tmp rfl rfl) hp) ?_
       refine au ?_
       rcases bL (bg.best.isEmpty)with hg1|hg1
       · rw[hg1]
         try rw[hg1]at hF; dsimp only[aO,aN]at hF
         refine di ?_
         exact⟨_,aA,az⟩
       rw[hg1]
       try rw[hg1]at hF; dsimp only[aO,aN]at hF
       refine aV ?_
       refine aI (ol (v:=(pz iW)) rfl (.tmp rfl rfl)) ?_
       refine di ?_
       exact⟨_,aA,az⟩
     rintro _ _ ⟨g2,rfl,hE⟩
     refine bD hE ?_
     refine Ci hF (fun wh hF=>?_) (fun wh hF=>?_)
     · refine aU ?_
       refine aI (ol (v:=(pz iW)) rfl (.tmp rfl rfl)) ?_
       refine aW ?_
       refine bnd hF fun r3 hx4 hF=>su (.cons .q3 .nil) (lF bU (fun _=>(.cons .nil)) (dB aq0.h bZ (@aht bg.steps dm _ hx4))) (fun p5=>?_)
       refine au ?_
       refine aI (ol (v:=(pz iW)) rfl (.tmp rfl rfl)) ?_
       refine au ?_
       refine bnd hF fun u6 hx7 hF=>dP (.cons (.t .h) .nil) (anp (Ro:=(aG gZ)) (aoh hx7)) ?_
       refine As (zg [ae.v,ay.v,dm.v,p5.1.v,(zi bg.cost)]) ?_
       refine aI (ol (v:=(pz iW)) rfl (.tmp rfl rfl)) ?_
       refine au ?_
       refine As (zg [ae.v,ay.v,dm.v,p5.1.v,(zi jD)]) ?_
       refine aW ?_
       cases hF
       exact iX (Ah,ae,ay,dm,Ag,p5.1,p5.2) .nil rfl (.sel (.cons .q6 (.cons .h (.rd .q2 rfl (.rd .q3 rfl (.cons (.t .h) (.cons .h .nil)))))))
     refine aW ?_
     cases hF
     exact iX (Ah,ae,ay,dm,Ag,gy,CU) .nil rfl (.sel (.cons .q5 (.cons .h (.rd .h rfl (.rd (.t .h) rfl (.cons .q2 (.cons .q2 .nil)))))))
   refine bq ?_
   refine aI (ol (v:=(pz iW)) rfl (.tmp rfl rfl)) ?_
   refine aV ?_
   refine bn (bF (m:=bg.atoms.length) (fun agE f' cs'=>∃(g:Fr)(jc:Nat)(y5:List Atom)(pE:List Method)(c213:List Atom)(Gh c218:List Step)(Gi:Int)(c222:List Bool)(v212 Qd Qe:Sv)(U3:List Nat)(Qf:Sv)(U4 U5:List Nat),agE=y5.length/\f'=aM g [(0,(pz iW)),(1,aC.v),(2,bJ.v),(3,(zi jD)),(51,ay.v),(52,(zi (bg.atoms.length:Int))),(53,(zi (jc:Int)))]/\List.drop jc bg.atoms=y5/\aL cs' [b_ iW 192 (zg [v212.v,Qd.v,Qe.v,Qf.v,(zi Gi)]),dD v212 pE,bH Qd c213,pX U3 Qe Gh,aQ (mF 204 (aG gZ)) U4 Qf.v c218,xU U5 aC c222,ah bJ cZ,bH ay bg.atoms]/\DF cZ jD ff y5 jc pE c213 Gh c218 Gi c222=some R) ⟨_,0,_,_,_,_,_,_,_,ae,ay,dm,Ag,gy,CU,Ah,rfl,aA,rfl,az,hF⟩ ?_)
   rintro agE _ _ ⟨aDo,jc,y5,pE,c213,Gh,c218,Gi,c222,v212,Qd,Qe,U3,Qf,U4,U5,rfl,rfl,ae1,hE,hF⟩
   refine Kb hE bg.atoms (fun axX=>?_)
   rcases y5 with _|⟨oG,y5⟩
   · have asJ:=dn ae1
     rw[DF]at hF
     refine aU ?_
     refine bR ?_
     refine aU ?_
     cases hF
     exact ang (U5,v212,Qd,Qe,U3,Qf,U4) .nil rfl (.sel (.cons .q5 (.cons .h (.rd .h rfl (.rd (.t .h) rfl (.cons .q2 (.cons .q2 .nil)))))))
   obtain⟨asJ,asK,asL⟩:=bN ae1
   rw[DF]at hF
   refine aU ?_
   refine bQ ?_
   refine au ?_
   obtain⟨U2,ao2,asM⟩:=bind_some hF
   refine gX (fun f' cs'=>∃(P7:List Method)(P8:List Atom)(P9 P_:List Step)(Qa:Int)(Qb:List Bool)(U6 U7 U8:Sv)(ZX:List Nat)(U9:Sv)(ZY ZZ:List Nat)(g:Fr),U2=(P7,P8,P9,P_,Qa,Qb)/\f'=aM g [(0,(pz iW)),(1,aC.v),(2,bJ.v),(3,(zi jD)),(51,ay.v),(52,(zi (bg.atoms.length:Int))),(53,(zi (jc:Int)))]/\aL cs' [b_ iW 192 (zg [U6.v,U7.v,U8.v,U9.v,(zi Qa)]),dD U6 P7,bH U7 P8,pX ZX U8 P9,aQ (mF 204 (aG gZ)) ZY U9.v P_,xU ZZ aC Qb,ah bJ cZ,bH ay bg.atoms]) ?_ ?_
   · replace hF:=ao2
     refine bn (fe (Cm (zi (jc:Int)) rfl rfl ?_))
     refine Ai asK (fun aDp aDq=>?_)
     refine iM (oV oG) pO (fun Aj=>?_)
     refine dH (fun JZ=>?_)
     refine au ?_
     refine As (zg [(zi oG.Rel),Aj.v]) ?_
     refine bq ?_
     refine aI (ol (v:=(pz iW)) rfl (.tmp rfl rfl)) ?_
     refine aV ?_
     refine bn (bF (m:=pE.length) (fun agF f' cs'=>∃(g:Fr)(oH:Nat)(yZ xM:List Method)(xN:List Atom)(Af xO:List Step)(vQ:Int)(vR:List Bool)(Ak Am Gj:Sv)(Qg:List Nat)(Ao:Sv)(J2 Qh:List Nat),agF=yZ.length/\f'=aM g [(0,(pz iW)),(1,aC.v),(2,bJ.v),(3,(zi jD)),(8,(zi (jc:Int))),(9,(pz JZ)),(51,ay.v),(52,(zi (bg.atoms.length:Int))),(53,(zi (jc:Int))),(61,v212.v),(62,(zi (pE.length:Int))),(63,(zi (oH:Int)))]/\List.drop oH pE=yZ/\aL cs' [b_ iW 192 (zg [Ak.v,Am.v,Gj.v,Ao.v,(zi vQ)]),dD Ak xM,bH Am xN,pX Qg Gj Af,aQ (mF 204 (aG gZ)) J2 Ao.v xO,xU Qh aC vR,ah bJ cZ,b_ JZ 123 (zg [(zi oG.Rel),Aj.v]),ah Aj oG.Terms,bH ay bg.atoms,dD v212 pE]/\yc cZ jD ff jc oG yZ oH xM xN Af xO vQ vR=some U2) ⟨_,0,_,_,_,_,_,_,_,v212,Qd,Qe,U3,Qf,U4,U5,rfl,aA,rfl,az,hF⟩ ?_)
     rintro agF _ _ ⟨aDr,oH,yZ,xM,xN,Af,xO,vQ,vR,Ak,Am,Gj,Qg,Ao,J2,Qh,rfl,rfl,ae2,hE,hF⟩
     refine Kb hE pE (fun axY=>?_)
     rcases yZ with _|⟨qL,yZ⟩
     · have asN:=dn ae2
       rw[yc]at hF
       refine aU ?_
       refine bR ?_
       refine aU ?_
       cases hF
       exact⟨_,_,_,_,_,_,Ak,Am,Gj,Qg,Ao,J2,Qh,_,rfl,aA,az⟩
     obtain⟨asN,asO,asP⟩:=bN ae2
     rw[yc]at hF
     refine aU ?_
     refine bQ ?_
     refine au ?_
     obtain⟨ZW,ao3,asQ⟩:=bind_some hF
     refine gX (fun f' cs'=>∃(PW:List Method)(PX:List Atom)(PY PZ:List Step)(P5:Int)(P6:List Bool)(U_ Va Vb:Sv)(Z0:List Nat)(Vd:Sv)(Z4 Z5:List Nat)(g:Fr),ZW=(PW,PX,PY,PZ,P5,P6)/\f'=aM g [(0,(pz iW)),(1,aC.v),(2,bJ.v),(3,(zi jD)),(8,(zi (jc:Int))),(9,(pz JZ)),(51,ay.v),(52,(zi (bg.atoms.length:Int))),(53,(zi (jc:Int))),(61,v212.v),(62,(zi (pE.length:Int))),(63,(zi (oH:Int)))]/\aL cs' [b_ iW 192 (zg [U_.v,Va.v,Vb.v,Vd.v,(zi P5)]),dD U_ PW,bH Va PX,pX Z0 Vb PY,aQ (mF 204 (aG gZ)) Z4 Vd.v PZ,xU Z5 aC P6,ah bJ cZ,b_ JZ 123 (zg [(zi oG.Rel),Aj.v]),ah Aj oG.Terms,bH ay bg.atoms,dD v212 pE]) ?_ ?_
     · replace hF:=ao3
       refine bn (fe (Cm (zi (oH:Int)) rfl rfl ?_))
       refine Ai asO (fun aDs aDt=>?_)
       refine iM (uL qL) wQ (fun Z6=>?_)
       refine dH (fun agG=>?_)
       refine au ?_
       refine As (zg [(zi qL.Rel),Z6.v,(zi qL.Limit),(zi qL.Cost),(zi qL.Quota)]) ?_
       refine aW ?_
       obtain⟨ZT,ao4,asR⟩:=bind_some hF
       refine au ?_
       refine fE (fun f' cs'=>∃(PV:Bool)(g:Fr),PV=ZT/\f'=aM g [(0,(pz iW)),(1,aC.v),(2,bJ.v),(3,(zi jD)),(8,(zi (jc:Int))),(9,(pz JZ)),(10,(zi (oH:Int))),(11,(pz agG)),(51,ay.v),(52,(zi (bg.atoms.length:Int))),(53,(zi (jc:Int))),(61,v212.v),(62,(zi (pE.length:Int))),(63,(zi (oH:Int))),(78,(.bool PV))]/\aL cs' [b_ iW 192 (zg [Ak.v,Am.v,Gj.v,Ao.v,(zi vQ)]),dD Ak xM,bH Am xN,pX Qg Gj Af,aQ (mF 204 (aG gZ)) J2 Ao.v xO,xU Qh aC vR,ah bJ cZ,b_ JZ 123 (zg [(zi oG.Rel),Aj.v]),ah Aj oG.Terms,b_ agG 89 (zg [(zi qL.Rel),Z6.v,(zi qL.Limit),(zi qL.Cost),(zi qL.Quota)]),ah Z6 qL.Inputs,bH ay bg.atoms,dD v212 pE]) ?_ ?_
       · replace hF:=ao4
         refine aW ?_
         refine bnd hF fun U0 ae3 hF=>?_
         have asS:=Fg ae3
         obtain⟨aAj,asT⟩:=yO ae3
         refine mY TU.h J_.h.sz (.tmp rfl rfl) (.tmp rfl rfl) .q8 asS (fun aDu asU=>?_)
         refine NR (w:=(.bool U0)) ag4.h (.tmp rfl rfl) .q8 asU asT aq2 ?_
         refine au ?_
         rcases bL U0 with Ol|Ol
         · rw[Ol]
           try rw[Ol]at hF; dsimp only[aO,aN]at hF
           exact bO hF
         rw[Ol]
         try rw[Ol]at hF; dsimp only[aO,aN]at hF
         refine bf ?_
         refine bnd hF fun agC asV hF=>aX (aks asV) (fun _=>?_)
         exact bO hF
       rintro _ _ ⟨PV,aDv,rfl,rfl,hE⟩
       replace hF:=asR
       try dsimp only at hF
       refine bD hE ?_
       refine Ci hF (fun asW hF=>?_) (fun asW hF=>?_)
       · refine bq ?_
         cases hF
         exact⟨_,_,_,_,_,_,Ak,Am,Gj,Qg,Ao,J2,Qh,_,rfl,aA,az⟩
       refine aU ?_
       refine bnd hF fun awe asX hF=>?_
       have ae4:=ru asX
       refine mY TU.h J_.h.sz (.tmp rfl rfl) (.tmp rfl rfl) .q5 ae4 (fun aDw asY=>?_)
       refine bnd hF fun ZU Yp hF=>?_
       replace Yp:=Option.some.inj Yp
       refine dZ (.cons .q5 .nil) (tF (Ro:=(aG rdBool)) (a:=true) (i:=(jc:Int)) J_.h.sz rfl (.tmp rfl rfl) (.bool _) asY ae4 (jF (fun _=>rfl)) (fun _ _ _ _ h=>by obtain⟨-,h⟩:=h; cases h; rfl)) (fun awh=>?_)
       rw[Yp]
       refine aU ?_
       refine aI (ol (v:=(pz iW)) rfl (.tmp rfl rfl)) ?_
       refine aU ?_
       refine aI (jm qy.h rfl (vs:=[(zi (jc:Int)),(zi (oH:Int))]) bZ (cells:=[(zi (jc:Int)),(zi (oH:Int))]) rfl) ?_
       refine dQ rfl (cz (g:=true) oz.h qy.h bZ (vs:=[(zg [(zi (jc:Int)),(zi (oH:Int))])]) rfl rfl rfl (by intro v hv; simp at hv; rcases hv with rfl<;>rfl)) (fun aDx=>?_)
       refine dP (.cons .h .nil) (cK (Ro:=(aG gZ)) (E:=204) (F:=([]++[])) (xs:=([(⟨(jc:Int),(oH:Int)⟩:Step)]:List Step)) (gq (jF (fun _=>rfl)) cB dz) rfl rfl) ?_
       refine bnd hF fun ZV asZ hF=>dZ (.cons .q5 (.cons .h .nil)) (fT (Ro:=(aG gZ)) oz.h NZ qy.h rfl rfl rfl (.tmp rfl rfl) (.tmp rfl rfl) asZ iF) (fun Z7=>?_)
       refine aI (ol (v:=(pz iW)) rfl (.tmp rfl rfl)) ?_
       refine au ?_
       refine As (zg [Ak.v,Am.v,Z7.1.v,Ao.v,(zi vQ)]) ?_
       refine au ?_
       refine dE [0,1,2,3,4,7,8,9,10,5,6,11] [0,0,0,0,8,28,60,0,0,256,896,2047] [5,6,11] mixed (by decide+kernel) ?_
       refine o9 ?_
       refine fA rfl .no .q7 (fun ha hp=>gu (v:=Aj.v) ji.h (EN ha (.tmp rfl rfl) rfl) hp.2 rfl rfl) ?_
       refine bS ?_
       refine fA rfl .no .q9 (fun ha hp=>gu (v:=(zi qL.Cost)) rP.h (EN ha (.tmp rfl rfl) rfl) hp.2 rfl rfl) ?_
       refine du ?_
       refine eU rfl rfl .no (.rd .q6 rfl (.rd .q8 rfl .nil)) (.own .q9 (fun _ h=>h) (.dep rfl .nil)) (fun ha=>NG (post':=fun Ve:Nat=>[bK (aJ 22 (aJ 3 aK)) (.slice (some ⟨Ve,0,none⟩) 2 1) ([cZ,oG.Terms]:List (List Int))]) (fun Ve=>.conv (.cons .h (.rd .h rfl (.rd (.t .h) rfl .nil))) (cK (Ro:=(aG (aJ 3 aK))) (E:=22) (F:=([]++([]++[]))) (xs:=([cZ,oG.Terms]:List (List Int))) (gq X3 (gq X3 cB dz) dz) rfl rfl) dz (.frz .h bU az)) (anv rfl (cz (g:=true) (len:=2) (parts:=[(0,.tmp 96),(1,.tmp 98)]) NU.h uf.h (.cons (EN ha (.tmp rfl rfl) rfl) (.cons (EN ha (.tmp rfl rfl) rfl) .nil)) (vs:=[bJ.v,Aj.v]) rfl rfl rfl (by intro v hv; simp at hv; rcases hv with rfl|rfl<;>rfl)))) (fun Ve=>?_)
       refine bnd hF fun U1 as0 hF=>eU rfl rfl .no (.rd .h rfl .nil) (.own .q10 (fun _ h=>h) (.dep rfl .nil)) (fun ha=>NG (post':=fun Vf:Sv×List Nat=>[ah Vf.1 U1]) (fun Vf=>(.frz .h bU az)) (dB aeJ.h (.cons (EN ha (.tmp rfl rfl) rfl) .nil) (@aag ([cZ,oG.Terms]:List (List Int)) (⟨(some ⟨Ve,0,none⟩),2,1⟩) _ as0))) (fun Vf=>?_)
       refine bnd hF fun rM as1 hF=>an7 rfl rfl .no (.cons .q2 (.rd .q4 rfl (.rd .q5 rfl (.cons .q2 (.cons .q5 (.cons .q2 (.rd .h rfl .nil))))))) (.dep rfl (.dep rfl .nil)) (fun ha=>dB aqZ.h (.cons (EN ha (.tmp rfl rfl) rfl) (.cons (EN ha (.tmp rfl rfl) rfl) (.cons (EN ha (.tmp rfl rfl) rfl) (.cons (EN ha (.tmp rfl rfl) rfl) .nil)))) (ih iW (⟨xM,xN,ZV,xO,vQ⟩:finder) Ak Am Z7.1 Z7.2 Ao J2 ZU aC awh U1 Vf.1 (IntKind.i64.wrap (jD+qL.Cost)) _ as1)) (fun Ap=>?_)
       refine du ?_
       refine dE [0,1,2,3,4,5,6,7,8,9,10,11,12,13,14] [0,0,2,6,14,0,32,96,224,480,992,2046,4095,8191,16383] [11,14] mixed (by decide+kernel) ?_
       refine bS ?_
       refine dX rfl .no (fun ha=>ol (v:=(pz iW)) rfl (EN ha (.tmp rfl rfl) rfl)) ?_
       refine du ?_
       refine fA rfl .no (.t .h) (fun ha hp=>gu (v:=Ap.2.2.2.1.v) N7.h (EN ha (.tmp rfl rfl) rfl) hp.2 rfl rfl) ?_
       refine du ?_
       refine dX rfl .no (fun ha=>ol (v:=(pz iW)) rfl (EN ha (.tmp rfl rfl) rfl)) ?_
       refine du ?_
       refine fA rfl .no (.t .h) (fun ha hp=>gu (v:=Ap.2.2.2.1.v) N7.h (EN ha (.tmp rfl rfl) rfl) hp.2 rfl rfl) ?_
       refine fA rfl .no .q4 (fun ha hp=>qw (l:=rM.2.steps.length) oz.h (EN ha (.tmp rfl rfl) rfl) (ER hp)) ?_
       refine du ?_
       refine bnd hF fun awf as2 hF=>?_
       have Yq:=ru as2
       simp only[Bool.and_eq_true,decide_eq_true_eq]at Yq
       refine eU rfl rfl .no (.cons .q4 .nil) (.dep rfl (.dep rfl (.dep rfl .nil))) (fun ha=>amI oz.h qy.h.sz (EN ha (.tmp rfl rfl) rfl) (EN ha (.tmp rfl rfl) rfl) Yq.1 Yq.2) (fun Z8=>?_)
       refine dX rfl .no (fun ha=>ol (v:=(pz iW)) rfl (EN ha (.tmp rfl rfl) rfl)) ?_
       refine du ?_
       refine eU rfl rfl .no (.cons .q2 .nil) (.dep rfl (.dep rfl (.dep rfl .nil))) (fun ha=>kg (e':=(zg [Ap.2.1.v,Ap.2.2.1.v,Z8.1.v,Ap.2.2.2.2.2.1.v,(zi rM.2.cost)])) aq1.h.sz (EN ha (.tmp rfl rfl) rfl) (EN ha (.tmp rfl rfl) rfl) rfl rfl rfl rfl rfl) (fun _=>?_)
       refine du ?_
       refine bq ?_
       refine bnd hF fun awg as3 hF=>?_
       have ae5:=ru as3
       refine mY TU.h J_.h.sz (.tmp rfl rfl) (.tmp rfl rfl) .q2 ae5 (fun aDy as4=>?_)
       refine bnd hF fun agD Yr hF=>?_
       replace Yr:=Option.some.inj Yr
       refine dZ (.cons .q2 .nil) (tF (Ro:=(aG rdBool)) (a:=false) (i:=(jc:Int)) J_.h.sz rfl (.tmp rfl rfl) (.bool _) as4 ae5 (jF (fun _=>rfl)) (fun _ _ _ _ h=>by obtain⟨-,h⟩:=h; cases h; rfl)) (fun awi=>?_)
       rw[Yr]
       refine au ?_
       cases hF
       exact⟨_,_,_,_,_,_,Ap.2.1,Ap.2.2.1,Z8.1,Z8.2,Ap.2.2.2.2.2.1,Ap.2.2.2.2.2.2,awi,_,rfl,aA,az⟩
     rintro _ _ ⟨PW,PX,PY,PZ,P5,P6,U_,Va,Vb,Z0,Vd,Z4,Z5,aDz,rfl,rfl,hE⟩
     replace hF:=asQ
     try dsimp only at hF
     refine bD hE ?_
     refine aU ?_
     rw[wk oH]
     exact⟨_,bG _,_,oH+1,yZ,_,_,_,_,_,_,U_,Va,Vb,Z0,Vd,Z4,Z5,rfl,aA,asP,az,hF⟩
   rintro _ _ ⟨P7,P8,P9,P_,Qa,Qb,U6,U7,U8,ZX,U9,ZY,ZZ,aDA,rfl,rfl,hE⟩
   replace hF:=asM
   try dsimp only at hF
   refine bD hE ?_
   refine aU ?_
   rw[wk jc]
   exact⟨_,bG _,_,jc+1,y5,_,_,_,_,_,_,U6,U7,U8,ZX,U9,ZY,ZZ,rfl,aA,asL,az,hF⟩
theorem ahR{fuel iW:Nat}{bg:finder}{ae ay dm:Sv}{Ag:List Nat}{gy:Sv}{CU:List Nat}{pR:List Bool}{aC:Sv}{Ah:List Nat}{cZ:List Int}{bJ:Sv}{jD:Int}{R:(List Bool)×finder}(hF:V7 fuel bg pR cZ jD=some R):
   Fw.Spec Tryz.prog 141 [(pz iW),aC.v,bJ.v,(zi jD)] [b_ iW 192 (zg [ae.v,ay.v,dm.v,gy.v,(zi bg.cost)]),dD ae bg.l,bH ay bg.atoms,pX Ag dm bg.steps,aQ (mF 204 (aG gZ)) CU gy.v bg.best,xU Ah aC pR,ah bJ cZ] (fun _:List Nat×Sv×Sv×Sv×List Nat×Sv×List Nat=>(.tuple [].toArray)) (fun p=>[xU p.1 aC R.1,b_ iW 192 (zg [p.2.1.v,p.2.2.1.v,p.2.2.2.1.v,p.2.2.2.2.2.1.v,(zi R.2.cost)]),dD p.2.1 R.2.l,bH p.2.2.1 R.2.atoms,pX p.2.2.2.2.1 p.2.2.2.1 R.2.steps,aQ (mF 204 (aG gZ)) p.2.2.2.2.2.2 p.2.2.2.2.2.1.v R.2.best]):=aao fuel fuel iW bg ae ay dm Ag gy CU pR aC Ah cZ bJ jD R hF
def DL(r7:(List Method))(fuel:Nat):List Query->Nat->(List Int)->(List Atom)->(List Step)->Int->Bool->Option (lH×Bool)
 |[],um,CV,CX,CY,uo,vS=>some ((⟨(⟨CV,CX⟩:Query),CY,uo⟩:lH),vS)
 |vT::y7,um,CV,CX,CY,uo,vS=>((qc (vT.Atoms.length:Int) (false:Bool)).bind fun agH=>
     (V7 fuel (⟨r7,vT.Atoms,[],[],0⟩:finder) agH [] 0).bind fun nU=>
     if ((!nU.2.best.isEmpty)&&((!vS)||(decide ((nU.2.cost:Int)<uo))))then (
       some (vT.Head,vT.Atoms,nU.2.best,nU.2.cost,true))
     else (
       some (CV,CX,CY,uo,vS))).bind fun Z9=>
   match Z9 with
   |(Qi,Qj,Qk,Ql,Qm)=>DL r7 fuel y7 (um+1) Qi Qj Qk Ql Qm
def KZ(fuel:Nat)(ag:List Int)(ak:List Method)(ai:Query):Option (lH×Bool):=
 (Mv ag ak ai).bind fun r4=>
 if (!r4)then (
   some ((⟨(⟨[],[]⟩:Query),[],0⟩:lH),false))
 else (
   (LU ak).bind fun r7=>
   (KO fuel ag ai).bind fun nz=>
   DL r7 fuel nz 0 ([]:List Int) ([]:List Atom) ([]:List Step) 0 false)
theorem ahZ{fuel:Nat}{ag:List Int}{ae:Sv}{ak:List Method}{aC:Sv}{ai:Query}{bJ eP:Sv}{R:lH×Bool}(hF:KZ fuel ag ak ai=some R):
   Fw.Spec Tryz.prog 59 [ae.v,aC.v,(zg [bJ.v,eP.v])] [ah ae ag,dD aC ak,ah bJ ai.Head,bH eP ai.Atoms] (fun p:Sv×Sv×Sv×List Nat=>(.tuple [(zg [p.1.v,p.2.1.v,p.2.2.1.v,(zi R.1.Cost)]),(.bool R.2)].toArray)) (fun p=>[ah p.1 R.1.Query.Head,bH p.2.1 R.1.Query.Atoms,pX p.2.2.2 p.2.2.1 R.1.Steps]):=by
 refine Se 73 Tryz.func59 [.cell 6 105,.tmp 7] ?_
 intro H0 F0
 unfold KZ at hF
 refine au ?_
 refine bB (fun k1=>?_)
 refine dH (fun k2=>?_)
 refine bq ?_
 refine aI (jm zL.h rfl (vs:=[]) .nil (cells:=[(.slice none 0 0),(.slice none 0 0),(.slice none 0 0),(zi 0)]) rfl) ?_
 refine dH (fun k3=>?_)
 refine As (.agg ([(.slice none 0 0),(.slice none 0 0),(.slice none 0 0),(zi 0)]:List Value).toArray) ?_
 refine bf ?_
 refine bnd hF fun r4 hx5 hF=>aX (ajD hx5) (fun _=>?_)
 refine aW ?_
 refine Ci hF (fun as5 hF=>?_) (fun as5 hF=>?_)
 · refine aW ?_
   refine As (.agg ([(.slice none 0 0),(.slice none 0 0),(.slice none 0 0),(zi 0)]:List Value).toArray) ?_
   refine bq ?_
   cases hF
   exact iX (⟨none,0,0⟩,⟨none,0,0⟩,⟨none,0,0⟩,[]) (.cellA rfl rfl .h rfl TR.h zL.h.sz rfl rfl (.tmp rfl rfl .nil)) rfl (.conv .nil (zf (R:=aK) (E:=3)) (.cons .nil) (.conv .nil (zf (R:=uW) (E:=123)) (.cons .nil) (.conv .nil (iD (Ro:=(aG gZ)) (E:=204)) (.cons .nil) (.sel (.rd .q2 rfl (.rd (.t .h) rfl (.cons .h .nil)))))))
 refine bq ?_
 refine bnd hF fun r7 jy hF=>eZ (ai0 jy) (fun p9=>?_)
 refine aZ ?_
 refine bnd hF fun nz mf hF=>eZ (ahF mf) (fun lu=>?_)
 refine bq ?_
 refine bn ?_
 iterate 2 refine rZ (.t .h) bU ?_
 refine bF (m:=nz.length) (fun agI f' cs'=>∃(g:Fr)(um:Nat)(y7:List Query)(CV:List Int)(CX:List Atom)(CY:List Step)(uo:Int)(vS:Bool)(CZ C8 C9:Sv)(Qn:List Nat),agI=y7.length/\f'=aM g [(6,(pz k2)),(8,(pz k3)),(9,(.bool vS)),(10,p9.1.v),(25,lu.1.v),(26,(zi (nz.length:Int))),(27,(zi (um:Int)))]/\List.drop um nz=y7/\aL cs' [b_ k2 105 (.agg ([(.slice none 0 0),(.slice none 0 0),(.slice none 0 0),(zi 0)]:List Value).toArray),b_ k3 105 (zg [CZ.v,C8.v,C9.v,(zi uo)]),ah CZ CV,bH C8 CX,pX Qn C9 CY,dD p9.1 r7,JI lu.1 nz]/\DL r7 fuel y7 um CV CX CY uo vS=some R) ⟨_,0,_,_,_,_,_,_,⟨none,0,0⟩,⟨none,0,0⟩,⟨none,0,0⟩,[],rfl,aA,rfl,(.conv .nil (zf (R:=aK) (E:=3)) (.cons .nil) (.conv .nil (zf (R:=uW) (E:=123)) (.cons .nil) (.conv .nil (iD (Ro:=(aG gZ)) (E:=204)) (.cons .nil) az))),hF⟩ ?_
 rintro agI _ _ ⟨aDB,um,y7,CV,CX,CY,uo,vS,CZ,C8,C9,Qn,rfl,rfl,ae6,hE,hF⟩
 refine Kb hE nz (fun axZ=>?_)
 rcases y7 with _|⟨vT,y7⟩
 · have as6:=dn ae6
   rw[DL]at hF
   refine aU ?_
   refine bR ?_
   refine bf ?_
   refine As (zg [CZ.v,C8.v,C9.v,(zi uo)]) ?_
   refine bq ?_
   cases hF
   exact iX (CZ,C8,C9,Qn) (.cellA rfl rfl .h rfl TR.h zL.h.sz rfl rfl (.tmp rfl rfl .nil)) rfl (.sel (.rd .q2 rfl (.rd .q3 rfl (.cons .q4 .nil))))
 obtain⟨as6,hx255,as7⟩:=bN ae6
 rw[DL]at hF
 refine aU ?_
 refine bQ ?_
 refine au ?_
 obtain⟨Z9,ao5,as8⟩:=bind_some hF
 refine gX (fun f' cs'=>∃(Qi:List Int)(Qj:List Atom)(Qk:List Step)(Ql:Int)(Qm:Bool)(Vg Vh Vi:Sv)(Z_:List Nat)(g:Fr),Z9=(Qi,Qj,Qk,Ql,Qm)/\f'=aM g [(6,(pz k2)),(8,(pz k3)),(9,(.bool Qm)),(10,p9.1.v),(25,lu.1.v),(26,(zi (nz.length:Int))),(27,(zi (um:Int)))]/\aL cs' [b_ k2 105 (.agg ([(.slice none 0 0),(.slice none 0 0),(.slice none 0 0),(zi 0)]:List Value).toArray),b_ k3 105 (zg [Vg.v,Vh.v,Vi.v,(zi Ql)]),ah Vg Qi,bH Vh Qj,pX Z_ Vi Qk,dD p9.1 r7,JI lu.1 nz]) ?_ ?_
 · replace hF:=ao5
   refine bn (fe (zH (a:=vT) FC.h rJ.h.sz (.tmp rfl rfl) (.tmp rfl rfl) .q6 (Int.natCast_nonneg um) hx255 (fun aDC aDD=>?_)))
   refine zT (SA vT) WY (fun oI=>?_)
   refine dH (fun agJ=>?_)
   refine As (zg [oI.1.v,oI.2.v]) ?_
   refine aV ?_
   refine aI (jm aqY.h rfl (vs:=[p9.1.v,oI.2.v]) bZ (cells:=[p9.1.v,oI.2.v,(.slice none 0 0),(.slice none 0 0),(zi 0)]) rfl) ?_
   refine AbW (fun J3=>?_)
   refine bf ?_
   refine bnd hF fun agH ae7 hF=>?_
   have ae8:=uM ae7
   refine dQ rfl (wO (g:=true) (c:=(vT.Atoms.length:Int)) TU.h J_.h rfl rfl (by decide) (.tmp rfl rfl) ae8.2.1 ae8.2.2) (fun awj=>?_)
   refine dP (.cons .h .nil) (wV (Ro:=(aG rdBool)) (E:=4) (a:=(false:Bool)) ae7 (fun _=>⟨rfl,rfl⟩)) ?_
   refine dP .nil (iD (Ro:=(aG gZ)) (E:=204)) ?_
   refine dP .nil (amJ (Ro:=(aG gZ)) (E:=204)) ?_
   refine dP .nil (zf (R:=aK) (E:=3)) ?_
   refine bnd hF fun nU as9 hF=>Cx6 (@ahR _ _ _ _ _ (⟨none,0,0⟩) _ (⟨none,0,0⟩) _ _ (⟨(some ⟨awj,0,none⟩),(vT.Atoms.length:Int).toNat,1⟩) _ _ (⟨none,0,0⟩) _ _ as9) (fun oJ=>?_)
   refine au ?_
   refine dE [0,1,2,3,4,5,6,7,8,9,10,11,12,13,14,15,16,17] [0,1,3,7,15,31,63,127,255,511,1023,2047,4095,511,8703,32767,65535,131071] [] mixed (by decide+kernel) ?_
   refine mD (fun f' cs'=>∃(g:Fr),f'=aM g [(6,(pz k2)),(8,(pz k3)),(9,(.bool vS)),(10,p9.1.v),(12,(pz agJ)),(13,(pz J3)),(25,lu.1.v),(26,(zi (nz.length:Int))),(27,(zi (um:Int))),(59,(.bool ((!nU.2.best.isEmpty)&&((!vS)||(decide ((nU.2.cost:Int)<uo))))))]/\aL cs' [b_ k2 105 (.agg ([(.slice none 0 0),(.slice none 0 0),(.slice none 0 0),(zi 0)]:List Value).toArray),bK (aJ 3 aK) (.slice none 0 0) ([]:List Int),b_ k3 105 (zg [CZ.v,C8.v,C9.v,(zi uo)]),ah CZ CV,bH C8 CX,pX Qn C9 CY,dD p9.1 r7,b_ agJ 39 (zg [oI.1.v,oI.2.v]),ah oI.1 vT.Head,bH oI.2 vT.Atoms,b_ J3 192 (zg [oJ.2.1.v,oJ.2.2.1.v,oJ.2.2.2.1.v,oJ.2.2.2.2.2.1.v,(zi nU.2.cost)]),dD oJ.2.1 nU.2.l,bH oJ.2.2.1 nU.2.atoms,pX oJ.2.2.2.2.1 oJ.2.2.2.1 nU.2.steps,aQ (mF 204 (aG gZ)) oJ.2.2.2.2.2.2 oJ.2.2.2.2.2.1.v nU.2.best,JI lu.1 nz]) ?_ ?_
   · refine du ?_
     refine dX rfl .no (fun ha=>ol (v:=(pz J3)) rfl (EN ha (.tmp rfl rfl) rfl)) ?_
     refine du ?_
     refine fA rfl .no (.t .h) (fun ha hp=>gu (v:=oJ.2.2.2.2.2.1.v) N7.h (EN ha (.tmp rfl rfl) rfl) hp.2 rfl rfl) ?_
     refine fA rfl .no .q5 (fun ha hp=>amL (Ro:=(aG gZ)) oz.h (EN ha (.tmp rfl rfl) rfl) hp) ?_
     refine du ?_
     rcases bL (!nU.2.best.isEmpty)with Om|Om
     · rw[Om]
       try rw[Om]at hF; dsimp only[aO,aN]at hF
       refine dI ?_
       rcases bL (!vS)with Oo|Oo
       · rw[Oo]
         try rw[Oo]at hF; dsimp only[aO,aN]at hF
         refine ara ?_
         exact⟨_,aA,az⟩
       rw[Oo]
       try rw[Oo]at hF; dsimp only[aO,aN]at hF
       refine du ?_
       refine dX rfl (.on 50 rfl rfl rfl) (fun ha=>ol (v:=(pz J3)) rfl (EN ha (.tmp rfl rfl) rfl)) ?_
       refine du ?_
       refine fA rfl (.on 50 rfl rfl rfl) (.t .h) (fun ha hp=>gu (v:=(zi nU.2.cost)) rP.h (EN ha (.tmp rfl rfl) rfl) hp.2 rfl rfl) ?_
       refine du ?_
       refine fA rfl (.on 50 rfl rfl rfl) .q12 (fun ha hp=>gu (v:=(zi uo)) rP.h (EN ha (.tmp rfl rfl) rfl) hp.2 rfl rfl) ?_
       refine o9 ?_
       exact⟨_,aA,az⟩
     rw[Om]
     try rw[Om]at hF; dsimp only[aO,aN]at hF
     refine arb ?_
     exact⟨_,aA,az⟩
   rintro _ _ ⟨aDE,rfl,hE⟩
   refine bD hE ?_
   refine Ci hF (fun as_ hF=>?_) (fun as_ hF=>?_)
   · refine oW [0,1,2,3,4,5,6,7,8,9,10,11] [0,0,2,6,14,0,32,96,224,511,1023,2047] [10] mixed (by decide+kernel) ?_
     refine fA rfl .no .q7 (fun ha hp=>lC Ul.h rJ.h.sz rfl (EN ha (.tmp rfl rfl) rfl) hp.2 rfl) ?_
     refine du ?_
     refine dX rfl .no (fun ha=>ol (v:=(pz J3)) rfl (EN ha (.tmp rfl rfl) rfl)) ?_
     refine du ?_
     refine fA rfl .no .q10 (fun ha hp=>gu (v:=oJ.2.2.2.2.2.1.v) N7.h (EN ha (.tmp rfl rfl) rfl) hp.2 rfl rfl) ?_
     refine du ?_
     refine dX rfl .no (fun ha=>ol (v:=(pz J3)) rfl (EN ha (.tmp rfl rfl) rfl)) ?_
     refine du ?_
     refine fA rfl .no .q10 (fun ha hp=>gu (v:=(zi nU.2.cost)) rP.h (EN ha (.tmp rfl rfl) rfl) hp.2 rfl rfl) ?_
     refine dX rfl .no (fun ha=>jm zL.h rfl (vs:=[(zg [oI.1.v,oI.2.v]),oJ.2.2.2.2.2.1.v,(zi nU.2.cost)]) (.cons (EN ha (.tmp rfl rfl) rfl) (.cons (EN ha (.tmp rfl rfl) rfl) (.cons (EN ha (.tmp rfl rfl) rfl) .nil))) (cells:=[oI.1.v,oI.2.v,oJ.2.2.2.2.2.1.v,(zi nU.2.cost)]) rfl) ?_
     refine jO (.cons .q14 .nil) (anq (Ro:=(aG gZ))) ?_
     refine eU rfl rfl .no (.cons .q3 .nil) (.dep rfl (.dep rfl (.dep rfl .nil))) (fun ha=>kg (e':=(zg [oI.1.v,oI.2.v,oJ.2.2.2.2.2.1.v,(zi nU.2.cost)])) (v:=(zg [oI.1.v,oI.2.v,oJ.2.2.2.2.2.1.v,(zi nU.2.cost)])) zL.h.sz (EN ha (.tmp rfl rfl) rfl) (EN ha (.tmp rfl rfl) rfl) rfl rfl rfl rfl rfl) (fun _=>?_)
     refine bS ?_
     cases hF
     exact⟨_,_,_,_,_,oI.1,oI.2,oJ.2.2.2.2.2.1,oJ.2.2.2.2.2.2,_,rfl,aA,az⟩
   refine au ?_
   cases hF
   exact⟨_,_,_,_,_,CZ,C8,C9,Qn,_,rfl,aA,az⟩
 rintro _ _ ⟨Qi,Qj,Qk,Ql,Qm,Vg,Vh,Vi,Z_,aDF,rfl,rfl,hE⟩
 replace hF:=as8
 try dsimp only at hF
 refine bD hE ?_
 refine aU ?_
 rw[wk um]
 exact⟨_,bG _,_,um+1,y7,_,_,_,_,_,Vg,Vh,Vi,Z_,rfl,aA,as7,az,hF⟩
def Dx(fQ:List UInt8):List (List UInt8)->Nat->Option (Int)
 |[],k4=>some (-1)
 |x6::ax,k4=>if (fQ==x6)then (
     some (k4:Int))
   else (
     Dx fQ ax (k4+1))
def Rk(ag:List (List UInt8))(fQ:List UInt8):Option (Int):=
 Dx fQ ag 0
theorem ahv{ag:List (List UInt8)}{ae:Sv}{fQ:List UInt8}{R:Int}(hF:Rk ag fQ=some R):
   Fw.Spec Tryz.prog 278 [ae.v,(sv fQ)] [Vq ae ag] (fun _:Unit=>(zi R)) (fun _=>[]):=by
 refine Se 19 Tryz.func278 [.tmp 4] ?_
 intro H0 F0
 unfold Rk at hF
 refine dK ?_
 refine bn (bF (m:=ag.length) (fun m2 f' cs'=>∃(g:Fr)(k4:Nat)(ax:List (List UInt8)),m2=ax.length/\f'=aM g [(0,ae.v),(1,(sv fQ)),(7,(zi (ag.length:Int))),(8,(zi (k4:Int)))]/\List.drop k4 ag=ax/\aL cs' [Vq ae ag]/\Dx fQ ax k4=some R) ⟨_,0,_,rfl,aA,rfl,az,hF⟩ ?_)
 rintro m2 _ _ ⟨g3,k4,ax,rfl,rfl,hd7,hE,hF⟩
 refine Kb hE ag (fun iK=>?_)
 rcases ax with _|⟨x6,ax⟩
 · have dM:=dn hd7
   rw[Dx]at hF
   refine aU ?_
   refine bR ?_
   exact ze hF
 obtain⟨dM,bP,dL⟩:=bN hd7
 rw[Dx]at hF
 refine aU ?_
 refine bQ ?_
 refine iU ?_
 refine Ai bP (fun k13 j6=>?_)
 refine Al aq5 ?_
 refine aI (Fs (s:=fQ) (t:=x6) (.tmp rfl rfl) (.tmp rfl rfl)) ?_
 refine au ?_
 refine Ci hF (fun z_ hF=>?_) (fun z_ hF=>?_)
 · exact ze hF
 refine aV ?_
 rw[wk k4]
 exact⟨_,bG _,_,k4+1,ax,rfl,aA,dL,az,hF⟩
def KF(ag:List (List UInt8))(fQ:List UInt8):Option (Bool):=
 (Rk ag fQ).bind fun r1=>
 some (decide ((0:Int)<=r1))
theorem ahu{ag:List (List UInt8)}{ae:Sv}{fQ:List UInt8}{R:Bool}(hF:KF ag fQ=some R):
   Fw.Spec Tryz.prog 227 [ae.v,(sv fQ)] [Vq ae ag] (fun _:Unit=>(.bool R)) (fun _=>[]):=by
 refine Se 9 Tryz.func227 [.tmp 4] ?_
 intro H0 F0
 unfold KF at hF
 refine aZ ?_
 refine bnd hF fun r1 hx2 hF=>aX (ahv hx2) (fun _=>?_)
 exact ze hF
def yh(Km:List (List UInt8))(Oq:List UInt8):Option (List UInt8):=
 if Km.length<4294967296/\(Lib.join Km Oq).length<4294967296 then some (Lib.join Km Oq)else none
theorem Rs{Km:List (List UInt8)}{ae:Sv}{Oq R:List UInt8}(hF:yh Km Oq=some R):
   Fw.Spec Tryz.prog 102 [ae.v,sv Oq] [Vq ae Km] (fun _:Unit=>(sv R)) (fun _=>[]):=by
 unfold yh at hF
 split at hF
 · rename_i h
   cases hF
   exact al6 xS.h.sz (Go.Proofs.Any.strings_Join_none adz extra) (Go.Proofs.Any.strings_Join adz extra) h.1 h.2
 · simp at hF
def K3(fF:Int):Option (List UInt8):=
 if -9223372036854775808<=fF/\fF<=9223372036854775807 then some (Lib.itoa fF)else none
theorem ah0{fF:Int}{R:List UInt8}(hF:K3 fF=some R):
   Fw.Spec Tryz.prog 189 [.int .i64 fF] [] (fun _:Unit=>(sv R)) (fun _=>[]):=by
 unfold K3 at hF
 split at hF
 · rename_i h
   cases hF
   exact al5 fun w hv=>Go.Proofs.Any.strconv_Itoa amN fF h.1 h.2 w (uu.var (fun _ h=>h) hv.choose_spec)
 · simp at hF
def tu(fF:Int):Option ((List UInt8)):=
 (K3 fF).bind fun r1=>
 some r1
theorem HY{fF:Int}{R:(List UInt8)}(hF:tu fF=some R):
   Fw.Spec Tryz.prog 101 [(zi fF)] [] (fun _:Unit=>(sv R)) (fun _=>[]):=by
 refine Se 5 Tryz.func101 [.tmp 2] ?_
 intro H0 F0
 unfold tu at hF
 refine aV ?_
 refine bnd hF fun r1 hx2 hF=>aX (ah0 hx2) (fun _=>?_)
 exact ze hF
def Mw(fu:Int):Option ((List UInt8)):=
 (yX fu).bind fun r1=>
 if r1 then (
   (tu (IntKind.i64.wrap (fu-10))).bind fun r4=>
   (fG [120] r4).bind fun x7=>
   some x7)
 else (
   (tu fu).bind fun qf=>
   some qf)
theorem ajG{fu:Int}{R:(List UInt8)}(hF:Mw fu=some R):
   Fw.Spec Tryz.prog 279 [(zi fu)] [] (fun _:Unit=>(sv R)) (fun _=>[]):=by
 refine Se 11 Tryz.func279 [.tmp 2] ?_
 intro H0 F0
 unfold Mw at hF
 refine aZ ?_
 refine bnd hF fun r1 hx2 hF=>aX (IU hx2) (fun _=>?_)
 refine au ?_
 refine Ci hF (fun PK hF=>?_) (fun PK hF=>?_)
 · refine bq ?_
   refine bnd hF fun r4 hx5 hF=>aX (HY hx5) (fun _=>?_)
   refine bnd hF fun x7 jy hF=>?_
   obtain⟨avi,hz9⟩:=gQ jy
   refine aI (gU (s:=[120]) (t:=r4) (u:=x7) (.sv _) (.tmp rfl rfl) jy) ?_
   exact ze hF
 refine bq ?_
 refine bnd hF fun qf qD hF=>aX (HY qD) (fun _=>?_)
 exact ze hF
def Bo:List Int->Nat->(List (List UInt8))->Option ((List UInt8))
 |[],k8,c2=>(yh c2 [44]).bind fun dS=>
   some dS
 |dx::fC,k8,c2=>(Mw dx).bind fun gH=>
   (app c2 ([gH]:List (List UInt8))).bind fun z26=>
   Bo fC (k8+1) z26
def LY(ak:List Int):Option ((List UInt8)):=
 Bo ak 0 ([]:List (List UInt8))
theorem aa0{ak:List Int}{ae:Sv}{R:(List UInt8)}(hF:LY ak=some R):
   Fw.Spec Tryz.prog 228 [ae.v] [ah ae ak] (fun _:Unit=>(sv R)) (fun _=>[]):=by
 refine Se 21 Tryz.func228 [.tmp 2] ?_
 intro H0 F0
 unfold LY at hF
 refine aU ?_
 refine dQ rfl (cz (g:=true) zN.h xS.h .nil (vs:=[]) rfl rfl rfl (by simp)) (fun k1=>?_)
 refine dP (.cons .h .nil) (cK (Ro:=(aG rdStr)) (E:=9) (F:=[]) (xs:=([]:List (List UInt8))) cB rfl rfl) ?_
 refine di ?_
 refine bn (bF (m:=ak.length) (fun m6 f' cs'=>∃(g:Fr)(k8:Nat)(fC:List Int)(c2:List (List UInt8))(v3:Sv)(F4:List Nat),m6=fC.length/\f'=aM g [(3,v3.v),(7,ae.v),(8,(zi (ak.length:Int))),(9,(zi (k8:Int)))]/\List.drop k8 ak=fC/\aL cs' [Qw F4 v3 c2,ah ae ak]/\Bo fC k8 c2=some R) ⟨_,0,_,_,⟨(some ⟨k1,0,none⟩),0,1⟩,(k1::[]),rfl,aA,rfl,az,hF⟩ ?_)
 rintro m6 _ _ ⟨g7,k8,fC,c2,v3,F4,rfl,rfl,gD,hE,hF⟩
 refine Kb hE ak (fun Od=>?_)
 rcases fC with _|⟨dx,fC⟩
 · have vJ:=dn gD
   rw[Bo]at hF
   refine aU ?_
   refine bR ?_
   refine aZ ?_
   refine bnd hF fun dS fV hF=>dZ (.cons .h .nil) (lF bU (fun _=>.nil) (dB TV.h (.cons (.tmp rfl rfl) (.cons (.sv _) .nil)) (Rs fV))) (fun _=>?_)
   exact ze hF
 obtain⟨vJ,jr,vK⟩:=bN gD
 rw[Bo]at hF
 refine aU ?_
 refine bQ ?_
 refine bq ?_
 refine Ai jr (fun k20 pF=>?_)
 refine Al bY ?_
 refine aV ?_
 refine bnd hF fun gH mK hF=>aX (ajG mK) (fun _=>?_)
 refine dQ rfl (cz (g:=true) zN.h xS.h bZ (vs:=[(sv gH)]) rfl rfl rfl (by intro v hv; simp at hv; rcases hv with rfl<;>rfl)) (fun k25=>?_)
 refine dP (.cons .h .nil) (cK (Ro:=(aG rdStr)) (E:=9) (F:=([]++[])) (xs:=([gH]:List (List UInt8))) (gq (jF (fun _=>rfl)) cB dz) rfl rfl) ?_
 refine bnd hF fun z26 hx27 hF=>dZ (.cons .q2 (.cons .h .nil)) (fT (Ro:=(aG rdStr)) zN.h X9 xS.h rfl rfl rfl (.tmp rfl rfl) (.tmp rfl rfl) hx27 iF) (fun p28=>?_)
 refine aZ ?_
 rw[wk k8]
 exact⟨_,bG _,_,k8+1,fC,_,p28.1,p28.2,rfl,aA,vK,az,hF⟩
def Tn(kY:Int):Option (Bool):=
 (kL kY 0 2).bind fun r1=>
 some r1
theorem alG{kY:Int}{R:Bool}(hF:Tn kY=some R):
   Fw.Spec Tryz.prog 201 [(zi kY)] [] (fun _:Unit=>(.bool R)) (fun _=>[]):=by
 refine Se 5 Tryz.func201 [.tmp 2] ?_
 intro H0 F0
 unfold Tn at hF
 refine aV ?_
 refine bnd hF fun r1 hx2 hF=>aX (l8 hx2) (fun _=>?_)
 exact ze hF
def LB(aa:Atom):Option ((List UInt8)):=
 ((Tn aa.Rel).bind fun r4=>
   bif (!r4)then (some true)
   else ((kL (aa.Terms.length:Int) 1 3).bind fun r8=>
     bif (!r8)then (some true)
     else ((IV aa.Terms).bind fun ig=>
       some (!ig)))).bind fun o2=>
 match o2 with
 |c15=>if c15 then (
     some [])
   else (
     (tu aa.Rel).bind fun r16=>
     (fG [114] r16).bind fun mU=>
     (fG mU [40]).bind fun Gu=>
     (LY aa.Terms).bind fun sW=>
     (fG Gu sW).bind fun x30=>
     (fG x30 [41]).bind fun x34=>
     some x34)
theorem aiy{aa:Atom}{ay:Sv}{R:(List UInt8)}(hF:LB aa=some R):
   Fw.Spec Tryz.prog 226 [(zg [(zi aa.Rel),ay.v])] [ah ay aa.Terms] (fun _:Unit=>(sv R)) (fun _=>[]):=by
 refine Se 30 Tryz.func226 [.tmp 2] ?_
 intro H0 F0
 unfold LB at hF
 refine au ?_
 refine bB (fun k1=>?_)
 refine bq ?_
 obtain⟨o2,gK,hO3⟩:=bind_some hF
 refine au ?_
 refine fE (fun f' cs'=>∃(c15:Bool)(g:Fr),c15=o2/\f'=aM g [(1,(pz k1)),(19,(.bool c15))]/\aL cs' [bi k1 123 (zg [(zi aa.Rel),ay.v]),ah ay aa.Terms]) ?_ ?_
 · replace hF:=gK
   refine aW ?_
   refine bnd hF fun r4 hx5 hF=>aX (alG hx5) (fun _=>?_)
   refine aW ?_
   rcases bL (!r4)with bI|bI
   · rw[bI]
     try rw[bI]at hF; dsimp only[aO,aN]at hF
     exact bO hF
   rw[bI]
   try rw[bI]at hF; dsimp only[aO,aN]at hF
   refine bf ?_
   refine bnd hF fun r8 bP hF=>aX (l8 bP) (fun _=>?_)
   refine aU ?_
   rcases bL (!r8)with dJ|dJ
   · rw[dJ]
     try rw[dJ]at hF; dsimp only[aO,aN]at hF
     exact bO hF
   rw[dJ]
   try rw[dJ]at hF; dsimp only[aO,aN]at hF
   refine aV ?_
   refine bnd hF fun ig jr hF=>aX (abg jr) (fun _=>?_)
   exact bO hF
 rintro _ _ ⟨c15,Vu,rfl,rfl,hE⟩
 replace hF:=hO3
 try dsimp only at hF
 refine bD hE ?_
 refine Ci hF (fun zX hF=>?_) (fun zX hF=>?_)
 · exact ze hF
 refine au ?_
 refine dE [0,1,5,6,2,3,4,7,8,9,10] [0,1,3,7,15,0,32,103,255,511,1023] [2,7] mixed (by decide+kernel) ?_
 refine o9 ?_
 refine bnd hF fun r16 iP hF=>dR (HY iP) (fun _=>?_)
 refine bnd hF fun mU lT hF=>?_
 obtain⟨Zr,Zt⟩:=gQ lT
 refine dX rfl .no (fun ha=>gU (s:=[114]) (t:=r16) (u:=mU) (EN ha (.sv _) rfl) (EN ha (.tmp rfl rfl) rfl) lT) ?_
 refine bnd hF fun Gu hx24 hF=>?_
 obtain⟨aDG,aDH⟩:=gQ hx24
 refine dX rfl .no (fun ha=>gU (s:=mU) (t:=[40]) (u:=Gu) (EN ha (.tmp rfl rfl) rfl) (EN ha (.sv _) rfl) hx24) ?_
 refine bnd hF fun sW hx28 hF=>dR (aa0 hx28) (fun _=>?_)
 refine bnd hF fun x30 hx31 hF=>?_
 obtain⟨avB,hz32⟩:=gQ hx31
 refine dX rfl .no (fun ha=>gU (s:=Gu) (t:=sW) (u:=x30) (EN ha (.tmp rfl rfl) rfl) (EN ha (.tmp rfl rfl) rfl) hx31) ?_
 refine bnd hF fun x34 qH hF=>?_
 obtain⟨avj,avk⟩:=gQ qH
 refine dX rfl .no (fun ha=>gU (s:=x30) (t:=[41]) (u:=x34) (EN ha (.tmp rfl rfl) rfl) (EN ha (.sv _) rfl) qH) ?_
 refine bS ?_
 exact ze hF
def yg(ai:Query):List Atom->Nat->(List (List UInt8))->Option ((List UInt8))
 |[],k9,c3=>((kL (c3.length:Int) 1 4).bind fun il=>
     bif (!il)then (some true)
     else ((KF c3 []).bind fun mR=>
       bif mR then (some true)
       else ((EM ai).bind fun r28=>
         some (!r28)))).bind fun kJ=>
   match kJ with
   |c31=>if c31 then (
       some [])
     else (
       if (decide ((0:Int)<(ai.Head.length:Int)))then (
         (LY ai.Head).bind fun r32=>
         (fG r32 [32,105,102,32]).bind fun GR=>
         (yh c3 [32,97,110,100,32]).bind fun Kk=>
         (fG GR Kk).bind fun GJ=>
         some GJ)
       else (
         (fG [121,101,115] [32,105,102,32]).bind fun Dm=>
         (yh c3 [32,97,110,100,32]).bind fun r50=>
         (fG Dm r50).bind fun Kc=>
         some Kc))
 |eB::dU,k9,c3=>(LB eB).bind fun VI=>
   (app c3 ([VI]:List (List UInt8))).bind fun z68=>
   yg ai dU (k9+1) z68
def RH(ai:Query):Option ((List UInt8)):=
 yg ai ai.Atoms 0 ([]:List (List UInt8))
theorem aid{ai:Query}{ae ay:Sv}{R:(List UInt8)}(hF:RH ai=some R):
   Fw.Spec Tryz.prog 142 [(zg [ae.v,ay.v])] [ah ae ai.Head,bH ay ai.Atoms] (fun _:Unit=>(sv R)) (fun _=>[]):=by
 refine Se 46 Tryz.func142 [.tmp 2] ?_
 intro H0 F0
 unfold RH at hF
 refine au ?_
 refine bB (fun k1=>?_)
 refine bq ?_
 refine dQ rfl (cz (g:=true) zN.h xS.h .nil (vs:=[]) rfl rfl rfl (by simp)) (fun k2=>?_)
 refine dP (.cons .h .nil) (cK (Ro:=(aG rdStr)) (E:=9) (F:=[]) (xs:=([]:List (List UInt8))) cB rfl rfl) ?_
 refine dK ?_
 refine bn (bF (m:=ai.Atoms.length) (fun m7 f' cs'=>∃(g:Fr)(k9:Nat)(dU:List Atom)(c3:List (List UInt8))(v4:Sv)(F5:List Nat),m7=dU.length/\f'=aM g [(1,(pz k1)),(3,v4.v),(9,ay.v),(10,(zi (ai.Atoms.length:Int))),(11,(zi (k9:Int)))]/\List.drop k9 ai.Atoms=dU/\aL cs' [bi k1 39 (zg [ae.v,ay.v]),ah ae ai.Head,bH ay ai.Atoms,Qw F5 v4 c3]/\yg ai dU k9 c3=some R) ⟨_,0,_,_,⟨(some ⟨k2,0,none⟩),0,1⟩,(k2::[]),rfl,aA,rfl,az,hF⟩ ?_)
 rintro m7 _ _ ⟨g8,k9,dU,c3,v4,F5,rfl,rfl,lI,hE,hF⟩
 refine Kb hE ai.Atoms (fun Jy=>?_)
 rcases dU with _|⟨eB,dU⟩
 · have sH:=dn lI
   rw[yg]at hF
   refine aU ?_
   refine bR ?_
   refine aV ?_
   obtain⟨kJ,uZ,vD⟩:=bind_some hF
   refine au ?_
   refine fE (fun f' cs'=>∃(c31:Bool)(g:Fr),c31=kJ/\f'=aM g [(1,(pz k1)),(3,v4.v),(33,(.bool c31))]/\aL cs' [bi k1 39 (zg [ae.v,ay.v]),ah ae ai.Head,bH ay ai.Atoms,Qw F5 v4 c3]) ?_ ?_
   · replace hF:=uZ
     refine aW ?_
     refine bnd hF fun il kG hF=>aX (l8 kG) (fun _=>?_)
     refine aW ?_
     rcases bL (!il)with j4|j4
     · rw[j4]
       try rw[j4]at hF; dsimp only[aO,aN]at hF
       exact bO hF
     rw[j4]
     try rw[j4]at hF; dsimp only[aO,aN]at hF
     refine bq ?_
     refine bnd hF fun mR hx25 hF=>dZ (.cons .q3 .nil) (lF bU (fun _=>.nil) (dB aq4.h (.cons (.tmp rfl rfl) (.cons (.sv _) .nil)) (ahu hx25))) (fun _=>?_)
     refine aW ?_
     rcases bL mR with Qo|Qo
     · rw[Qo]
       try rw[Qo]at hF; dsimp only[aO,aN]at hF
       exact bO hF
     rw[Qo]
     try rw[Qo]at hF; dsimp only[aO,aN]at hF
     refine bq ?_
     refine bnd hF fun r28 hx29 hF=>aX (abx hx29) (fun _=>?_)
     exact bO hF
   rintro _ _ ⟨c31,g59,rfl,rfl,hE⟩
   replace hF:=vD
   try dsimp only at hF
   refine bD hE ?_
   refine Ci hF (fun awk hF=>?_) (fun awk hF=>?_)
   · exact ze hF
   refine oC ?_
   refine Ci hF (fun YS hF=>?_) (fun YS hF=>?_)
   · refine bq ?_
     refine bnd hF fun r32 vz hF=>aX (aa0 vz) (fun _=>?_)
     refine aU ?_
     refine bnd hF fun GR uk hF=>?_
     obtain⟨aDI,aDJ⟩:=gQ uk
     refine aI (gU (s:=r32) (t:=[32,105,102,32]) (u:=GR) (.tmp rfl rfl) (.sv _) uk) ?_
     refine au ?_
     refine bnd hF fun Kk sG hF=>dZ (.cons .q3 .nil) (lF bU (fun _=>.nil) (dB TV.h (.cons (.tmp rfl rfl) (.cons (.sv _) .nil)) (Rs sG))) (fun _=>?_)
     refine bnd hF fun GJ oD hF=>?_
     obtain⟨avo,avp⟩:=gQ oD
     refine aI (gU (s:=GR) (t:=Kk) (u:=GJ) (.tmp rfl rfl) (.tmp rfl rfl) oD) ?_
     exact ze hF
   refine bq ?_
   refine bnd hF fun Dm ui hF=>?_
   obtain⟨aDK,aDL⟩:=gQ ui
   refine aI (gU (s:=[121,101,115]) (t:=[32,105,102,32]) (u:=Dm) (.tmp rfl rfl) (.sv _) ui) ?_
   refine au ?_
   refine bnd hF fun r50 ZO hF=>dZ (.cons .q3 .nil) (lF bU (fun _=>.nil) (dB TV.h (.cons (.tmp rfl rfl) (.cons (.sv _) .nil)) (Rs ZO))) (fun _=>?_)
   refine bnd hF fun Kc Cx hF=>?_
   obtain⟨aDM,aDN⟩:=gQ Cx
   refine aI (gU (s:=Dm) (t:=r50) (u:=Kc) (.tmp rfl rfl) (.tmp rfl rfl) Cx) ?_
   exact ze hF
 obtain⟨sH,iy,qb⟩:=bN lI
 rw[yg]at hF
 refine aU ?_
 refine bQ ?_
 refine bq ?_
 refine Ai iy (fun xW j61=>?_)
 refine iM (oV eB) pO (fun p62=>?_)
 refine dH (fun k63=>?_)
 refine As (zg [(zi eB.Rel),p62.v]) ?_
 refine aU ?_
 refine bnd hF fun VI zZ hF=>aX (aiy zZ) (fun _=>?_)
 refine dQ rfl (cz (g:=true) zN.h xS.h bZ (vs:=[(sv VI)]) rfl rfl rfl (by intro v hv; simp at hv; rcases hv with rfl<;>rfl)) (fun k67=>?_)
 refine dP (.cons .h .nil) (cK (Ro:=(aG rdStr)) (E:=9) (F:=([]++[])) (xs:=([VI]:List (List UInt8))) (gq (jF (fun _=>rfl)) cB dz) rfl rfl) ?_
 refine bnd hF fun z68 awl hF=>dZ (.cons .q7 (.cons .h .nil)) (fT (Ro:=(aG rdStr)) zN.h X9 xS.h rfl rfl rfl (.tmp rfl rfl) (.tmp rfl rfl) awl iF) (fun p70=>?_)
 refine aZ ?_
 rw[wk k9]
 exact⟨_,bG _,_,k9+1,dU,_,p70.1,p70.2,rfl,aA,qb,az,hF⟩
def Bh:List Step->Nat->(List (List UInt8))->Option ((List UInt8))
 |[],k8,c2=>(yh c2 [32]).bind fun dS=>
   some dS
 |dx::fC,k8,c2=>((kL dx.Atom 0 3).bind fun nY=>
     bif (!nY)then (some true)
     else ((kL dx.Method 0 4).bind fun QY=>
       some (!QY))).bind fun sZ=>
   match sZ with
   |c32=>if c32 then (
       some [])
     else (
       (tu dx.Atom).bind fun sQ=>
       (fG sQ [47,109]).bind fun VJ=>
       (tu dx.Method).bind fun r40=>
       (fG VJ r40).bind fun x43=>
       (app c2 ([x43]:List (List UInt8))).bind fun z48=>
       Bh fC (k8+1) z48)
def Lf(dN:List Step):Option ((List UInt8)):=
 Bh dN 0 ([]:List (List UInt8))
theorem aie{dN:List Step}{ae:Sv}{R:(List UInt8)}(hF:Lf dN=some R):
   Fw.Spec Tryz.prog 143 [ae.v] [g_ ae dN] (fun _:Unit=>(sv R)) (fun _=>[]):=by
 refine Se 37 Tryz.func143 [.tmp 2] ?_
 intro H0 F0
 unfold Lf at hF
 refine aU ?_
 refine dQ rfl (cz (g:=true) zN.h xS.h .nil (vs:=[]) rfl rfl rfl (by simp)) (fun k1=>?_)
 refine dP (.cons .h .nil) (cK (Ro:=(aG rdStr)) (E:=9) (F:=[]) (xs:=([]:List (List UInt8))) cB rfl rfl) ?_
 refine di ?_
 refine bn (bF (m:=dN.length) (fun m6 f' cs'=>∃(g:Fr)(k8:Nat)(fC:List Step)(c2:List (List UInt8))(v3:Sv)(F4:List Nat),m6=fC.length/\f'=aM g [(3,v3.v),(7,ae.v),(8,(zi (dN.length:Int))),(9,(zi (k8:Int)))]/\List.drop k8 dN=fC/\aL cs' [Qw F4 v3 c2,g_ ae dN]/\Bh fC k8 c2=some R) ⟨_,0,_,_,⟨(some ⟨k1,0,none⟩),0,1⟩,(k1::[]),rfl,aA,rfl,az,hF⟩ ?_)
 rintro m6 _ _ ⟨g7,k8,fC,c2,v3,F4,rfl,rfl,gD,hE,hF⟩
 refine Kb hE dN (fun Od=>?_)
 rcases fC with _|⟨dx,fC⟩
 · have vJ:=dn gD
   rw[Bh]at hF
   refine aU ?_
   refine bR ?_
   refine aZ ?_
   refine bnd hF fun dS fV hF=>dZ (.cons .h .nil) (lF bU (fun _=>.nil) (dB TV.h (.cons (.tmp rfl rfl) (.cons (.sv _) .nil)) (Rs fV))) (fun _=>?_)
   exact ze hF
 obtain⟨vJ,jr,vK⟩:=bN gD
 rw[Bh]at hF
 refine aU ?_
 refine bQ ?_
 refine bq ?_
 refine Ai jr (fun k20 pF=>?_)
 refine atH (abR dx) akO (fun _=>?_)
 refine dH (fun k22=>?_)
 refine As (zg [(zi dx.Atom),(zi dx.Method)]) ?_
 refine aW ?_
 obtain⟨sZ,Oi,PR⟩:=bind_some hF
 refine au ?_
 refine fE (fun f' cs'=>∃(c32:Bool)(g:Fr),c32=sZ/\f'=aM g [(3,v3.v),(5,(pz k22)),(7,ae.v),(8,(zi (dN.length:Int))),(9,(zi (k8:Int))),(22,(.bool c32))]/\aL cs' [Qw F4 v3 c2,b_ k22 204 (zg [(zi dx.Atom),(zi dx.Method)]),g_ ae dN]) ?_ ?_
 · replace hF:=Oi
   refine aW ?_
   refine bnd hF fun nY nk hF=>aX (l8 nk) (fun _=>?_)
   refine aW ?_
   rcases bL (!nY)with vP|vP
   · rw[vP]
     try rw[vP]at hF; dsimp only[aO,aN]at hF
     exact bO hF
   rw[vP]
   try rw[vP]at hF; dsimp only[aO,aN]at hF
   refine aV ?_
   refine bnd hF fun QY OT hF=>aX (l8 OT) (fun _=>?_)
   exact bO hF
 rintro _ _ ⟨c32,g53,rfl,rfl,hE⟩
 replace hF:=PR
 try dsimp only at hF
 refine bD hE ?_
 refine Ci hF (fun PL hF=>?_) (fun PL hF=>?_)
 · exact ze hF
 refine au ?_
 refine oW [0,1,2,5,6,3,4,7,8,9,10,11] [0,0,2,6,14,0,32,110,254,510,1023,2047] [3,7,10] mixed (by decide+kernel) ?_
 refine bS ?_
 refine fA rfl .no (.t .h) (fun ha hp=>gu (v:=(zi dx.Atom)) rP.h (EN ha (.tmp rfl rfl) rfl) hp.2 rfl rfl) ?_
 refine du ?_
 refine fA rfl .no (.t .h) (fun ha hp=>gu (v:=(zi dx.Method)) rP.h (EN ha (.tmp rfl rfl) rfl) hp.2 rfl rfl) ?_
 refine bnd hF fun sQ hx34 hF=>XQ rfl rfl .no .nil (.own (.t .h) (fun _ h=>h) (.dep rfl .nil)) (fun ha=>dB aq6.h (.cons (EN ha (.tmp rfl rfl) rfl) .nil) (HY hx34)) (fun _=>?_)
 refine bnd hF fun VJ JJ hF=>?_
 obtain⟨aDO,aDP⟩:=gQ JJ
 refine dX rfl .no (fun ha=>gU (s:=sQ) (t:=[47,109]) (u:=VJ) (EN ha (.tmp rfl rfl) rfl) (EN ha (.sv _) rfl) JJ) ?_
 refine bnd hF fun r40 mJ hF=>dR (HY mJ) (fun _=>?_)
 refine bnd hF fun x43 Cw hF=>?_
 obtain⟨aDQ,aDR⟩:=gQ Cw
 refine dX rfl .no (fun ha=>gU (s:=VJ) (t:=r40) (u:=x43) (EN ha (.tmp rfl rfl) rfl) (EN ha (.tmp rfl rfl) rfl) Cw) ?_
 refine jI rfl .no rfl (fun ha=>cz (g:=true) (len:=1) (parts:=[(0,.tmp 31)]) zN.h xS.h (.cons (EN ha (.tmp rfl rfl) rfl) .nil) (vs:=[(sv x43)]) rfl rfl rfl (by intro v hv; simp at hv; rcases hv with rfl<;>rfl)) (fun k47=>?_)
 refine jO (.cons .h .nil) (cK (Ro:=(aG rdStr)) (E:=9) (F:=([]++[])) (xs:=([x43]:List (List UInt8))) (gq (jF (fun _=>rfl)) cB dz) rfl rfl) ?_
 refine bnd hF fun z48 iO hF=>eU rfl rfl .no (.cons (.t .h) (.cons .h .nil)) (.dep rfl (.dep rfl (.dep rfl .nil))) (fun ha=>fT (Ro:=(aG rdStr)) zN.h X9 xS.h rfl rfl rfl (EN ha (.tmp rfl rfl) rfl) (EN ha (.tmp rfl rfl) rfl) iO iF) (fun p50=>?_)
 refine bS ?_
 refine aU ?_
 rw[wk k8]
 exact⟨_,bG _,_,k8+1,fC,_,p50.1,p50.2,rfl,aA,vK,az,hF⟩
def LC(ed:lH):Option ((List UInt8)):=
 (RH ed.Query).bind fun r2=>
 (Lf ed.Steps).bind fun r5=>
 if ((r2==[])||((r5==[])||(decide ((ed.Cost:Int)<0))))then (
   some [])
 else (
   (fG r2 [32,98,121,32]).bind fun eB=>
   (fG eB r5).bind fun j5=>
   (fG j5 [32,99,111,115,116,32]).bind fun mU=>
   (tu ed.Cost).bind fun iJ=>
   (fG mU iJ).bind fun oO=>
   some oO)
theorem aiz{ed:lH}{ae ay dm:Sv}{R:(List UInt8)}(hF:LC ed=some R):
   Fw.Spec Tryz.prog 60 [(zg [ae.v,ay.v,dm.v,(zi ed.Cost)])] [ah ae ed.Query.Head,bH ay ed.Query.Atoms,g_ dm ed.Steps] (fun _:Unit=>(sv R)) (fun _=>[]):=by
 refine Se 31 Tryz.func60 [.tmp 2] ?_
 intro H0 F0
 unfold LC at hF
 refine au ?_
 refine bB (fun k1=>?_)
 refine aW ?_
 refine dE [0,1,3,4,2,5,6,7] [0,1,3,0,8,31,63,127] [2,5] mixed (by decide+kernel) ?_
 refine du ?_
 refine Cu rfl .no .h rfl (fun ha hp=>ko (s:=2) (l:=[ae.v,ay.v]) Ul.h rJ.h.sz (EN ha (.tmp rfl rfl) rfl) hp.2 rfl (by decide) (Nat.le_of_ble_eq_true rfl) rfl) ?_
 refine bS ?_
 refine bnd hF fun r2 hx3 hF=>dR (aid hx3) (fun _=>?_)
 refine bnd hF fun r5 hx6 hF=>dR (aie hx6) (fun _=>?_)
 refine dI ?_
 refine aW ?_
 refine fE (fun f' cs'=>∃(g:Fr),f'=aM g [(1,(pz k1)),(3,(sv r2)),(4,(sv r5)),(21,(.bool ((r2==[])||((r5==[])||(decide ((ed.Cost:Int)<0))))))]/\aL cs' [bi k1 105 (zg [ae.v,ay.v,dm.v,(zi ed.Cost)]),ah ae ed.Query.Head,bH ay ed.Query.Atoms,g_ dm ed.Steps]) ?_ ?_
 · refine au ?_
   refine aI (Fs (s:=r2) (t:=[]) (.tmp rfl rfl) (.sv _)) ?_
   refine au ?_
   rcases bL (r2==[])with fD|fD
   · rw[fD]
     try rw[fD]at hF; dsimp only[aO,aN]at hF
     refine dK ?_
     exact⟨_,aA,az⟩
   rw[fD]
   try rw[fD]at hF; dsimp only[aO,aN]at hF
   refine bq ?_
   refine aI (Fs (s:=r5) (t:=[]) (.tmp rfl rfl) (.sv _)) ?_
   refine aW ?_
   rcases bL (r5==[])with pK|pK
   · rw[pK]
     try rw[pK]at hF; dsimp only[aO,aN]at hF
     refine aV ?_
     exact⟨_,aA,az⟩
   rw[pK]
   try rw[pK]at hF; dsimp only[aO,aN]at hF
   refine di ?_
   exact⟨_,aA,az⟩
 rintro _ _ ⟨g10,rfl,hE⟩
 refine bD hE ?_
 refine Ci hF (fun o_ hF=>?_) (fun o_ hF=>?_)
 · exact ze hF
 refine bq ?_
 refine bnd hF fun eB qD hF=>?_
 obtain⟨avC,avD⟩:=gQ qD
 refine aI (gU (s:=r2) (t:=[32,98,121,32]) (u:=eB) (.tmp rfl rfl) (.sv _) qD) ?_
 refine au ?_
 refine bnd hF fun j5 hx16 hF=>?_
 obtain⟨avE,avF⟩:=gQ hx16
 refine aI (gU (s:=eB) (t:=r5) (u:=j5) (.tmp rfl rfl) (.tmp rfl rfl) hx16) ?_
 refine bnd hF fun mU lT hF=>?_
 obtain⟨Zr,Zt⟩:=gQ lT
 refine aI (gU (s:=j5) (t:=[32,99,111,115,116,32]) (u:=mU) (.tmp rfl rfl) (.sv _) lT) ?_
 refine aW ?_
 refine bnd hF fun iJ hx24 hF=>aX (HY hx24) (fun _=>?_)
 refine bnd hF fun oO hx27 hF=>?_
 obtain⟨af_,af'⟩:=gQ hx27
 refine aI (gU (s:=mU) (t:=iJ) (u:=oO) (.tmp rfl rfl) (.tmp rfl rfl) hx27) ?_
 exact ze hF
def Mx(fuel:Nat)(aF:gV)(ai:Query):Option ((List UInt8)):=
 ((Lu aF).bind fun r5=>
   bif (!r5)then (some true)
   else ((yG aF.Schema ai).bind fun r9=>
     some (!r9))).bind fun o3=>
 match o3 with
 |c12=>if c12 then (
     some [])
   else (
     (KZ fuel aF.Schema aF.Methods ai).bind fun ik=>
     if (!ik.2)then (
       some [110,111,32,112,108,97,110])
     else (
       (LC ik.1).bind fun dS=>
       some dS))
theorem ajH{fuel:Nat}{aF:gV}{ae ay dm gy iw iN iV jf:Sv}{ai:Query}{aC aR:Sv}{R:(List UInt8)}(hF:Mx fuel aF ai=some R):
   Fw.Spec Tryz.prog 21 [(zg [ae.v,ay.v,dm.v,gy.v,(zi aF.Source.Version),iw.v,(zi aF.Cache.Age),(zi aF.Now),iN.v,iV.v,(zi aF.Spent),jf.v]),(zg [aC.v,aR.v])] [ah ae aF.Schema,dD ay aF.Methods,lN dm aF.Rules,dY gy aF.Source.Facts,kv iw aF.Cache.Entries,ng iN aF.Log,ah iV aF.Times,bK (aJ 171 (aJ 22 (aJ 3 aK))) jf.v aF.Results,ah aC ai.Head,bH aR ai.Atoms] (fun _:Unit=>(sv R)) (fun _=>[]):=by
 refine Se 30 Tryz.func21 [.tmp 4] ?_
 intro H0 F0
 unfold Mx at hF
 refine au ?_
 refine bB (fun k1=>?_)
 refine bB (fun k2=>?_)
 refine bq ?_
 obtain⟨o3,vI,hO4⟩:=bind_some hF
 refine au ?_
 refine fE (fun f' cs'=>∃(c12:Bool)(g:Fr),c12=o3/\f'=aM g [(2,(pz k1)),(3,(pz k2)),(16,(.bool c12))]/\aL cs' [bi k1 66 (zg [ae.v,ay.v,dm.v,gy.v,(zi aF.Source.Version),iw.v,(zi aF.Cache.Age),(zi aF.Now),iN.v,iV.v,(zi aF.Spent),jf.v]),ah ae aF.Schema,dD ay aF.Methods,lN dm aF.Rules,dY gy aF.Source.Facts,kv iw aF.Cache.Entries,ng iN aF.Log,ah iV aF.Times,bK (aJ 171 (aJ 22 (aJ 3 aK))) jf.v aF.Results,bi k2 39 (zg [aC.v,aR.v]),ah aC ai.Head,bH aR ai.Atoms]) ?_ ?_
 · replace hF:=vI
   refine au ?_
   refine bnd hF fun r5 hx6 hF=>aX (aiv hx6) (fun _=>?_)
   refine aW ?_
   rcases bL (!r5)with fD|fD
   · rw[fD]
     try rw[fD]at hF; dsimp only[aO,aN]at hF
     exact bO hF
   rw[fD]
   try rw[fD]at hF; dsimp only[aO,aN]at hF
   refine bf ?_
   refine bnd hF fun r9 eX hF=>aX (Lx eX) (fun _=>?_)
   exact bO hF
 rintro _ _ ⟨c12,g22,rfl,rfl,hE⟩
 replace hF:=hO4
 try dsimp only at hF
 refine bD hE ?_
 refine Ci hF (fun mH hF=>?_) (fun mH hF=>?_)
 · exact ze hF
 refine bf ?_
 refine bnd hF fun ik iy hF=>Cx3 (ahZ iy) (fun jd=>?_)
 refine au ?_
 refine zx ?_
 refine zx ?_
 refine dH (fun k16=>?_)
 refine As (zg [jd.1.v,jd.2.1.v,jd.2.2.1.v,(zi ik.1.Cost)]) ?_
 refine bf ?_
 refine Ci hF (fun nT hF=>?_) (fun nT hF=>?_)
 · exact ze hF
 refine bq ?_
 refine bnd hF fun dS fV hF=>dZ (.cons .q3 (.rd (.t .h) rfl (.rd .q2 rfl .nil))) (lF bU (fun _=>.nil) (zk (.rd (.t .h) rfl (.rd .q2 rfl (.rd .h rfl .nil))) (dB aud.h bZ (aiz fV)))) (fun _=>?_)
 exact ze hF
def IG(aj:List Int):List Int->Nat->Option (Bool)
 |[],k4=>some true
 |x6::ax,k4=>(ix aj (k4:Int)).bind fun j5=>
   if ((x6:Int)!=j5)then (
     some false)
   else (
     IG aj ax (k4+1))
def tK(aa:List Int)(aj:List Int):Option (Bool):=
 if (((aa.length:Int):Int)!=(aj.length:Int))then (
   some false)
 else (
   IG aj aa 0)
theorem yB{aa:List Int}{ae:Sv}{aj:List Int}{aC:Sv}{R:Bool}(hF:tK aa aj=some R):
   Fw.Spec Tryz.prog 14 [ae.v,aC.v] [ah ae aa,ah aC aj] (fun _:Unit=>(.bool R)) (fun _=>[]):=by
 refine Se 26 Tryz.func14 [.tmp 4] ?_
 intro H0 F0
 unfold tK at hF
 refine oC ?_
 refine Ci hF (fun Ab hF=>?_) (fun Ab hF=>?_)
 · exact ze hF
 refine aV ?_
 refine bn (bF (m:=aa.length) (fun m2 f' cs'=>∃(g:Fr)(k4:Nat)(ax:List Int),m2=ax.length/\f'=aM g [(0,ae.v),(1,aC.v),(5,(zi (k4:Int)))]/\List.drop k4 aa=ax/\aL cs' [ah ae aa,ah aC aj]/\IG aj ax k4=some R) ⟨_,0,_,rfl,aA,rfl,az,hF⟩ ?_)
 rintro m2 _ _ ⟨g3,k4,ax,rfl,rfl,hd7,hE,hF⟩
 refine Kb hE aa (fun iK=>?_)
 rcases ax with _|⟨x6,ax⟩
 · have dM:=dn hd7
   rw[IG]at hF
   refine bf ?_
   refine bR ?_
   exact ze hF
 obtain⟨dM,bP,dL⟩:=bN hd7
 rw[IG]at hF
 refine bf ?_
 refine bQ ?_
 refine aW ?_
 refine dE [0,1,2,3,4,5,6,7,8] [0,0,3,7,0,0,48,112,255] [] mixed (by decide+kernel) ?_
 refine bS ?_
 refine Di bP (fun k13 j6=>?_)
 refine Dl bY ?_
 refine bS ?_
 refine zI hF fun j5 YN fV hF=>?_
 refine Di fV (fun k19 Ke=>?_)
 refine Dl bY ?_
 refine bS ?_
 refine Ci hF (fun lg hF=>?_) (fun lg hF=>?_)
 · exact ze hF
 refine aZ ?_
 rw[wk k4]
 exact⟨_,bG _,_,k4+1,ax,rfl,aA,dL,az,hF⟩
def MB(aa:Method)(aj:Method):Option (Bool):=
 if ((aa.Rel:Int)!=aj.Rel)then (
   some false)
 else (
   (tK aa.Inputs aj.Inputs).bind fun r3=>
   if (!r3)then (
     some false)
   else (
     if ((aa.Limit:Int)!=aj.Limit)then (
       some false)
     else (
       if ((aa.Cost:Int)!=aj.Cost)then (
         some false)
       else (
         if ((aa.Quota:Int)!=aj.Quota)then (
           some false)
         else (
           some true)))))
theorem ajI{aa:Method}{ay:Sv}{aj:Method}{aR:Sv}{R:Bool}(hF:MB aa aj=some R):
   Fw.Spec Tryz.prog 44 [(zg [(zi aa.Rel),ay.v,(zi aa.Limit),(zi aa.Cost),(zi aa.Quota)]),(zg [(zi aj.Rel),aR.v,(zi aj.Limit),(zi aj.Cost),(zi aj.Quota)])] [ah ay aa.Inputs,ah aR aj.Inputs] (fun _:Unit=>(.bool R)) (fun _=>[]):=by
 refine Se 31 Tryz.func44 [.tmp 4] ?_
 intro H0 F0
 unfold MB at hF
 refine au ?_
 refine bB (fun k1=>?_)
 refine bB (fun k2=>?_)
 refine iU ?_
 refine Ci hF (fun Gf hF=>?_) (fun Gf hF=>?_)
 · exact ze hF
 refine bf ?_
 refine bnd hF fun r3 hx4 hF=>aX (yB hx4) (fun _=>?_)
 refine aW ?_
 refine Ci hF (fun v_ hF=>?_) (fun v_ hF=>?_)
 · exact ze hF
 refine dK ?_
 refine Ci hF (fun wh hF=>?_) (fun wh hF=>?_)
 · exact ze hF
 refine dK ?_
 refine Ci hF (fun qY hF=>?_) (fun qY hF=>?_)
 · exact ze hF
 refine dK ?_
 refine Ci hF (fun hb6 hF=>?_) (fun hb6 hF=>?_)
 · exact ze hF
 exact ze hF
def HZ(aj:List Method):List Method->Nat->Option (Bool)
 |[],k4=>some true
 |x6::ax,k4=>(ix aj (k4:Int)).bind fun gF=>
   (MB x6 gF).bind fun iJ=>
   if (!iJ)then (
     some false)
   else (
     HZ aj ax (k4+1))
def R9(aa:List Method)(aj:List Method):Option (Bool):=
 if (((aa.length:Int):Int)!=(aj.length:Int))then (
   some false)
 else (
   HZ aj aa 0)
theorem ai5{aa:List Method}{ae:Sv}{aj:List Method}{aC:Sv}{R:Bool}(hF:R9 aa aj=some R):
   Fw.Spec Tryz.prog 15 [ae.v,aC.v] [dD ae aa,dD aC aj] (fun _:Unit=>(.bool R)) (fun _=>[]):=by
 refine Se 27 Tryz.func15 [.tmp 4] ?_
 intro H0 F0
 unfold R9 at hF
 refine oC ?_
 refine Ci hF (fun lh hF=>?_) (fun lh hF=>?_)
 · exact ze hF
 refine aV ?_
 refine bn (bF (m:=aa.length) (fun m2 f' cs'=>∃(g:Fr)(k4:Nat)(ax:List Method),m2=ax.length/\f'=aM g [(0,ae.v),(1,aC.v),(5,(zi (k4:Int)))]/\List.drop k4 aa=ax/\aL cs' [dD ae aa,dD aC aj]/\HZ aj ax k4=some R) ⟨_,0,_,rfl,aA,rfl,az,hF⟩ ?_)
 rintro m2 _ _ ⟨g3,k4,ax,rfl,rfl,hd7,hE,hF⟩
 refine Kb hE aa (fun iK=>?_)
 rcases ax with _|⟨x6,ax⟩
 · have dM:=dn hd7
   rw[HZ]at hF
   refine bf ?_
   refine bR ?_
   exact ze hF
 obtain⟨dM,bP,dL⟩:=bN hd7
 rw[HZ]at hF
 refine bf ?_
 refine bQ ?_
 refine aW ?_
 refine dE [0,1,2,3,4,5,6,7,8,9] [0,0,3,7,0,0,48,112,255,511] [8] mixed (by decide+kernel) ?_
 refine bS ?_
 refine Di bP (fun k13 j6=>?_)
 refine lc (uL x6) wQ (fun jd=>?_)
 refine bS ?_
 refine zI hF fun gF uj jq hF=>?_
 refine Di jq (fun k20 pF=>?_)
 refine lc (uL gF) wQ (fun mq=>?_)
 refine bnd hF fun iJ hx24 hF=>dR (ajI hx24) (fun _=>?_)
 refine bS ?_
 refine Ci hF (fun mI hF=>?_) (fun mI hF=>?_)
 · exact ze hF
 refine aZ ?_
 rw[wk k4]
 exact⟨_,bG _,_,k4+1,ax,rfl,aA,dL,az,hF⟩
def Nv(aa:dG)(aj:dG):Option (Bool):=
 if ((aa.From:Int)!=aj.From)then (
   some false)
 else (
   if ((aa.To:Int)!=aj.To)then (
     some false)
   else (
     (tK aa.Map aj.Map).bind fun r3=>
     if (!r3)then (
       some false)
     else (
       some true)))
theorem ak_{aa:dG}{dm:Sv}{aj:dG}{oF:Sv}{R:Bool}(hF:Nv aa aj=some R):
   Fw.Spec Tryz.prog 45 [(zg [(zi aa.From),(zi aa.To),dm.v]),(zg [(zi aj.From),(zi aj.To),oF.v])] [ah dm aa.Map,ah oF aj.Map] (fun _:Unit=>(.bool R)) (fun _=>[]):=by
 refine Se 21 Tryz.func45 [.tmp 4] ?_
 intro H0 F0
 unfold Nv at hF
 refine au ?_
 refine bB (fun k1=>?_)
 refine bB (fun k2=>?_)
 refine iU ?_
 refine Ci hF (fun wh hF=>?_) (fun wh hF=>?_)
 · exact ze hF
 refine dK ?_
 refine Ci hF (fun qY hF=>?_) (fun qY hF=>?_)
 · exact ze hF
 refine bf ?_
 refine bnd hF fun r3 hx4 hF=>aX (yB hx4) (fun _=>?_)
 refine aW ?_
 refine Ci hF (fun hb6 hF=>?_) (fun hb6 hF=>?_)
 · exact ze hF
 exact ze hF
def Iq(aj:List dG):List dG->Nat->Option (Bool)
 |[],k4=>some true
 |x6::ax,k4=>(ix aj (k4:Int)).bind fun gF=>
   (Nv x6 gF).bind fun iJ=>
   if (!iJ)then (
     some false)
   else (
     Iq aj ax (k4+1))
def SK(aa:List dG)(aj:List dG):Option (Bool):=
 if (((aa.length:Int):Int)!=(aj.length:Int))then (
   some false)
 else (
   Iq aj aa 0)
theorem akt{aa:List dG}{ae:Sv}{aj:List dG}{aC:Sv}{R:Bool}(hF:SK aa aj=some R):
   Fw.Spec Tryz.prog 16 [ae.v,aC.v] [lN ae aa,lN aC aj] (fun _:Unit=>(.bool R)) (fun _=>[]):=by
 refine Se 27 Tryz.func16 [.tmp 4] ?_
 intro H0 F0
 unfold SK at hF
 refine oC ?_
 refine Ci hF (fun lh hF=>?_) (fun lh hF=>?_)
 · exact ze hF
 refine aV ?_
 refine bn (bF (m:=aa.length) (fun m2 f' cs'=>∃(g:Fr)(k4:Nat)(ax:List dG),m2=ax.length/\f'=aM g [(0,ae.v),(1,aC.v),(5,(zi (k4:Int)))]/\List.drop k4 aa=ax/\aL cs' [lN ae aa,lN aC aj]/\Iq aj ax k4=some R) ⟨_,0,_,rfl,aA,rfl,az,hF⟩ ?_)
 rintro m2 _ _ ⟨g3,k4,ax,rfl,rfl,hd7,hE,hF⟩
 refine Kb hE aa (fun iK=>?_)
 rcases ax with _|⟨x6,ax⟩
 · have dM:=dn hd7
   rw[Iq]at hF
   refine bf ?_
   refine bR ?_
   exact ze hF
 obtain⟨dM,bP,dL⟩:=bN hd7
 rw[Iq]at hF
 refine bf ?_
 refine bQ ?_
 refine aW ?_
 refine dE [0,1,2,3,4,5,6,7,8,9] [0,0,3,7,0,0,48,112,255,511] [8] mixed (by decide+kernel) ?_
 refine bS ?_
 refine Di bP (fun k13 j6=>?_)
 refine lc (MJ x6) Sy (fun jd=>?_)
 refine bS ?_
 refine zI hF fun gF uj jq hF=>?_
 refine Di jq (fun k20 pF=>?_)
 refine lc (MJ gF) Sy (fun mq=>?_)
 refine bnd hF fun iJ hx24 hF=>dR (ak_ hx24) (fun _=>?_)
 refine bS ?_
 refine Ci hF (fun mI hF=>?_) (fun mI hF=>?_)
 · exact ze hF
 refine aZ ?_
 rw[wk k4]
 exact⟨_,bG _,_,k4+1,ax,rfl,aA,dL,az,hF⟩
def Nw(aa:Fact)(aj:Fact):Option (Bool):=
 if ((aa.Rel:Int)!=aj.Rel)then (
   some false)
 else (
   (tK aa.Values aj.Values).bind fun r3=>
   if (!r3)then (
     some false)
   else (
     some true))
theorem ak'{aa:Fact}{ay:Sv}{aj:Fact}{aR:Sv}{R:Bool}(hF:Nw aa aj=some R):
   Fw.Spec Tryz.prog 229 [(zg [(zi aa.Rel),ay.v]),(zg [(zi aj.Rel),aR.v])] [ah ay aa.Values,ah aR aj.Values] (fun _:Unit=>(.bool R)) (fun _=>[]):=by
 refine Se 16 Tryz.func229 [.tmp 4] ?_
 intro H0 F0
 unfold Nw at hF
 refine au ?_
 refine bB (fun k1=>?_)
 refine bB (fun k2=>?_)
 refine iU ?_
 refine Ci hF (fun qY hF=>?_) (fun qY hF=>?_)
 · exact ze hF
 refine bf ?_
 refine bnd hF fun r3 hx4 hF=>aX (yB hx4) (fun _=>?_)
 refine aW ?_
 refine Ci hF (fun hb6 hF=>?_) (fun hb6 hF=>?_)
 · exact ze hF
 exact ze hF
def Ir(aj:List Fact):List Fact->Nat->Option (Bool)
 |[],k4=>some true
 |x6::ax,k4=>(ix aj (k4:Int)).bind fun gF=>
   (Nw x6 gF).bind fun iJ=>
   if (!iJ)then (
     some false)
   else (
     Ir aj ax (k4+1))
def M0(aa:List Fact)(aj:List Fact):Option (Bool):=
 if (((aa.length:Int):Int)!=(aj.length:Int))then (
   some false)
 else (
   Ir aj aa 0)
theorem abz{aa:List Fact}{ae:Sv}{aj:List Fact}{aC:Sv}{R:Bool}(hF:M0 aa aj=some R):
   Fw.Spec Tryz.prog 144 [ae.v,aC.v] [dY ae aa,dY aC aj] (fun _:Unit=>(.bool R)) (fun _=>[]):=by
 refine Se 27 Tryz.func144 [.tmp 4] ?_
 intro H0 F0
 unfold M0 at hF
 refine oC ?_
 refine Ci hF (fun lh hF=>?_) (fun lh hF=>?_)
 · exact ze hF
 refine aV ?_
 refine bn (bF (m:=aa.length) (fun m2 f' cs'=>∃(g:Fr)(k4:Nat)(ax:List Fact),m2=ax.length/\f'=aM g [(0,ae.v),(1,aC.v),(5,(zi (k4:Int)))]/\List.drop k4 aa=ax/\aL cs' [dY ae aa,dY aC aj]/\Ir aj ax k4=some R) ⟨_,0,_,rfl,aA,rfl,az,hF⟩ ?_)
 rintro m2 _ _ ⟨g3,k4,ax,rfl,rfl,hd7,hE,hF⟩
 refine Kb hE aa (fun iK=>?_)
 rcases ax with _|⟨x6,ax⟩
 · have dM:=dn hd7
   rw[Ir]at hF
   refine bf ?_
   refine bR ?_
   exact ze hF
 obtain⟨dM,bP,dL⟩:=bN hd7
 rw[Ir]at hF
 refine bf ?_
 refine bQ ?_
 refine aW ?_
 refine dE [0,1,2,3,4,5,6,7,8,9] [0,0,3,7,0,0,48,112,255,511] [8] mixed (by decide+kernel) ?_
 refine bS ?_
 refine Di bP (fun k13 j6=>?_)
 refine lc (oh x6) oU (fun jd=>?_)
 refine bS ?_
 refine zI hF fun gF uj jq hF=>?_
 refine Di jq (fun k20 pF=>?_)
 refine lc (oh gF) oU (fun mq=>?_)
 refine bnd hF fun iJ hx24 hF=>dR (ak' hx24) (fun _=>?_)
 refine bS ?_
 refine Ci hF (fun mI hF=>?_) (fun mI hF=>?_)
 · exact ze hF
 refine aZ ?_
 rw[wk k4]
 exact⟨_,bG _,_,k4+1,ax,rfl,aA,dL,az,hF⟩
def MC(aa:Source)(aj:Source):Option (Bool):=
 (M0 aa.Facts aj.Facts).bind fun r3=>
 if (!r3)then (
   some false)
 else (
   if ((aa.Version:Int)!=aj.Version)then (
     some false)
   else (
     some true))
theorem ajJ{aa:Source}{ae:Sv}{aj:Source}{aC:Sv}{R:Bool}(hF:MC aa aj=some R):
   Fw.Spec Tryz.prog 61 [(zg [ae.v,(zi aa.Version)]),(zg [aC.v,(zi aj.Version)])] [dY ae aa.Facts,dY aC aj.Facts] (fun _:Unit=>(.bool R)) (fun _=>[]):=by
 refine Se 16 Tryz.func61 [.tmp 4] ?_
 intro H0 F0
 unfold MC at hF
 refine au ?_
 refine bB (fun k1=>?_)
 refine bB (fun k2=>?_)
 refine di ?_
 refine bnd hF fun r3 hx4 hF=>aX (abz hx4) (fun _=>?_)
 refine aW ?_
 refine Ci hF (fun qY hF=>?_) (fun qY hF=>?_)
 · exact ze hF
 refine dK ?_
 refine Ci hF (fun hb6 hF=>?_) (fun hb6 hF=>?_)
 · exact ze hF
 exact ze hF
def IW(aa:Access)(aj:Access):Option (Bool):=
 if ((aa.Method:Int)!=aj.Method)then (
   some false)
 else (
   (tK aa.Values aj.Values).bind fun r3=>
   if (!r3)then (
     some false)
   else (
     some true))
theorem abh{aa:Access}{ay:Sv}{aj:Access}{aR:Sv}{R:Bool}(hF:IW aa aj=some R):
   Fw.Spec Tryz.prog 146 [(zg [(zi aa.Method),ay.v]),(zg [(zi aj.Method),aR.v])] [ah ay aa.Values,ah aR aj.Values] (fun _:Unit=>(.bool R)) (fun _=>[]):=by
 refine Se 16 Tryz.func146 [.tmp 4] ?_
 intro H0 F0
 unfold IW at hF
 refine au ?_
 refine bB (fun k1=>?_)
 refine bB (fun k2=>?_)
 refine iU ?_
 refine Ci hF (fun qY hF=>?_) (fun qY hF=>?_)
 · exact ze hF
 refine bf ?_
 refine bnd hF fun r3 hx4 hF=>aX (yB hx4) (fun _=>?_)
 refine aW ?_
 refine Ci hF (fun hb6 hF=>?_) (fun hb6 hF=>?_)
 · exact ze hF
 exact ze hF
def ME(aa:eH)(aj:eH):Option (Bool):=
 (IW aa.Access aj.Access).bind fun r3=>
 if (!r3)then (
   some false)
 else (
   (M0 aa.Facts aj.Facts).bind fun r6=>
   if (!r6)then (
     some false)
   else (
     if ((aa.At:Int)!=aj.At)then (
       some false)
     else (
       some true)))
theorem ajK{aa:eH}{ay dm:Sv}{aj:eH}{aR oF:Sv}{R:Bool}(hF:ME aa aj=some R):
   Fw.Spec Tryz.prog 230 [(zg [(zi aa.Access.Method),ay.v,dm.v,(zi aa.At)]),(zg [(zi aj.Access.Method),aR.v,oF.v,(zi aj.At)])] [ah ay aa.Access.Values,dY dm aa.Facts,ah aR aj.Access.Values,dY oF aj.Facts] (fun _:Unit=>(.bool R)) (fun _=>[]):=by
 refine Se 22 Tryz.func230 [.tmp 4] ?_
 intro H0 F0
 unfold ME at hF
 refine au ?_
 refine bB (fun k1=>?_)
 refine bB (fun k2=>?_)
 refine aV ?_
 refine fq (.t .h) (fun hp=>ko (s:=2) (l:=[(zi aa.Access.Method),ay.v]) FB.h xn.h.sz (.tmp rfl rfl) hp.2 rfl (by decide) (Nat.le_of_ble_eq_true rfl) rfl) ?_
 refine au ?_
 refine fq .h (fun hp=>ko (s:=2) (l:=[(zi aj.Access.Method),aR.v]) FB.h xn.h.sz (.tmp rfl rfl) hp.2 rfl (by decide) (Nat.le_of_ble_eq_true rfl) rfl) ?_
 refine bnd hF fun r3 hx4 hF=>aX (abh hx4) (fun _=>?_)
 refine aW ?_
 refine Ci hF (fun Zz hF=>?_) (fun Zz hF=>?_)
 · exact ze hF
 refine bf ?_
 refine bnd hF fun r6 hx7 hF=>aX (abz hx7) (fun _=>?_)
 refine aW ?_
 refine Ci hF (fun Gf hF=>?_) (fun Gf hF=>?_)
 · exact ze hF
 refine dK ?_
 refine Ci hF (fun v_ hF=>?_) (fun v_ hF=>?_)
 · exact ze hF
 exact ze hF
def H_(aj:List eH):List eH->Nat->Option (Bool)
 |[],k4=>some true
 |x6::ax,k4=>(ix aj (k4:Int)).bind fun gF=>
   (ME x6 gF).bind fun iJ=>
   if (!iJ)then (
     some false)
   else (
     H_ aj ax (k4+1))
def R_(aa:List eH)(aj:List eH):Option (Bool):=
 if (((aa.length:Int):Int)!=(aj.length:Int))then (
   some false)
 else (
   H_ aj aa 0)
theorem ai6{aa:List eH}{ae:Sv}{aj:List eH}{aC:Sv}{R:Bool}(hF:R_ aa aj=some R):
   Fw.Spec Tryz.prog 145 [ae.v,aC.v] [kv ae aa,kv aC aj] (fun _:Unit=>(.bool R)) (fun _=>[]):=by
 refine Se 27 Tryz.func145 [.tmp 4] ?_
 intro H0 F0
 unfold R_ at hF
 refine oC ?_
 refine Ci hF (fun lh hF=>?_) (fun lh hF=>?_)
 · exact ze hF
 refine aV ?_
 refine bn (bF (m:=aa.length) (fun m2 f' cs'=>∃(g:Fr)(k4:Nat)(ax:List eH),m2=ax.length/\f'=aM g [(0,ae.v),(1,aC.v),(5,(zi (k4:Int)))]/\List.drop k4 aa=ax/\aL cs' [kv ae aa,kv aC aj]/\H_ aj ax k4=some R) ⟨_,0,_,rfl,aA,rfl,az,hF⟩ ?_)
 rintro m2 _ _ ⟨g3,k4,ax,rfl,rfl,hd7,hE,hF⟩
 refine Kb hE aa (fun iK=>?_)
 rcases ax with _|⟨x6,ax⟩
 · have dM:=dn hd7
   rw[H_]at hF
   refine bf ?_
   refine bR ?_
   exact ze hF
 obtain⟨dM,bP,dL⟩:=bN hd7
 rw[H_]at hF
 refine bf ?_
 refine bQ ?_
 refine aW ?_
 refine dE [0,1,2,3,4,5,6,7,8,9] [0,0,3,7,0,0,48,112,255,511] [8] mixed (by decide+kernel) ?_
 refine bS ?_
 refine Di bP (fun k13 j6=>?_)
 refine OB (LG x6) RV (fun jd=>?_)
 refine bS ?_
 refine zI hF fun gF uj jq hF=>?_
 refine Di jq (fun k20 pF=>?_)
 refine OB (LG gF) RV (fun mq=>?_)
 refine bnd hF fun iJ hx24 hF=>dR (ajK hx24) (fun _=>?_)
 refine bS ?_
 refine Ci hF (fun mI hF=>?_) (fun mI hF=>?_)
 · exact ze hF
 refine aZ ?_
 rw[wk k4]
 exact⟨_,bG _,_,k4+1,ax,rfl,aA,dL,az,hF⟩
def M3(aa:Cache)(aj:Cache):Option (Bool):=
 (R_ aa.Entries aj.Entries).bind fun r3=>
 if (!r3)then (
   some false)
 else (
   if ((aa.Age:Int)!=aj.Age)then (
     some false)
   else (
     some true))
theorem aku{aa:Cache}{ae:Sv}{aj:Cache}{aC:Sv}{R:Bool}(hF:M3 aa aj=some R):
   Fw.Spec Tryz.prog 62 [(zg [ae.v,(zi aa.Age)]),(zg [aC.v,(zi aj.Age)])] [kv ae aa.Entries,kv aC aj.Entries] (fun _:Unit=>(.bool R)) (fun _=>[]):=by
 refine Se 16 Tryz.func62 [.tmp 4] ?_
 intro H0 F0
 unfold M3 at hF
 refine au ?_
 refine bB (fun k1=>?_)
 refine bB (fun k2=>?_)
 refine di ?_
 refine bnd hF fun r3 hx4 hF=>aX (ai6 hx4) (fun _=>?_)
 refine aW ?_
 refine Ci hF (fun qY hF=>?_) (fun qY hF=>?_)
 · exact ze hF
 refine dK ?_
 refine Ci hF (fun hb6 hF=>?_) (fun hb6 hF=>?_)
 · exact ze hF
 exact ze hF
def Ia(aj:List Access):List Access->Nat->Option (Bool)
 |[],k4=>some true
 |x6::ax,k4=>(ix aj (k4:Int)).bind fun gF=>
   (IW x6 gF).bind fun iJ=>
   if (!iJ)then (
     some false)
   else (
     Ia aj ax (k4+1))
def Sa(aa:List Access)(aj:List Access):Option (Bool):=
 if (((aa.length:Int):Int)!=(aj.length:Int))then (
   some false)
 else (
   Ia aj aa 0)
theorem ai7{aa:List Access}{ae:Sv}{aj:List Access}{aC:Sv}{R:Bool}(hF:Sa aa aj=some R):
   Fw.Spec Tryz.prog 63 [ae.v,aC.v] [ng ae aa,ng aC aj] (fun _:Unit=>(.bool R)) (fun _=>[]):=by
 refine Se 27 Tryz.func63 [.tmp 4] ?_
 intro H0 F0
 unfold Sa at hF
 refine oC ?_
 refine Ci hF (fun lh hF=>?_) (fun lh hF=>?_)
 · exact ze hF
 refine aV ?_
 refine bn (bF (m:=aa.length) (fun m2 f' cs'=>∃(g:Fr)(k4:Nat)(ax:List Access),m2=ax.length/\f'=aM g [(0,ae.v),(1,aC.v),(5,(zi (k4:Int)))]/\List.drop k4 aa=ax/\aL cs' [ng ae aa,ng aC aj]/\Ia aj ax k4=some R) ⟨_,0,_,rfl,aA,rfl,az,hF⟩ ?_)
 rintro m2 _ _ ⟨g3,k4,ax,rfl,rfl,hd7,hE,hF⟩
 refine Kb hE aa (fun iK=>?_)
 rcases ax with _|⟨x6,ax⟩
 · have dM:=dn hd7
   rw[Ia]at hF
   refine bf ?_
   refine bR ?_
   exact ze hF
 obtain⟨dM,bP,dL⟩:=bN hd7
 rw[Ia]at hF
 refine bf ?_
 refine bQ ?_
 refine aW ?_
 refine dE [0,1,2,3,4,5,6,7,8,9] [0,0,3,7,0,0,48,112,255,511] [8] mixed (by decide+kernel) ?_
 refine bS ?_
 refine Di bP (fun k13 j6=>?_)
 refine lc (LH x6) RX (fun jd=>?_)
 refine bS ?_
 refine zI hF fun gF uj jq hF=>?_
 refine Di jq (fun k20 pF=>?_)
 refine lc (LH gF) RX (fun mq=>?_)
 refine bnd hF fun iJ hx24 hF=>dR (abh hx24) (fun _=>?_)
 refine bS ?_
 refine Ci hF (fun mI hF=>?_) (fun mI hF=>?_)
 · exact ze hF
 refine aZ ?_
 rw[wk k4]
 exact⟨_,bG _,_,k4+1,ax,rfl,aA,dL,az,hF⟩
def Iu(aj:List (List Int)):List (List Int)->Nat->Option (Bool)
 |[],k4=>some true
 |x6::ax,k4=>(ix aj (k4:Int)).bind fun gF=>
   (tK x6 gF).bind fun iJ=>
   if (!iJ)then (
     some false)
   else (
     Iu aj ax (k4+1))
def SN(aa:List (List Int))(aj:List (List Int)):Option (Bool):=
 if (((aa.length:Int):Int)!=(aj.length:Int))then (
   some false)
 else (
   Iu aj aa 0)
theorem akv{aa:List (List Int)}{ae:Sv}{aj:List (List Int)}{aC:Sv}{R:Bool}(hF:SN aa aj=some R):
   Fw.Spec Tryz.prog 147 [ae.v,aC.v] [bK (aJ 22 (aJ 3 aK)) ae.v aa,bK (aJ 22 (aJ 3 aK)) aC.v aj] (fun _:Unit=>(.bool R)) (fun _=>[]):=by
 refine Se 27 Tryz.func147 [.tmp 4] ?_
 intro H0 F0
 unfold SN at hF
 refine oC ?_
 refine Ci hF (fun lh hF=>?_) (fun lh hF=>?_)
 · exact ze hF
 refine aV ?_
 refine bn (bF (m:=aa.length) (fun m2 f' cs'=>∃(g:Fr)(k4:Nat)(ax:List (List Int)),m2=ax.length/\f'=aM g [(0,ae.v),(1,aC.v),(5,(zi (k4:Int)))]/\List.drop k4 aa=ax/\aL cs' [bK (aJ 22 (aJ 3 aK)) ae.v aa,bK (aJ 22 (aJ 3 aK)) aC.v aj]/\Iu aj ax k4=some R) ⟨_,0,_,rfl,aA,rfl,az,hF⟩ ?_)
 rintro m2 _ _ ⟨g3,k4,ax,rfl,rfl,hd7,hE,hF⟩
 refine Kb hE aa (fun iK=>?_)
 rcases ax with _|⟨x6,ax⟩
 · have dM:=dn hd7
   rw[Iu]at hF
   refine bf ?_
   refine bR ?_
   exact ze hF
 obtain⟨dM,bP,dL⟩:=bN hd7
 rw[Iu]at hF
 refine bf ?_
 refine bQ ?_
 refine aW ?_
 refine dE [0,1,2,3,4,5,6,7,8,9] [0,0,3,7,0,0,48,112,255,511] [8] mixed (by decide+kernel) ?_
 refine bS ?_
 refine Di bP (fun k13 j6=>?_)
 refine uV (R':=(aJ 3 aK)) ji.h rfl .no (.tmp rfl rfl) rfl .h Js (fun w15=>?_)
 refine bS ?_
 refine zI hF fun gF uj jq hF=>?_
 refine Di jq (fun k20 pF=>?_)
 refine uV (R':=(aJ 3 aK)) ji.h rfl .no (.tmp rfl rfl) rfl .h Js (fun w22=>?_)
 refine bnd hF fun iJ hx24 hF=>dR (yB hx24) (fun _=>?_)
 refine bS ?_
 refine Ci hF (fun mI hF=>?_) (fun mI hF=>?_)
 · exact ze hF
 refine aZ ?_
 rw[wk k4]
 exact⟨_,bG _,_,k4+1,ax,rfl,aA,dL,az,hF⟩
def Ig(aj:List (List (List Int))):List (List (List Int))->Nat->Option (Bool)
 |[],k4=>some true
 |x6::ax,k4=>(ix aj (k4:Int)).bind fun gF=>
   (SN x6 gF).bind fun iJ=>
   if (!iJ)then (
     some false)
   else (
     Ig aj ax (k4+1))
def Sn(aa:List (List (List Int)))(aj:List (List (List Int))):Option (Bool):=
 if (((aa.length:Int):Int)!=(aj.length:Int))then (
   some false)
 else (
   Ig aj aa 0)
theorem ajL{aa:List (List (List Int))}{ae:Sv}{aj:List (List (List Int))}{aC:Sv}{R:Bool}(hF:Sn aa aj=some R):
   Fw.Spec Tryz.prog 64 [ae.v,aC.v] [bK (aJ 171 (aJ 22 (aJ 3 aK))) ae.v aa,bK (aJ 171 (aJ 22 (aJ 3 aK))) aC.v aj] (fun _:Unit=>(.bool R)) (fun _=>[]):=by
 refine Se 27 Tryz.func64 [.tmp 4] ?_
 intro H0 F0
 unfold Sn at hF
 refine oC ?_
 refine Ci hF (fun lh hF=>?_) (fun lh hF=>?_)
 · exact ze hF
 refine aV ?_
 refine bn (bF (m:=aa.length) (fun m2 f' cs'=>∃(g:Fr)(k4:Nat)(ax:List (List (List Int))),m2=ax.length/\f'=aM g [(0,ae.v),(1,aC.v),(5,(zi (k4:Int)))]/\List.drop k4 aa=ax/\aL cs' [bK (aJ 171 (aJ 22 (aJ 3 aK))) ae.v aa,bK (aJ 171 (aJ 22 (aJ 3 aK))) aC.v aj]/\Ig aj ax k4=some R) ⟨_,0,_,rfl,aA,rfl,az,hF⟩ ?_)
 rintro m2 _ _ ⟨g3,k4,ax,rfl,rfl,hd7,hE,hF⟩
 refine Kb hE aa (fun iK=>?_)
 rcases ax with _|⟨x6,ax⟩
 · have dM:=dn hd7
   rw[Ig]at hF
   refine bf ?_
   refine bR ?_
   exact ze hF
 obtain⟨dM,bP,dL⟩:=bN hd7
 rw[Ig]at hF
 refine bf ?_
 refine bQ ?_
 refine aW ?_
 refine dE [0,1,2,3,4,5,6,7,8,9] [0,0,3,7,0,0,48,112,255,511] [8] mixed (by decide+kernel) ?_
 refine bS ?_
 refine Di bP (fun k13 j6=>?_)
 refine uV (R':=(aJ 22 (aJ 3 aK))) TN.h rfl .no (.tmp rfl rfl) rfl .h Tj (fun w15=>?_)
 refine bS ?_
 refine zI hF fun gF uj jq hF=>?_
 refine Di jq (fun k20 pF=>?_)
 refine uV (R':=(aJ 22 (aJ 3 aK))) TN.h rfl .no (.tmp rfl rfl) rfl .h Tj (fun w22=>?_)
 refine bnd hF fun iJ hx24 hF=>dR (akv hx24) (fun _=>?_)
 refine bS ?_
 refine Ci hF (fun mI hF=>?_) (fun mI hF=>?_)
 · exact ze hF
 refine aZ ?_
 rw[wk k4]
 exact⟨_,bG _,_,k4+1,ax,rfl,aA,dL,az,hF⟩
def LD(aa:gV)(aj:gV):Option (Bool):=
 (tK aa.Schema aj.Schema).bind fun r3=>
 if (!r3)then (
   some false)
 else (
   (R9 aa.Methods aj.Methods).bind fun r6=>
   if (!r6)then (
     some false)
   else (
     (SK aa.Rules aj.Rules).bind fun r9=>
     if (!r9)then (
       some false)
     else (
       (MC aa.Source aj.Source).bind fun ig=>
       if (!ig)then (
         some false)
       else (
         (M3 aa.Cache aj.Cache).bind fun fI=>
         if (!fI)then (
           some false)
         else (
           if ((aa.Now:Int)!=aj.Now)then (
             some false)
           else (
             (Sa aa.Log aj.Log).bind fun sP=>
             if (!sP)then (
               some false)
             else (
               (tK aa.Times aj.Times).bind fun l5=>
               if (!l5)then (
                 some false)
               else (
                 if ((aa.Spent:Int)!=aj.Spent)then (
                   some false)
                 else (
                   (Sn aa.Results aj.Results).bind fun mR=>
                   if (!mR)then (
                     some false)
                   else (
                     some true))))))))))
theorem aiA{aa:gV}{ae ay dm gy iw iN iV jf:Sv}{aj:gV}{aC aR oF aaa aab agK agL ae9:Sv}{R:Bool}(hF:LD aa aj=some R):
   Fw.Spec Tryz.prog 22 [(zg [ae.v,ay.v,dm.v,gy.v,(zi aa.Source.Version),iw.v,(zi aa.Cache.Age),(zi aa.Now),iN.v,iV.v,(zi aa.Spent),jf.v]),(zg [aC.v,aR.v,oF.v,aaa.v,(zi aj.Source.Version),aab.v,(zi aj.Cache.Age),(zi aj.Now),agK.v,agL.v,(zi aj.Spent),ae9.v])] [ah ae aa.Schema,dD ay aa.Methods,lN dm aa.Rules,dY gy aa.Source.Facts,kv iw aa.Cache.Entries,ng iN aa.Log,ah iV aa.Times,bK (aJ 171 (aJ 22 (aJ 3 aK))) jf.v aa.Results,ah aC aj.Schema,dD aR aj.Methods,lN oF aj.Rules,dY aaa aj.Source.Facts,kv aab aj.Cache.Entries,ng agK aj.Log,ah agL aj.Times,bK (aJ 171 (aJ 22 (aJ 3 aK))) ae9.v aj.Results] (fun _:Unit=>(.bool R)) (fun _=>[]):=by
 refine Se 63 Tryz.func22 [.tmp 4] ?_
 intro H0 F0
 unfold LD at hF
 refine au ?_
 refine bB (fun k1=>?_)
 refine bB (fun k2=>?_)
 refine di ?_
 refine bnd hF fun r3 hx4 hF=>aX (yB hx4) (fun _=>?_)
 refine aW ?_
 refine Ci hF (fun YP hF=>?_) (fun YP hF=>?_)
 · exact ze hF
 refine bf ?_
 refine bnd hF fun r6 hx7 hF=>aX (ai5 hx7) (fun _=>?_)
 refine aW ?_
 refine Ci hF (fun awm hF=>?_) (fun awm hF=>?_)
 · exact ze hF
 refine bf ?_
 refine bnd hF fun r9 eX hF=>aX (akt eX) (fun _=>?_)
 refine aW ?_
 refine Ci hF (fun awn hF=>?_) (fun awn hF=>?_)
 · exact ze hF
 refine aU ?_
 refine fq (.t .h) (fun hp=>ko (s:=2) (l:=[gy.v,(zi aa.Source.Version)]) Ug.h Uf.h.sz (.tmp rfl rfl) hp.2 rfl (by decide) (Nat.le_of_ble_eq_true rfl) rfl) ?_
 refine au ?_
 refine fq .h (fun hp=>ko (s:=2) (l:=[aaa.v,(zi aj.Source.Version)]) Ug.h Uf.h.sz (.tmp rfl rfl) hp.2 rfl (by decide) (Nat.le_of_ble_eq_true rfl) rfl) ?_
 refine bnd hF fun ig jr hF=>aX (ajJ jr) (fun _=>?_)
 refine aW ?_
 refine Ci hF (fun OG hF=>?_) (fun OG hF=>?_)
 · exact ze hF
 refine aU ?_
 refine fq (.t .h) (fun hp=>ko (s:=2) (l:=[iw.v,(zi aa.Cache.Age)]) Ui.h Uh.h.sz (.tmp rfl rfl) hp.2 rfl (by decide) (Nat.le_of_ble_eq_true rfl) rfl) ?_
 refine au ?_
 refine fq .h (fun hp=>ko (s:=2) (l:=[aab.v,(zi aj.Cache.Age)]) Ui.h Uh.h.sz (.tmp rfl rfl) hp.2 rfl (by decide) (Nat.le_of_ble_eq_true rfl) rfl) ?_
 refine bnd hF fun fI hx16 hF=>aX (aku hx16) (fun _=>?_)
 refine aW ?_
 refine Ci hF (fun FU hF=>?_) (fun FU hF=>?_)
 · exact ze hF
 refine dK ?_
 refine Ci hF (fun zU hF=>?_) (fun zU hF=>?_)
 · exact ze hF
 refine bf ?_
 refine bnd hF fun sP jq hF=>aX (ai7 jq) (fun _=>?_)
 refine aW ?_
 refine Ci hF (fun o_ hF=>?_) (fun o_ hF=>?_)
 · exact ze hF
 refine bf ?_
 refine bnd hF fun l5 sJ hF=>aX (yB sJ) (fun _=>?_)
 refine aW ?_
 refine Ci hF (fun zV hF=>?_) (fun zV hF=>?_)
 · exact ze hF
 refine dK ?_
 refine Ci hF (fun lh hF=>?_) (fun lh hF=>?_)
 · exact ze hF
 refine bf ?_
 refine bnd hF fun mR hx25 hF=>aX (ajL hx25) (fun _=>?_)
 refine aW ?_
 refine Ci hF (fun mI hF=>?_) (fun mI hF=>?_)
 · exact ze hF
 exact ze hF
def Ny(aa:Atom)(aj:Atom):Option (Bool):=
 if ((aa.Rel:Int)!=aj.Rel)then (
   some false)
 else (
   (tK aa.Terms aj.Terms).bind fun r3=>
   if (!r3)then (
     some false)
   else (
     some true))
theorem ala{aa:Atom}{ay:Sv}{aj:Atom}{aR:Sv}{R:Bool}(hF:Ny aa aj=some R):
   Fw.Spec Tryz.prog 110 [(zg [(zi aa.Rel),ay.v]),(zg [(zi aj.Rel),aR.v])] [ah ay aa.Terms,ah aR aj.Terms] (fun _:Unit=>(.bool R)) (fun _=>[]):=by
 refine Se 16 Tryz.func110 [.tmp 4] ?_
 intro H0 F0
 unfold Ny at hF
 refine au ?_
 refine bB (fun k1=>?_)
 refine bB (fun k2=>?_)
 refine iU ?_
 refine Ci hF (fun qY hF=>?_) (fun qY hF=>?_)
 · exact ze hF
 refine bf ?_
 refine bnd hF fun r3 hx4 hF=>aX (yB hx4) (fun _=>?_)
 refine aW ?_
 refine Ci hF (fun hb6 hF=>?_) (fun hb6 hF=>?_)
 · exact ze hF
 exact ze hF
def Iw(aj:List Atom):List Atom->Nat->Option (Bool)
 |[],k4=>some true
 |x6::ax,k4=>(ix aj (k4:Int)).bind fun gF=>
   (Ny x6 gF).bind fun iJ=>
   if (!iJ)then (
     some false)
   else (
     Iw aj ax (k4+1))
def SQ(aa:List Atom)(aj:List Atom):Option (Bool):=
 if (((aa.length:Int):Int)!=(aj.length:Int))then (
   some false)
 else (
   Iw aj aa 0)
theorem akw{aa:List Atom}{ae:Sv}{aj:List Atom}{aC:Sv}{R:Bool}(hF:SQ aa aj=some R):
   Fw.Spec Tryz.prog 46 [ae.v,aC.v] [bH ae aa,bH aC aj] (fun _:Unit=>(.bool R)) (fun _=>[]):=by
 refine Se 27 Tryz.func46 [.tmp 4] ?_
 intro H0 F0
 unfold SQ at hF
 refine oC ?_
 refine Ci hF (fun lh hF=>?_) (fun lh hF=>?_)
 · exact ze hF
 refine aV ?_
 refine bn (bF (m:=aa.length) (fun m2 f' cs'=>∃(g:Fr)(k4:Nat)(ax:List Atom),m2=ax.length/\f'=aM g [(0,ae.v),(1,aC.v),(5,(zi (k4:Int)))]/\List.drop k4 aa=ax/\aL cs' [bH ae aa,bH aC aj]/\Iw aj ax k4=some R) ⟨_,0,_,rfl,aA,rfl,az,hF⟩ ?_)
 rintro m2 _ _ ⟨g3,k4,ax,rfl,rfl,hd7,hE,hF⟩
 refine Kb hE aa (fun iK=>?_)
 rcases ax with _|⟨x6,ax⟩
 · have dM:=dn hd7
   rw[Iw]at hF
   refine bf ?_
   refine bR ?_
   exact ze hF
 obtain⟨dM,bP,dL⟩:=bN hd7
 rw[Iw]at hF
 refine bf ?_
 refine bQ ?_
 refine aW ?_
 refine dE [0,1,2,3,4,5,6,7,8,9] [0,0,3,7,0,0,48,112,255,511] [8] mixed (by decide+kernel) ?_
 refine bS ?_
 refine Di bP (fun k13 j6=>?_)
 refine lc (oV x6) pO (fun jd=>?_)
 refine bS ?_
 refine zI hF fun gF uj jq hF=>?_
 refine Di jq (fun k20 pF=>?_)
 refine lc (oV gF) pO (fun mq=>?_)
 refine bnd hF fun iJ hx24 hF=>dR (ala hx24) (fun _=>?_)
 refine bS ?_
 refine Ci hF (fun mI hF=>?_) (fun mI hF=>?_)
 · exact ze hF
 refine aZ ?_
 rw[wk k4]
 exact⟨_,bG _,_,k4+1,ax,rfl,aA,dL,az,hF⟩
def M4(aa:Query)(aj:Query):Option (Bool):=
 (tK aa.Head aj.Head).bind fun r3=>
 if (!r3)then (
   some false)
 else (
   (SQ aa.Atoms aj.Atoms).bind fun r6=>
   if (!r6)then (
     some false)
   else (
     some true))
theorem akx{aa:Query}{ae ay:Sv}{aj:Query}{aC aR:Sv}{R:Bool}(hF:M4 aa aj=some R):
   Fw.Spec Tryz.prog 17 [(zg [ae.v,ay.v]),(zg [aC.v,aR.v])] [ah ae aa.Head,bH ay aa.Atoms,ah aC aj.Head,bH aR aj.Atoms] (fun _:Unit=>(.bool R)) (fun _=>[]):=by
 refine Se 17 Tryz.func17 [.tmp 4] ?_
 intro H0 F0
 unfold M4 at hF
 refine au ?_
 refine bB (fun k1=>?_)
 refine bB (fun k2=>?_)
 refine di ?_
 refine bnd hF fun r3 hx4 hF=>aX (yB hx4) (fun _=>?_)
 refine aW ?_
 refine Ci hF (fun Gf hF=>?_) (fun Gf hF=>?_)
 · exact ze hF
 refine bf ?_
 refine bnd hF fun r6 hx7 hF=>aX (akw hx7) (fun _=>?_)
 refine aW ?_
 refine Ci hF (fun v_ hF=>?_) (fun v_ hF=>?_)
 · exact ze hF
 exact ze hF
def Rt(fuel:Nat)(oK:gV)(C_:Query):Option (Bool):=
 (Ll oK 1048576).bind fun r3=>
 if (decide ((r3:Int)<0))then (
   some true)
 else (
   (MM C_ r3).bind fun r6=>
   if (decide ((r6:Int)<0))then (
     some true)
   else (
     (El oK).bind fun r9=>
     (EK C_).bind fun ig=>
     (Ml fuel r9 ig).bind fun fI=>
     (El oK).bind fun sP=>
     (EK C_).bind fun gH=>
     (Mx fuel sP gH).bind fun xV=>
     if (!(xV==fI))then (
       some false)
     else (
       (El oK).bind fun QY=>
       (LD sP QY).bind fun r32=>
       if (!r32)then (
         some false)
       else (
         (EK C_).bind fun xX=>
         (M4 gH xX).bind fun sS=>
         if (!sS)then (
           some false)
         else (
           some true)))))
theorem ahG{fuel:Nat}{oK:gV}{ae ay dm gy iw iN iV jf:Sv}{C_:Query}{aC aR:Sv}{R:Bool}(hF:Rt fuel oK C_=some R):
   Fw.Spec Tryz.prog 4 [(zg [ae.v,ay.v,dm.v,gy.v,(zi oK.Source.Version),iw.v,(zi oK.Cache.Age),(zi oK.Now),iN.v,iV.v,(zi oK.Spent),jf.v]),(zg [aC.v,aR.v])] [ah ae oK.Schema,FR ay oK.Methods,FT dm oK.Rules,uX gy oK.Source.Facts,zP iw oK.Cache.Entries,FH iN oK.Log,ah iV oK.Times,bK (aJ 171 (aJ 22 (aJ 3 aK))) jf.v oK.Results,ah aC C_.Head,FE aR C_.Atoms] (fun _:Unit=>(.bool R)) (fun _=>[]):=by
 refine Se 45 Tryz.func4 [.tmp 4] ?_
 intro H0 F0
 unfold Rt at hF
 refine au ?_
 refine bB (fun k1=>?_)
 refine bB (fun k2=>?_)
 refine di ?_
 refine bnd hF fun r3 hx4 hF=>aX (aio hx4) (fun _=>?_)
 refine bf ?_
 refine Ci hF (fun awo hF=>?_) (fun awo hF=>?_)
 · exact ze hF
 refine aU ?_
 refine bnd hF fun r6 hx7 hF=>aX (akd hx7) (fun _=>?_)
 refine bf ?_
 refine Ci hF (fun zY hF=>?_) (fun zY hF=>?_)
 · exact ze hF
 refine au ?_
 refine dE [0,2,1,3,4,5] [0,1,0,7,15,31] [1,3,4] mixed (by decide+kernel) ?_
 refine bS ?_
 refine bnd hF fun r9 eX hF=>Dx8 (V6 eX) (fun p11=>?_)
 refine bnd hF fun ig jr hF=>Dx2 (Wn jr) (fun Dq=>?_)
 refine bnd hF fun fI hx16 hF=>anh rfl rfl .no (.cons (.t .h) (.cons .h (.cons .q7 (.cons .q6 (.cons .q5 (.cons .q4 (.cons .q3 (.cons .q2 (.cons (.t .h) (.cons .h .nil)))))))))) .nil (fun ha=>mV (pre:=[]) (.cons bU (.cons bU (.cons bU (.cons bU (.cons bU (.cons bU (.cons bU (.cons bU (.cons bU (.cons bU .nil)))))))))) (fun _=>.nil) (dB atU.h (.cons (EN ha (.tmp rfl rfl) rfl) (.cons (EN ha (.tmp rfl rfl) rfl) .nil)) (ajx hx16))) (fun _=>?_)
 refine bS ?_
 refine aW ?_
 refine bnd hF fun sP jq hF=>Cx8 (V6 jq) (fun wE=>?_)
 refine dH (fun k21=>?_)
 refine As (zg [wE.1.v,wE.2.2.1.v,wE.2.2.2.2.1.v,wE.2.2.2.2.2.2.1.v,(zi sP.Source.Version),wE.2.2.2.2.2.2.2.2.1.v,(zi sP.Cache.Age),(zi sP.Now),wE.2.2.2.2.2.2.2.2.2.2.1.v,wE.2.2.2.2.2.2.2.2.2.2.2.2.1.v,(zi sP.Spent),wE.2.2.2.2.2.2.2.2.2.2.2.2.2.2.1.v]) ?_
 refine bq ?_
 refine bnd hF fun gH mK hF=>Dg (Wn mK) (fun iA=>?_)
 refine dH (fun k25=>?_)
 refine As (zg [iA.1.v,iA.2.2.1.v]) ?_
 refine aU ?_
 refine bnd hF fun xV hx27 hF=>apy (.cons .q2 (.cons (.t .h) (.cons .q9 (.cons .q8 (.cons .q7 (.cons .q6 (.cons .q5 (.cons .q4 (.cons .q3 (.cons .q2 .nil)))))))))) (mV (pre:=[]) (.cons bU (.cons bU (.cons bU (.cons bU (.cons bU (.cons bU (.cons bU (.cons bU (.cons bU (.cons bU .nil)))))))))) (fun _=>.nil) (dB at6.h bZ (ajH hx27))) (fun _=>?_)
 refine aZ ?_
 refine aI (api (s:=xV) (t:=fI) (.tmp rfl rfl) (.tmp rfl rfl)) ?_
 refine au ?_
 refine Ci hF (fun YM hF=>?_) (fun YM hF=>?_)
 · exact ze hF
 refine aW ?_
 refine dE [0,1,2,3,4] [0,0,2,7,15] [2,3] mixed (by decide+kernel) ?_
 refine fA rfl .no .q11 (fun ha hp=>lC atS.h afp.h.sz rfl (EN ha (.tmp rfl rfl) rfl) hp.2 rfl) ?_
 refine du ?_
 refine bnd hF fun QY OT hF=>adU rfl rfl .no (.rd (.t (.t (.t (.t (.t (.t (.t (.t (.t (.t (.t (.t (.t (.t (.t (.t (.t (.t (.t (.t (.t (.t (.t (.t .h)))))))))))))))))))))))) rfl (.rd (.t (.t (.t (.t (.t (.t (.t (.t (.t (.t (.t (.t (.t (.t (.t (.t (.t (.t (.t (.t (.t (.t (.t (.t (.t .h))))))))))))))))))))))))) rfl (.rd (.t (.t (.t (.t (.t (.t (.t (.t (.t (.t (.t (.t (.t (.t (.t (.t (.t (.t (.t (.t (.t (.t (.t (.t (.t (.t .h)))))))))))))))))))))))))) rfl (.rd (.t (.t (.t (.t (.t (.t (.t (.t (.t (.t (.t (.t (.t (.t (.t (.t (.t (.t (.t (.t (.t (.t (.t (.t (.t (.t (.t .h))))))))))))))))))))))))))) rfl (.rd (.t (.t (.t (.t (.t (.t (.t (.t (.t (.t (.t (.t (.t (.t (.t (.t (.t (.t (.t (.t (.t (.t (.t (.t (.t (.t (.t (.t .h)))))))))))))))))))))))))))) rfl (.rd (.t (.t (.t (.t (.t (.t (.t (.t (.t (.t (.t (.t (.t (.t (.t (.t (.t (.t (.t (.t (.t (.t (.t (.t (.t (.t (.t (.t (.t .h))))))))))))))))))))))))))))) rfl (.rd (.t (.t (.t (.t (.t (.t (.t (.t (.t (.t (.t (.t (.t (.t (.t (.t (.t (.t (.t (.t (.t (.t (.t (.t (.t (.t (.t (.t (.t (.t .h)))))))))))))))))))))))))))))) rfl (.rd (.t (.t (.t (.t (.t (.t (.t (.t (.t (.t (.t (.t (.t (.t (.t (.t (.t (.t (.t (.t (.t (.t (.t (.t (.t (.t (.t (.t (.t (.t (.t .h))))))))))))))))))))))))))))))) rfl .nil)))))))) (.own .q11 (fun _ h=>h) .nil) (fun ha=>dB atN.h (.cons (EN ha (.tmp rfl rfl) rfl) .nil) (V6 OT)) (fun p31=>?_)
 refine bnd hF fun r32 vz hF=>ani rfl rfl .no (.cons .q7 (.cons .q6 (.cons .q5 (.cons .q4 (.cons .q3 (.cons .q2 (.cons (.t .h) (.cons .h (.cons .q2 (.cons .q2 (.cons .q2 (.cons .q2 (.cons .q2 (.cons .q2 (.cons .q2 (.cons .q2 .nil)))))))))))))))) (.dep rfl .nil) (fun ha=>mV (pre:=[]) (.cons bU (.cons bU (.cons bU (.cons bU (.cons bU (.cons bU (.cons bU (.cons bU (.cons bU (.cons bU (.cons bU (.cons bU (.cons bU (.cons bU (.cons bU (.cons bU .nil)))))))))))))))) (fun _=>.nil) (dB aue.h (.cons (EN ha (.tmp rfl rfl) rfl) (.cons (EN ha (.tmp rfl rfl) rfl) .nil)) (aiA vz))) (fun _=>?_)
 refine bS ?_
 refine Ci hF (fun OV hF=>?_) (fun OV hF=>?_)
 · exact ze hF
 refine aW ?_
 refine dE [0,1,2,3,4] [0,0,2,7,15] [2,3] mixed (by decide+kernel) ?_
 refine fA rfl .no (.t (.t (.t (.t (.t (.t (.t (.t (.t (.t (.t (.t (.t (.t (.t (.t (.t (.t .h)))))))))))))))))) (fun ha hp=>lC Ul.h rJ.h.sz rfl (EN ha (.tmp rfl rfl) rfl) hp.2 rfl) ?_
 refine du ?_
 refine bnd hF fun xX uk hF=>uS rfl rfl .no (.rd (.t (.t (.t (.t (.t (.t (.t (.t (.t (.t (.t (.t (.t (.t (.t (.t (.t (.t (.t (.t (.t (.t (.t (.t (.t (.t (.t (.t (.t (.t (.t (.t (.t (.t (.t (.t (.t (.t (.t (.t .h)))))))))))))))))))))))))))))))))))))))) rfl (.rd (.t (.t (.t (.t (.t (.t (.t (.t (.t (.t (.t (.t (.t (.t (.t (.t (.t (.t (.t (.t (.t (.t (.t (.t (.t (.t (.t (.t (.t (.t (.t (.t (.t (.t (.t (.t (.t (.t (.t (.t (.t .h))))))))))))))))))))))))))))))))))))))))) rfl .nil)) (.own (.t (.t (.t (.t (.t (.t (.t (.t (.t (.t (.t (.t (.t (.t (.t (.t (.t (.t .h)))))))))))))))))) (fun _ h=>h) .nil) (fun ha=>dB atT.h (.cons (EN ha (.tmp rfl rfl) rfl) .nil) (Wn uk)) (fun p37=>?_)
 refine bnd hF fun sS hx39 hF=>NE rfl rfl .no (.cons (.t .h) (.cons .h (.cons (.t (.t (.t (.t (.t (.t (.t (.t (.t (.t (.t (.t (.t (.t (.t (.t .h)))))))))))))))) (.cons (.t (.t (.t (.t (.t (.t (.t (.t (.t (.t (.t (.t (.t (.t (.t (.t .h)))))))))))))))) .nil)))) (.dep rfl .nil) (fun ha=>mV (pre:=[]) (.cons bU (.cons bU (.cons bU (.cons bU .nil)))) (fun _=>.nil) (dB auf.h (.cons (EN ha (.tmp rfl rfl) rfl) (.cons (EN ha (.tmp rfl rfl) rfl) .nil)) (akx hx39))) (fun _=>?_)
 refine bS ?_
 refine Ci hF (fun OW hF=>?_) (fun OW hF=>?_)
 · exact ze hF
 exact ze hF
end Go.Proofs.YtdmapdjncfkhhaaGreatDoor
