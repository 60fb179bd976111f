/-
  Functions of the program as Lean functions, and that the calls return what these say: part 4. No conditions.
-/
import Derived.Shelf.Sort.Plain
import Derived.Shelf.Slices.In.SortNone
import Derived.Shelf.Slices.CompactI
import Derived.Test.YtgcphpodckldbaaGreatFqG2
import Derived.KernelRfl
set_option maxRecDepth 100000
set_option maxHeartbeats 1000000
set_option linter.unusedVariables false
namespace Go.Proofs.YtgcphpodckldbaaGreat
open Go Go.Fw

def GX(ae:List Int)(ai:aO)(bA:List Fact):Option ((List (List Int))):=
 ((vT ae ai).bind fun r4=>
   bif (!r4)then (some true)
   else ((zX ae bA).bind fun r8=>
     some (!r8))).bind fun o2=>
 match o2 with
 |c11=>if c11 then (
     some ([]:List (List Int)))
   else (
     (KP ai bA).bind fun fC=>
     (UO ai fC).bind fun r16=>
     some r16)
theorem Yz{ae:List Int}{aa:Sv}{ai:aO}{ak aU:Sv}{bA:List Fact}{bu:Sv}{R:(List (List Int))}(hF:GX ae ai bA=some R):
   Fw.Spec Tryz.prog 13 [aa.v,(zg [ak.v,aU.v]),bu.v] [ah aa ae,ah ak ai.Head,bX aU ai.Atoms,cz bu bA] (fun p:Sv×List Nat=>p.1.v) (fun p=>[aJ (az 24 (az 3 (aj ax))) p.2 p.1.v R]):=by
 refine Se 23 Tryz.func13 [.tmp 6] ?_
 intro H0 F0
 unfold GX at hF
 refine au ?_
 refine bW (fun k1=>?_)
 refine aZ ?_
 obtain⟨o2,kX,hO3⟩:=bind_some hF
 refine au ?_
 refine gB (fun f' cs'=>∃(c11:Bool)(g:Fr),c11=o2/\f'=aR g [(2,bu.v),(4,(pz k1)),(16,(.bool c11))]/\aP cs' [cz bu bA,a_ k1 28 (zg [ak.v,aU.v]),ah ak ai.Head,bX aU ai.Atoms]) ?_ ?_
 · replace hF:=kX
   refine aT ?_
   refine bnd hF fun r4 hx5 hF=>bR (KN hx5) (fun _=>?_)
   refine aT ?_
   rcases df (!r4)with ek|ek
   · rw[ek]
     try rw[ek]at hF; dsimp only[aY,aX]at hF
     exact cK hF
   rw[ek]
   try rw[ek]at hF; dsimp only[aY,aX]at hF
   refine bf ?_
   refine bnd hF fun r8 dm hF=>bR (KF dm) (fun _=>?_)
   exact cK hF
 rintro _ _ ⟨c11,g20,rfl,rfl,hE⟩
 replace hF:=hO3
 try dsimp only at hF
 refine bM hE ?_
 refine Ci hF (fun qK hF=>?_) (fun qK hF=>?_)
 · refine au ?_
   refine b_ rfl (bI (g:=true) gJ.h fB.h .nil (vs:=[]) rfl rfl rfl (by simp)) (fun k12=>?_)
   refine dh (.cons .h .nil) (bK (Ro:=(az 3 (aj ax))) (E:=24) (F:=[]) (xs:=([]:List (List Int))) bJ rfl rfl) ?_
   refine aZ ?_
   cases hF
   exact Er (⟨(some ⟨k12,0,none⟩),0,1⟩,(k12::[]))
 refine au ?_
 refine dM [0,1,2,3,4,5] [0,0,0,6,15,31] [3,4] mixed (by decide+kernel) ?_
 refine fw ?_
 refine bnd hF fun fC fQ hF=>kZ (ad3 fQ) (fun gT=>?_)
 refine bnd hF fun r16 jy hF=>lq rfl rfl .no (.cons .h (.rd .q2 rfl (.rd .q3 rfl .nil))) .nil (fun ha=>eY bi (fun _=>(.cons .nil)) (fM (.rd (.t .h) rfl (.rd .q2 rfl (.rd .h rfl .nil))) (bP axW.h (.cons (EN ha (.tmp rfl rfl) rfl) (.cons (EN ha (.tmp rfl rfl) rfl) .nil)) (an4 jy)))) (fun rU=>?_)
 refine bV ?_
 refine au ?_
 cases hF
 exact Er (rU.1,rU.2)
def FP(aI:List (List Int)):List (List Int)->Nat->Option (Bool)
 |[],k4=>some true
 |x6::aG,k4=>(ix aI (k4:Int)).bind fun qa=>
   (uP x6 qa).bind fun n_=>
   if (!n_)then (
     some false)
   else (
     FP aI aG (k4+1))
def N9(ay:List (List Int))(aI:List (List Int)):Option (Bool):=
 if (((ay.length:Int):Int)!=(aI.length:Int))then (
   some false)
 else (
   FP aI ay 0)
theorem ad5{ay:List (List Int)}{aa:Sv}{aI:List (List Int)}{ak:Sv}{R:Bool}(hF:N9 ay aI=some R):
   Fw.Spec Tryz.prog 14 [aa.v,ak.v] [bT (aW 24 (aW 3 ax)) aa.v ay,bT (aW 24 (aW 3 ax)) ak.v aI] (fun _:Unit=>(.bool R)) (fun _=>[]):=by
 refine Se 27 Tryz.func14 [.tmp 4] ?_
 intro H0 F0
 unfold N9 at hF
 refine v_ ?_
 refine Ci hF (fun xN hF=>?_) (fun xN hF=>?_)
 · exact ze hF
 refine bf ?_
 refine bn (bU (m:=ay.length) (fun m2 f' cs'=>∃(g:Fr)(k4:Nat)(aG:List (List Int)),m2=aG.length/\f'=aR g [(0,aa.v),(1,ak.v),(5,(zi (k4:Int)))]/\List.drop k4 ay=aG/\aP cs' [bT (aW 24 (aW 3 ax)) aa.v ay,bT (aW 24 (aW 3 ax)) ak.v aI]/\FP aI aG k4=some R) ⟨_,0,_,rfl,aB,rfl,aA,hF⟩ ?_)
 rintro m2 _ _ ⟨g3,k4,aG,rfl,rfl,hd7,hE,hF⟩
 refine Kb hE ay (fun jL=>?_)
 rcases aG with _|⟨x6,aG⟩
 · have fG:=dn hd7
   rw[FP]at hF
   refine bQ ?_
   refine dE ?_
   exact ze hF
 obtain⟨fG,dm,fF⟩:=dA hd7
 rw[FP]at hF
 refine bQ ?_
 refine dD ?_
 refine aT ?_
 refine dM [0,1,2,3,4,5,6,7,8,9] [0,0,3,7,0,0,48,112,255,511] [8] mixed (by decide+kernel) ?_
 refine bV ?_
 refine Di dm (fun k13 lc=>?_)
 refine qG (R':=(aW 3 ax)) fT.h rfl .no (.tmp rfl rfl) rfl .h rC (fun XV=>?_)
 refine bV ?_
 refine zI hF fun qa Rk kC hF=>?_
 refine Di kC (fun k20 zt=>?_)
 refine qG (R':=(aW 3 ax)) fT.h rfl .no (.tmp rfl rfl) rfl .h rC (fun w22=>?_)
 refine bnd hF fun n_ hx24 hF=>jB (Dz hx24) (fun _=>?_)
 refine bV ?_
 refine Ci hF (fun BM hF=>?_) (fun BM hF=>?_)
 · exact ze hF
 refine bG ?_
 rw[wk k4]
 exact⟨_,bY _,_,k4+1,aG,rfl,aB,fF,aA,hF⟩
def FQ(r3:(List Int)):Nat->(List Int)->Int->Option ((List Int))
 |0,_,_=>none
 |m10+1,c6,c9=>if (decide ((c9:Int)<(r3.length:Int)))then (
     ((ix r3 c9).bind fun vJ=>
       (DY vJ).bind fun tL=>
       if tL then (
         (app c6 ([vJ]:List Int)).bind fun z31=>
         some z31)
       else (
         some c6)).bind fun iD=>
     match iD with
     |tH=>FQ r3 m10 tH (IntKind.i64.wrap (c9+1)))
   else (
     (Fu c6).bind fun jR=>
     (Fq jR).bind fun mW=>
     some mW)
def Gx(ag:List Int)(LP:List Int):Option ((List Int)):=
 (Ko ([ag,LP]:List (List Int))).bind fun r3=>
 FQ r3 (((r3.length:Int)-0).toNat+2) ([]:List Int) 0
theorem ad6{ag:List Int}{aa:Sv}{LP:List Int}{ak:Sv}{R:(List Int)}(hF:Gx ag LP=some R):
   Fw.Spec Tryz.prog 163 [aa.v,ak.v] [ah aa ag,ah ak LP] (fun p:Sv×List Nat=>p.1.v) (fun p=>[bv p.2 p.1 R]):=by
 refine Se 29 Tryz.func163 [.tmp 4] ?_
 intro H0 F0
 unfold Gx at hF
 refine aL ?_
 refine b_ rfl (bI (g:=true) bH.h bC.h .nil (vs:=[]) rfl rfl rfl (by simp)) (fun k1=>?_)
 refine dh (.cons .h .nil) (bK (Ro:=(aj ax)) (E:=3) (F:=[]) (xs:=([]:List Int)) bJ rfl rfl) ?_
 refine bG ?_
 refine b_ rfl (bI (g:=true) gJ.h fB.h bz (vs:=[aa.v,ak.v]) rfl rfl rfl (by intro v hv; simp at hv; rcases hv with rfl|rfl<;>rfl)) (fun k2=>?_)
 refine dh (.cons .h (.rd (.t .h) rfl (.rd .q2 rfl .nil))) (bK (Ro:=(aj (aW 3 ax))) (E:=24) (F:=([]++([]++[]))) (xs:=([ag,LP]:List (List Int))) (bS VG (bS VG bJ bB) bB) rfl rfl) ?_
 refine bnd hF fun r3 hx4 hF=>jM (.cons .h .nil) (eY bi (fun _=>(.cons .nil)) (bP ajv.h bz (@ada ([ag,LP]:List (List Int)) (⟨(some ⟨k2,0,none⟩),2,1⟩) _ hx4))) (fun p5=>?_)
 refine aZ ?_
 refine bn (bU (m:=(((r3.length:Int)-0).toNat+2)) (fun m10 f' cs'=>∃(g:Fr)(c6:List Int)(c9:Int)(v7:Sv)(F8:List Nat),f'=aR g [(5,v7.v),(12,p5.1.v),(13,(zi (r3.length:Int))),(14,(zi c9))]/\aP cs' [bv F8 v7 c6,bv p5.2 p5.1 r3]/\FQ r3 m10 c6 c9=some R) ⟨_,_,_,⟨(some ⟨k1,0,none⟩),0,1⟩,(k1::[]),aB,aA,hF⟩ ?_)
 rintro m10 _ _ ⟨g11,c6,c9,v7,F8,rfl,hE,hF⟩
 refine bM hE ?_
 rcases m10 with _|m10
 · rw[FQ]at hF
   exact absurd hF (by simp)
 rw[FQ]at hF
 refine aL ?_
 refine Ci hF (fun azG hF=>?_) (fun azG hF=>?_)
 · refine au ?_
   obtain⟨iD,pg,pK⟩:=bind_some hF
   refine gN (fun f' cs'=>∃(tH:List Int)(v36:Sv)(F37:List Nat)(g:Fr),tH=iD/\f'=aR g [(5,v36.v),(12,p5.1.v),(13,(zi (r3.length:Int))),(14,(zi c9))]/\aP cs' [bv F37 v36 tH,bv p5.2 p5.1 r3]) ?_ ?_
   · replace hF:=pg
     refine bn (cB ?_)
     refine bnd hF fun vJ hx24 hF=>?_
     have hi22:=tZ hx24
     obtain⟨aj6,jP⟩:=qf hx24
     refine rA bH.h bC.h.sz (.tmp rfl rfl) (.tmp rfl rfl) (.t .h) hi22 (fun k20 Rh=>?_)
     refine Ij (w:=(zi vJ)) oI.h (.tmp rfl rfl) (.t .h) Rh jP Qa ?_
     refine aL ?_
     refine bnd hF fun tL hx28 hF=>bR (NV hx28) (fun _=>?_)
     refine au ?_
     refine Ci hF (fun Q4 hF=>?_) (fun Q4 hF=>?_)
     · refine aZ ?_
       refine b_ rfl (bI (g:=true) bH.h bC.h bz (vs:=[(zi vJ)]) rfl rfl rfl (by intro v hv; simp at hv; rcases hv with rfl<;>rfl)) (fun vL=>?_)
       refine dh (.cons .h .nil) (bK (Ro:=(aj ax)) (E:=3) (F:=([]++[])) (xs:=([vJ]:List Int)) (bS (dK (fun _=>rfl)) bJ bB) rfl rfl) ?_
       refine bnd hF fun z31 hx32 hF=>dC (.cons (.t .h) (.cons .h .nil)) (dL (Ro:=(aj ax)) bH.h gL bC.h rfl rfl rfl (.tmp rfl rfl) (.tmp rfl rfl) hx32 eX) (fun p33=>?_)
       refine aT ?_
       cases hF
       exact⟨_,p33.1,p33.2,_,rfl,aB,aA⟩
     refine au ?_
     cases hF
     exact⟨_,v7,F8,_,rfl,aB,aA⟩
   rintro _ _ ⟨tH,v36,F37,g38,rfl,rfl,hE⟩
   replace hF:=pK
   try dsimp only at hF
   refine bM hE ?_
   refine aL ?_
   exact⟨m10,bY _,_,_,_,v36,F37,aB,aA,hF⟩
 refine bG ?_
 refine bnd hF fun jR sH hF=>dW (Yf sH) (fun p41=>?_)
 refine aZ ?_
 refine bnd hF fun mW oD hF=>dW (Ye oD) (fun p44=>?_)
 refine aZ ?_
 cases hF
 exact Er (p44.1,p44.2)
def N_(mg:List Int):Option (Reached):=
 (Gx mg []).bind fun r2=>
 some (⟨[],r2,[],0⟩:Reached)
theorem am4{mg:List Int}{aa:Sv}{R:Reached}(hF:N_ mg=some R):
   Fw.Spec Tryz.prog 96 [aa.v] [ah aa mg] (fun p:Sv×List Nat×Sv×List Nat×Sv×List Nat=>(zg [p.1.v,p.2.2.1.v,p.2.2.2.2.1.v,(zi R.Rounds)])) (fun p=>[h_ p.2.1 p.1 R.Facts,bv p.2.2.2.1 p.2.2.1 R.Values,mM p.2.2.2.2.2 p.2.2.2.2.1 R.Log]):=by
 refine Se 6 Tryz.func96 [.cell 2 80] ?_
 intro H0 F0
 unfold N_ at hF
 refine au ?_
 refine cO (fun k1=>?_)
 refine aZ ?_
 refine dh .nil (Ef (R:=ax) (E:=3)) ?_
 refine bnd hF fun r2 hx3 hF=>dW (@ad6 _ _ _ (⟨none,0,0⟩) _ hx3) (fun p4=>?_)
 refine aK (gH pI.h rfl (vs:=[p4.1.v]) bz (cells:=[(.slice none 0 0),p4.1.v,(.slice none 0 0),(zi 0)]) rfl) ?_
 refine As (zg [(.slice none 0 0),p4.1.v,(.slice none 0 0),(zi 0)]) ?_
 refine aT ?_
 cases hF
 exact eO (⟨none,0,0⟩,[],p4.1,p4.2,⟨none,0,0⟩,[]) (.cellA rfl rfl .h rfl yX.h pI.h.sz rfl rfl .nil) rfl (.conv .nil (fu (Ro:=gD) (E:=71)) (.cons .nil) (.conv .nil (fu (Ro:=j4) (E:=115)) (.cons .nil) (.sel (.cons (.t .h) (.cons .q2 (.cons .h .nil))))))
def DR(wW:List Int):List Int->Nat->(List (List Int))->Option ((List (List Int)))
 |[],Cy,c91=>some c91
 |x99::Bd,Cy,c91=>(uL wW).bind fun Rn=>
   (app Rn ([x99]:List Int)).bind fun acN=>
   (app c91 ([acN]:List (List Int))).bind fun z116=>
   DR wW Bd (Cy+1) z116
def DT(fe:List Int):List (List Int)->Nat->(List (List Int))->Option ((List (List Int)))
 |[],vK,lZ=>some lZ
 |wW::Be,vK,lZ=>(DR wW fe 0 lZ).bind fun XZ=>
   match XZ with
   |RU=>DT fe Be (vK+1) RU
def G_(fe:List Int)(ed:Int):Nat->(List (List Int))->Int->Option ((List (List Int)))
 |0,_,_=>none
 |m7+1,c3,c6=>if (decide ((c6:Int)<ed))then (
     (DT fe c3 0 ([]:List (List Int))).bind fun Cz=>
     match Cz with
     |vg=>G_ fe ed m7 vg (IntKind.i64.wrap (c6+1)))
   else (
     some c3)
def PN(fe:List Int)(ed:Int):Option ((List (List Int))):=
 G_ fe ed ((ed-0).toNat+2) ([([]:List Int)]:List (List Int)) 0
theorem apH{fe:List Int}{aa:Sv}{ed:Int}{R:(List (List Int))}(hF:PN fe ed=some R):
   Fw.Spec Tryz.prog 205 [aa.v,(zi ed)] [ah aa fe] (fun p:Sv×List Nat=>p.1.v) (fun p=>[aJ (az 24 (az 3 (aj ax))) p.2 p.1.v R]):=by
 refine Se 42 Tryz.func205 [.tmp 4] ?_
 intro H0 F0
 unfold PN at hF
 refine aL ?_
 refine b_ rfl (bI (g:=true) bH.h bC.h .nil (vs:=[]) rfl rfl rfl (by simp)) (fun k1=>?_)
 refine dh (.cons .h .nil) (bK (Ro:=(aj ax)) (E:=3) (F:=[]) (xs:=([]:List Int)) bJ rfl rfl) ?_
 refine b_ rfl (bI (g:=true) gJ.h fB.h bz (vs:=[(.slice (some ⟨k1,0,none⟩) 0 1)]) rfl rfl rfl (by intro v hv; simp at hv; rcases hv with rfl<;>rfl)) (fun k2=>?_)
 refine dh (.cons .h (.cons .h .nil)) (bK (Ro:=(az 3 (aj ax))) (E:=24) (F:=((k1::[])++[])) (xs:=([([]:List Int)]:List (List Int))) (bS uR bJ bB) rfl rfl) ?_
 refine bQ ?_
 refine bn (bU (m:=((ed-0).toNat+2)) (fun m7 f' cs'=>∃(g:Fr)(c3:List (List Int))(c6:Int)(v4:Sv)(F5:List Nat),f'=aR g [(0,aa.v),(5,v4.v),(13,(zi ed)),(14,(zi c6))]/\aP cs' [ah aa fe,aJ (az 24 (az 3 (aj ax))) F5 v4.v c3]/\G_ fe ed m7 c3 c6=some R) ⟨_,_,_,⟨(some ⟨k2,0,none⟩),1,1⟩,(k2::((k1::[])++[])),aB,aA,hF⟩ ?_)
 rintro m7 _ _ ⟨g8,c3,c6,v4,F5,rfl,hE,hF⟩
 refine bM hE ?_
 rcases m7 with _|m7
 · rw[G_]at hF
   exact absurd hF (by simp)
 rw[G_]at hF
 refine aL ?_
 refine Ci hF (fun aa7 hF=>?_) (fun aa7 hF=>?_)
 · refine au ?_
   obtain⟨Cz,aba,acO⟩:=bind_some hF
   refine gN (fun f' cs'=>∃(vg:List (List Int))(BO:Sv)(I5:List Nat)(g:Fr),vg=Cz/\f'=aR g [(0,aa.v),(5,BO.v),(13,(zi ed)),(14,(zi c6))]/\aP cs' [ah aa fe,aJ (az 24 (az 3 (aj ax))) I5 BO.v vg]) ?_ ?_
   · replace hF:=aba
     refine bn (cB (b_ rfl (bI (g:=true) gJ.h fB.h .nil (vs:=[]) rfl rfl rfl (by simp)) (fun k17=>?_)))
     refine dh (.cons .h .nil) (bK (Ro:=(az 3 (aj ax))) (E:=24) (F:=[]) (xs:=([]:List (List Int))) bJ rfl rfl) ?_
     refine fI ?_
     refine bn (lS .q2 bi ?_)
     refine bU (m:=c3.length) (fun m75 f' cs'=>∃(g:Fr)(vK:Nat)(Be lZ:List (List Int))(v72:Sv)(zz:List Nat),m75=Be.length/\f'=aR g [(0,aa.v),(6,v72.v),(13,(zi ed)),(14,(zi c6)),(17,v4.v),(18,(zi (c3.length:Int))),(19,(zi (vK:Int)))]/\List.drop vK c3=Be/\aP cs' [ah aa fe,aJ (az 24 (az 3 (aj ax))) zz v72.v lZ,bT (aW 24 (aW 3 ax)) v4.v c3]/\DT fe Be vK lZ=some Cz) ⟨_,0,_,_,⟨(some ⟨k17,0,none⟩),0,1⟩,(k17::[]),rfl,aB,rfl,aA,hF⟩ ?_
     rintro m75 _ _ ⟨g76,vK,Be,lZ,v72,zz,rfl,rfl,akX,hE,hF⟩
     refine Kb hE c3 (fun aCt=>?_)
     rcases Be with _|⟨wW,Be⟩
     · have aci:=dn akX
       rw[DT]at hF
       refine aL ?_
       refine dE ?_
       refine fI ?_
       cases hF
       exact⟨_,v72,zz,_,rfl,aB,aA⟩
     obtain⟨aci,acb,Xf⟩:=dA akX
     rw[DT]at hF
     refine aL ?_
     refine dD ?_
     refine au ?_
     obtain⟨XZ,awi,azH⟩:=bind_some hF
     refine gN (fun f' cs'=>∃(RU:List (List Int))(Xh:Sv)(acP:List Nat)(g:Fr),RU=XZ/\f'=aR g [(0,aa.v),(6,Xh.v),(13,(zi ed)),(14,(zi c6)),(17,v4.v),(18,(zi (c3.length:Int))),(19,(zi (vK:Int)))]/\aP cs' [ah aa fe,aJ (az 24 (az 3 (aj ax))) acP Xh.v RU,bT (aW 24 (aW 3 ax)) v4.v c3]) ?_ ?_
     · replace hF:=awi
       refine bn (cB (rF (a:=wW) gJ.h fB.h.sz (.tmp rfl rfl) (.tmp rfl rfl) .q2 (Int.natCast_nonneg vK) acb (fun k88 j89=>?_)))
       refine ng (R':=(aW 3 ax)) fT.h (.tmp rfl rfl) .h rC (fun w90=>?_)
       refine bQ ?_
       refine bn (bU (m:=fe.length) (fun m95 f' cs'=>∃(g:Fr)(Cy:Nat)(Bd:List Int)(c91:List (List Int))(Cv:Sv)(JP:List Nat),m95=Bd.length/\f'=aR g [(0,aa.v),(6,Cv.v),(8,w90.v),(13,(zi ed)),(14,(zi c6)),(17,v4.v),(18,(zi (c3.length:Int))),(19,(zi (vK:Int))),(23,aa.v),(24,(zi (fe.length:Int))),(25,(zi (Cy:Int)))]/\List.drop Cy fe=Bd/\aP cs' [ah aa fe,aJ (az 24 (az 3 (aj ax))) JP Cv.v c91,ah w90 wW,bT (aW 24 (aW 3 ax)) v4.v c3]/\DR wW Bd Cy c91=some XZ) ⟨_,0,_,_,v72,zz,rfl,aB,rfl,aA,hF⟩ ?_)
       rintro m95 _ _ ⟨g96,Cy,Bd,c91,Cv,JP,rfl,rfl,aiZ,hE,hF⟩
       refine Kb hE fe (fun aAB=>?_)
       rcases Bd with _|⟨x99,Bd⟩
       · have awj:=dn aiZ
         rw[DR]at hF
         refine aL ?_
         refine dE ?_
         refine aL ?_
         cases hF
         exact⟨_,Cv,JP,_,rfl,aB,aA⟩
       obtain⟨awj,hx102,awk⟩:=dA aiZ
       rw[DR]at hF
       refine aL ?_
       refine dD ?_
       refine aZ ?_
       refine Ai hx102 (fun ay1 aFd=>?_)
       refine Al dN ?_
       refine bf ?_
       refine bnd hF fun Rn Qh hF=>dW (zC Qh) (fun Rl=>?_)
       refine au ?_
       refine b_ rfl (bI (g:=true) bH.h bC.h bz (vs:=[(zi x99)]) rfl rfl rfl (by intro v hv; simp at hv; rcases hv with rfl<;>rfl)) (fun aFe=>?_)
       refine dh (.cons .h .nil) (bK (Ro:=(aj ax)) (E:=3) (F:=([]++[])) (xs:=([x99]:List Int)) (bS (dK (fun _=>rfl)) bJ bB) rfl rfl) ?_
       refine bnd hF fun acN hx113 hF=>dC (.cons (.t .h) (.cons .h .nil)) (dL (Ro:=(aj ax)) bH.h gL bC.h rfl rfl rfl (.tmp rfl rfl) (.tmp rfl rfl) hx113 eX) (fun akY=>?_)
       refine b_ rfl (bI (g:=true) gJ.h fB.h bz (vs:=[akY.1.v]) rfl rfl rfl (by intro v hv; simp at hv; rcases hv with rfl<;>rfl)) (fun aFf=>?_)
       refine dh (.cons .h (.cons .h .nil)) (bK (Ro:=(az 3 (aj ax))) (E:=24) (F:=(akY.2++[])) (xs:=([acN]:List (List Int))) (bS uR bJ bB) rfl rfl) ?_
       refine bnd hF fun z116 awl hF=>dC (.cons .q3 (.cons .h .nil)) (dL (Ro:=(az 3 (aj ax))) gJ.h Es fB.h rfl rfl rfl (.tmp rfl rfl) (.tmp rfl rfl) awl eX) (fun akZ=>?_)
       refine bG ?_
       rw[wk Cy]
       exact⟨_,bY _,_,Cy+1,Bd,_,akZ.1,akZ.2,rfl,aB,awk,aA,hF⟩
     rintro _ _ ⟨RU,Xh,acP,ayi,rfl,rfl,hE⟩
     replace hF:=azH
     try dsimp only at hF
     refine bM hE ?_
     refine aL ?_
     rw[wk vK]
     exact⟨_,bY _,_,vK+1,Be,_,Xh,acP,rfl,aB,Xf,aA,hF⟩
   rintro _ _ ⟨vg,BO,I5,aFg,rfl,rfl,hE⟩
   replace hF:=acO
   try dsimp only at hF
   refine bM hE ?_
   refine aL ?_
   exact⟨m7,bY _,_,_,_,BO,I5,aB,aA,hF⟩
 refine eU ?_
 cases hF
 exact Er (v4,F5)
def zF(bO:Reached)(k9:Nat):List (List Int)->Nat->(List aV)->Option ((List aV))
 |[],tN,E5=>some E5
 |yg::vY,tN,E5=>((GM bO.Log (⟨(k9:Int),yg⟩:aV)).bind fun SN=>
     if (!SN)then (
       (app E5 ([(⟨(k9:Int),yg⟩:aV)]:List aV)).bind fun z71=>
       some z71)
     else (
       some E5)).bind fun o59=>
   match o59 with
   |c75=>zF bO k9 vY (tN+1) c75
def CU(bO:Reached):List Method->Nat->(List aV)->Option ((List aV))
 |[],k9,c3=>some c3
 |eF::dB,k9,c3=>(if ((eF.Limit:Int)!=0)then (
       some c3)
     else (
       (PN bO.Values (eF.Inputs.length:Int)).bind fun iV=>
       zF bO k9 iV 0 c3)).bind fun iD=>
   match iD with
   |yw=>CU bO dB (k9+1) yw
def NC(bO:Reached)(ag:List Method):Option ((List aV)):=
 CU bO ag 0 ([]:List aV)
theorem amr{bO:Reached}{aa aQ mE:Sv}{ag:List Method}{ak:Sv}{R:(List aV)}(hF:NC bO ag=some R):
   Fw.Spec Tryz.prog 164 [(zg [aa.v,aQ.v,mE.v,(zi bO.Rounds)]),ak.v] [cz aa bO.Facts,ah aQ bO.Values,gU mE bO.Log,dQ ak ag] (fun p:Sv×List Nat=>p.1.v) (fun p=>[mM p.2 p.1 R]):=by
 refine Se 48 Tryz.func164 [.tmp 4] ?_
 intro H0 F0
 unfold NC at hF
 refine au ?_
 refine bW (fun k1=>?_)
 refine aZ ?_
 refine b_ rfl (bI (g:=true) pF.h lv.h .nil (vs:=[]) rfl rfl rfl (by simp)) (fun k2=>?_)
 refine dh (.cons .h .nil) (bK (Ro:=j4) (E:=115) (F:=[]) (xs:=([]:List aV)) bJ rfl rfl) ?_
 refine fI ?_
 refine bn (bU (m:=ag.length) (fun m7 f' cs'=>∃(g:Fr)(k9:Nat)(dB:List Method)(c3:List aV)(v4:Sv)(F5:List Nat),m7=dB.length/\f'=aR g [(2,(pz k1)),(5,v4.v),(12,ak.v),(13,(zi (ag.length:Int))),(14,(zi (k9:Int)))]/\List.drop k9 ag=dB/\aP cs' [a_ k1 80 (zg [aa.v,aQ.v,mE.v,(zi bO.Rounds)]),cz aa bO.Facts,ah aQ bO.Values,gU mE bO.Log,mM F5 v4 c3,dQ ak ag]/\CU bO dB k9 c3=some R) ⟨_,0,_,_,⟨(some ⟨k2,0,none⟩),0,1⟩,(k2::[]),rfl,aB,rfl,aA,hF⟩ ?_)
 rintro m7 _ _ ⟨g8,k9,dB,c3,v4,F5,rfl,rfl,je,hE,hF⟩
 refine Kb hE ag (fun yQ=>?_)
 rcases dB with _|⟨eF,dB⟩
 · have nR:=dn je
   rw[CU]at hF
   refine aL ?_
   refine dE ?_
   refine eU ?_
   cases hF
   exact Er (v4,F5)
 obtain⟨nR,fQ,mr⟩:=dA je
 rw[CU]at hF
 refine aL ?_
 refine dD ?_
 refine au ?_
 obtain⟨iD,pg,pK⟩:=bind_some hF
 refine gN (fun f' cs'=>∃(yw:List aV)(v83:Sv)(Cu:List Nat)(g:Fr),yw=iD/\f'=aR g [(2,(pz k1)),(5,v83.v),(12,ak.v),(13,(zi (ag.length:Int))),(14,(zi (k9:Int)))]/\aP cs' [a_ k1 80 (zg [aa.v,aQ.v,mE.v,(zi bO.Rounds)]),cz aa bO.Facts,ah aQ bO.Values,gU mE bO.Log,mM Cu v83 yw,dQ ak ag]) ?_ ?_
 · replace hF:=pg
   refine bn (cB (Cm (zi (k9:Int)) rfl rfl ?_))
   refine Ai fQ (fun k20 zt=>?_)
   refine j_ (yF eF) zZ (fun iI=>?_)
   refine cO (fun k23=>?_)
   refine au ?_
   refine As (zg [(zi eF.Rel),iI.v,(zi eF.Limit),(zi eF.Cost),(zi eF.Quota)]) ?_
   refine bQ ?_
   refine Ci hF (fun azI hF=>?_) (fun azI hF=>?_)
   · refine aZ ?_
     cases hF
     exact⟨_,v4,F5,_,rfl,aB,aA⟩
   refine bQ ?_
   refine bnd hF fun iV hx25 hF=>dW (apH hx25) (fun p26=>?_)
   refine aZ ?_
   refine bn (aaH (s:=1) .h (fun acQ G42=>?_))
   refine bU (m:=iV.length) (fun m48 f' cs'=>∃(g:Fr)(tN:Nat)(vY:List (List Int))(E5:List aV)(v44:Sv)(X0 G46:List Nat),m48=vY.length/\f'=aR g [(2,(pz k1)),(5,v44.v),(6,(zi (k9:Int))),(12,ak.v),(13,(zi (ag.length:Int))),(14,(zi (k9:Int))),(27,p26.1.v),(28,(zi (iV.length:Int))),(29,(zi (tN:Int)))]/\List.drop tN iV=vY/\aP cs' [a_ k1 80 (zg [aa.v,aQ.v,mE.v,(zi bO.Rounds)]),cz aa bO.Facts,ah aQ bO.Values,gU mE bO.Log,mM X0 v44 E5,dQ ak ag,mo 24 1 (az 3 (aj ax)) G46 p26.1.v acQ iV.length tN vY]/\zF bO k9 vY tN E5=some iD) ⟨_,0,_,_,v4,F5,G42,rfl,aB,rfl,aA,hF⟩ ?_
   rintro m48 _ _ ⟨g49,tN,vY,E5,v44,X0,G46,rfl,rfl,ak0,hE,hF⟩
   refine bM hE ?_
   refine yO (c:=mo 24 1 (az 3 (aj ax)) G46 p26.1.v acQ iV.length tN vY) .q6 Zb (fun aCu=>?_)
   rcases vY with _|⟨yg,vY⟩
   · have abX:=dn ak0
     rw[zF]at hF
     refine aL ?_
     refine dE ?_
     refine aL ?_
     cases hF
     exact⟨_,v44,X0,_,rfl,aB,aA⟩
   obtain⟨abX,wB,azJ⟩:=dA ak0
   rw[zF]at hF
   refine aL ?_
   refine dD ?_
   refine au ?_
   obtain⟨o59,awm,azK⟩:=bind_some hF
   refine gN (fun f' cs'=>∃(c75:List aV)(v76:Sv)(JD F78:List Nat)(g:Fr),c75=o59/\f'=aR g [(2,(pz k1)),(5,v76.v),(6,(zi (k9:Int))),(12,ak.v),(13,(zi (ag.length:Int))),(14,(zi (k9:Int))),(27,p26.1.v),(28,(zi (iV.length:Int))),(29,(zi (tN:Int)))]/\aP cs' [a_ k1 80 (zg [aa.v,aQ.v,mE.v,(zi bO.Rounds)]),cz aa bO.Facts,ah aQ bO.Values,gU mE bO.Log,mM JD v76 c75,dQ ak ag,mo 24 1 (az 3 (aj ax)) F78 p26.1.v acQ iV.length (tN+1) vY]) ?_ ?_
   · replace hF:=awm
     refine bn (cB (aae aqz .q6 (fun p61 G62 azL=>?_)))
     refine rF (R:=jC 1) (a:=p61.1.v) gJ.h fB.h.sz (.tmp rfl rfl) (.tmp rfl rfl) (.t .h) (Int.natCast_nonneg tN) (aau azL) (fun k64 j65=>?_)
     refine Al (arG rfl) ?_
     refine bf ?_
     refine aK (gH lv.h rfl (vs:=[(zi (k9:Int)),p61.1.v]) bz (cells:=[(zi (k9:Int)),p61.1.v]) rfl) ?_
     refine cO (fun k66=>?_)
     refine As (zg [(zi (k9:Int)),p61.1.v]) ?_
     refine bf ?_
     refine bnd hF fun SN I4 hF=>dC (.cons .q2 (.rd .q7 rfl .nil)) (eY bi (fun _=>.nil) (fM (.rd (.t .h) rfl (.rd .h rfl .nil)) (bP aiA.h bz (aer I4)))) (fun _=>?_)
     refine aT ?_
     refine Ci hF (fun azM hF=>?_) (fun azM hF=>?_)
     · refine aZ ?_
       refine b_ rfl (bI (g:=true) pF.h lv.h bz (vs:=[(zg [(zi (k9:Int)),p61.1.v])]) rfl rfl rfl (by intro v hv; simp at hv; rcases hv with rfl<;>rfl)) (fun wZ=>?_)
       refine dh (.cons .h (.cons .h .nil)) (bK (Ro:=j4) (E:=115) (F:=(p61.2++[])) (xs:=([(⟨(k9:Int),yg⟩:aV)]:List aV)) (bS (Qb (a:=(⟨(k9:Int),yg⟩:aV))) bJ bB) rfl rfl) ?_
       refine bnd hF fun z71 acR hF=>dC (.cons .q9 (.cons .h .nil)) (dL (Ro:=j4) pF.h Mi lv.h rfl rfl rfl (.tmp rfl rfl) (.tmp rfl rfl) acR eX) (fun p73=>?_)
       refine aT ?_
       cases hF
       exact⟨_,p73.1,p73.2,G62,_,rfl,aB,aA⟩
     refine au ?_
     cases hF
     exact⟨_,v44,X0,G62,_,rfl,aB,aA⟩
   rintro _ _ ⟨c75,v76,JD,F78,g80,rfl,rfl,hE⟩
   replace hF:=azK
   try dsimp only at hF
   refine bM hE ?_
   refine aL ?_
   rw[wk tN]
   exact⟨_,bY _,_,tN+1,vY,_,v76,JD,F78,rfl,aB,azJ,aA,hF⟩
 rintro _ _ ⟨yw,v83,Cu,g86,rfl,rfl,hE⟩
 replace hF:=pK
 try dsimp only at hF
 refine bM hE ?_
 refine aL ?_
 rw[wk k9]
 exact⟨_,bY _,_,k9+1,dB,_,v83,Cu,rfl,aB,mr,aA,hF⟩
def Qr(Xi:Bool):Option (Int):=
 if Xi then (
   some 1)
 else (
   some 0)
theorem aqD{Xi:Bool}{R:Int}(hF:Qr Xi=some R):
   Fw.Spec Tryz.prog 165 [(.bool Xi)] [] (fun _:Unit=>(zi R)) (fun _=>[]):=by
 refine Se 4 Tryz.func165 [.tmp 2] ?_
 intro H0 F0
 unfold Qr at hF
 refine bQ ?_
 refine Ci hF (fun hb1 hF=>?_) (fun hb1 hF=>?_)
 · exact ze hF
 exact ze hF
def Fy(z168:List aV):List Fact->Nat->(List Fact)->(List Int)->Option ((List Fact)×(List Int)×(List aV))
 |[],nX,c210,c213=>some (c210,c213,z168)
 |EI::xq,nX,c210,c213=>(Ic c210 EI).bind fun ak1=>
   (Gx c213 EI.Values).bind fun ak2=>
   Fy z168 xq (nX+1) ak1 ak2
def zG(bO:Reached)(ag:List Method)(bA:List Fact)(r1:(List aV)):List aV->Nat->(List Fact)->(List Int)->(List aV)->Option (Bool×Reached)
 |[],lG,c130,vv,Ji=>(Qr (decide ((0:Int)<(r1.length:Int)))).bind fun RV=>
   some ((decide ((0:Int)<(r1.length:Int))),({Facts:=c130,Values:=vv,Log:=Ji,Rounds:=(IntKind.i64.wrap (bO.Rounds+RV))}:Reached))
 |zh::uQ,lG,c130,vv,Ji=>((app Ji [zh]).bind fun z168=>
     (Hr ag bA zh).bind fun uq=>
     Fy z168 uq 0 c130 vv).bind fun Xj=>
   match Xj with
   |(RX,RY,RZ)=>zG bO ag bA r1 uQ (lG+1) RX RY RZ
def ND(bO:Reached)(ag:List Method)(bA:List Fact):Option (Bool×Reached):=
 (NC bO ag).bind fun r1=>
 zG bO ag bA r1 r1 0 bO.Facts bO.Values bO.Log
theorem ams{bE:Nat}{bO:Reached}{aa:Sv}{lF:List Nat}{aQ:Sv}{ak3:List Nat}{mE:Sv}{ak4:List Nat}{ag:List Method}{ak:Sv}{bA:List Fact}{bu:Sv}{R:Bool×Reached}(hF:ND bO ag bA=some R):
   Fw.Spec Tryz.prog 97 [(.pointer (some ⟨bE,0,some 0⟩)),ak.v,bu.v] [bq bE 80 (.agg [aa.v,aQ.v,mE.v,(.int .i64 bO.Rounds)].toArray),aJ (az 71 gD) lF aa.v bO.Facts,aJ (az 3 (aj ax)) ak3 aQ.v bO.Values,aJ (az 115 j4) ak4 mE.v bO.Log,bT (aW 92 lC) ak.v ag,bT (aW 71 lV) bu.v bA] (fun _:Sv×List Nat×Sv×List Nat×Sv×List Nat=>(.bool R.1)) (fun p=>[bq bE 80 (.agg [p.1.v,p.2.2.1.v,p.2.2.2.2.1.v,(.int .i64 R.2.Rounds)].toArray),aJ (az 71 gD) p.2.1 p.1.v R.2.Facts,aJ (az 3 (aj ax)) p.2.2.2.1 p.2.2.1.v R.2.Values,aJ (az 115 j4) p.2.2.2.2.2 p.2.2.2.2.1.v R.2.Log]):=by
 refine zV (n:=77) Tryz.func97 rfl rfl (rs:=[.tmp 6]) rfl rfl rfl ?_
 intro H0 F0
 unfold ND at hF
 refine cB (aK (iG (v:=(.bool false)) (.bool _)) ?_)
 refine dS (cB (Cm (.pointer (some ⟨bE,0,some 0⟩)) rfl rfl ?_))
 refine aK (oU (v:=(.pointer (some ⟨bE,0,some 0⟩))) rfl (.tmp rfl rfl)) ?_
 refine iH .h (fun hp=>gM yX.h pI.h.sz rfl (.tmp rfl rfl) hp.2 rfl) ?_
 refine Cm ak.v rfl rfl ?_
 obtain⟨r1,hx2,hF⟩:=bind_some hF
 refine uV (.cons (.t (.t (.t .h))) (.cons (.t (.t .h)) (.cons (.t .h) (.rd (.t .h) rfl .nil)))) (iW (pre:=_) (.cons bi (.cons bi (.cons bi .nil))) (fun _=>(.cons .nil)) (bP aua.h (.cons (.tmp rfl rfl) (.cons (.tmp rfl rfl) .nil)) (@amr bO aa aQ mE ag ak _ hx2))) (fun p3=>?_)
 refine Ca p3.1.v rfl rfl ?_
 refine dS (j6 (cB (Cm p3.1.v rfl rfl ?_)))
 refine iH (.t (.t (.t .h))) (fun hp=>qD (l:=r1.length) pF.h (.tmp rfl rfl) (Ab hp)) ?_
 refine aK (cu (v:=(.int .i64 0)) (.int _ _)) ?_
 refine dS (bn (aaH (s:=2) (.t (.t (.t .h))) (fun Xk G16=>?_)))
 refine bU (m:=r1.length) (fun ak5 f' cs'=>∃(g:Fr)(lG:Nat)(uQ:List aV)(c130:List Fact)(vv:List Int)(Ji:List aV)(v131:Sv)(EF:List Nat)(wI:Sv)(EG:List Nat)(MN:Sv)(acS:List Nat)(acT:List Nat),ak5=uQ.length/\f'=aR g [(0,(.pointer (some ⟨bE,0,some 0⟩))),(1,ak.v),(2,bu.v),(7,p3.1.v),(17,p3.1.v),(18,(.int .i64 (r1.length:Int))),(19,(.int .i64 (lG:Int)))]/\List.drop lG r1=uQ/\aP cs' [bq bE 80 (.agg [v131.v,wI.v,MN.v,(.int .i64 bO.Rounds)].toArray),aJ (az 71 gD) EF v131.v c130,aJ (az 3 (aj ax)) EG wI.v vv,aJ (az 115 j4) acS MN.v Ji,bT (aW 92 lC) ak.v ag,bT (aW 71 lV) bu.v bA,mo 115 2 j4 acT p3.1.v Xk r1.length lG uQ]/\zG bO ag bA r1 uQ lG c130 vv Ji=some R) ⟨_,0,_,_,_,_,aa,lF,aQ,ak3,mE,ak4,G16,rfl,(cZ.cons rfl (cZ.cons rfl (cZ.cons rfl (cZ.cons rfl (cZ.cons rfl (cZ.cons rfl (cZ.cons rfl (cZ.nil)))))))).eq,rfl,(.sel (.cons (.t (.t (.t (.t .h)))) (.cons (.t (.t (.t .h))) (.cons (.t (.t .h)) (.cons (.t .h) (.rd (.t .h) rfl (.rd (.t (.t .h)) rfl (.cons .h .nil)))))))),hF⟩ ?_
 clear hF
 rintro ak5 _ _ ⟨aFh,lG,uQ,c130,vv,Ji,v131,EF,wI,EG,MN,acS,acT,rfl,rfl,ai0,hE,hF⟩
 refine bM hE ?_
 clear hE
 refine yO (c:=mo 115 2 j4 acT p3.1.v Xk r1.length lG uQ) (.t (.t (.t (.t (.t (.t .h)))))) Zb (fun aAC=>?_)
 rcases uQ with _|⟨zh,uQ⟩
 · have awn:=List.drop_eq_nil_iff.1 ai0
   have aax:(decide (((lG:Int):Int)<(r1.length:Int)))=false:=decide_eq_false (by omega)
   rw[zG]at hF
   refine cB (aK (yP (i:=(lG:Int)) (j:=(r1.length:Int)) (.tmp rfl rfl) (.tmp rfl rfl)) ?_)
   refine dS (j6 (kQ (b:=(decide (((lG:Int):Int)<(r1.length:Int)))) (.tmp rfl rfl) (fun hb=>absurd (aax.symm.trans hb) (by decide)) (fun _=>?_)))
   refine H9 ?_
   iterate 2 refine zU ?_
   refine Hz (dM [0,1,2,3,4,5,6,7,8,9,10,11] [0,1,3,7,0,16,48,112,255,511,1023,2047] [7,11] mixed (by decide+kernel) ?_)
   refine Dm (.pointer (some ⟨bE,0,some 0⟩)) rfl rfl rfl rfl ?_
   refine dJ rfl .no (fun ha=>oU (v:=(.pointer (some ⟨bE,0,some 0⟩))) rfl (EN ha (.tmp rfl rfl) rfl)) ?_
   refine dJ rfl .no (fun ha=>nH (off:=3) ah'.h (EN ha (.tmp rfl rfl) rfl)) ?_
   refine dH rfl .no .h (fun ha hp=>fZ (v:=(.int .i64 bO.Rounds)) oI.h (EN ha (.tmp rfl rfl) rfl) hp.2 rfl rfl) ?_
   refine Dm p3.1.v rfl rfl rfl rfl ?_
   refine dH rfl .no (.t (.t (.t (.t (.t (.t .h)))))) (fun ha hp=>qD (l:=r1.length) pF.h (EN ha (.tmp rfl rfl) rfl) (agO hp)) ?_
   refine dJ rfl .no (fun ha=>LU (i:=(r1.length:Int)) (j:=0) (EN ha (.tmp rfl rfl) rfl) (EN ha (.int _ _) rfl)) ?_
   obtain⟨RV,hx153,hF⟩:=bind_some hF
   refine Vv rfl rfl .no .nil (.dep rfl (.own .h (fun _ h=>h) .nil)) (fun ha=>bP aub.h (.cons (EN ha (.tmp rfl rfl) rfl) .nil) (@aqD (decide ((0:Int)<(r1.length:Int))) _ hx153)) (fun _=>?_)
   refine dJ rfl .no (fun ha=>kL (i:=bO.Rounds) (j:=RV) (EN ha (.tmp rfl rfl) rfl) (EN ha (.tmp rfl rfl) rfl)) ?_
   refine dJ rfl .no (fun ha=>oU (v:=(.pointer (some ⟨bE,0,some 0⟩))) rfl (EN ha (.tmp rfl rfl) rfl)) ?_
   refine dJ rfl .no (fun ha=>nH (off:=3) ah'.h (EN ha (.tmp rfl rfl) rfl)) ?_
   refine bZ rfl rfl .no (.cons .h .nil) (.dep rfl (.dep rfl .nil)) (fun ha=>fA (e':=(.agg [v131.v,wI.v,MN.v,(.int .i64 (IntKind.i64.wrap (bO.Rounds+RV)))].toArray)) (v:=(.int .i64 (IntKind.i64.wrap (bO.Rounds+RV)))) bC.h.sz (EN ha (.tmp rfl rfl) rfl) (EN ha (.tmp rfl rfl) rfl) rfl rfl rfl rfl rfl) (fun _=>?_)
   refine Bj (cB (Cm p3.1.v rfl rfl ?_))
   refine iH (.t (.t (.t (.t (.t (.t .h)))))) (fun hp=>qD (l:=r1.length) pF.h (.tmp rfl rfl) (agO hp)) ?_
   refine aK (LU (i:=(r1.length:Int)) (j:=0) (.tmp rfl rfl) (.int _ _)) ?_
   refine Ca (.bool (decide ((0:Int)<(r1.length:Int)))) rfl rfl ?_
   refine dS (tY ?_)
   obtain rfl:=Option.some.inj hF
   exact eO (v131,EF,wI,EG,MN,acS) (.tmp rfl rfl .nil) rfl (.sel (.cons .h (.cons .h (.cons .h (.cons .h .nil)))))
 obtain⟨awn,aiH,awo⟩:=dA ai0
 have aax:(decide (((lG:Int):Int)<(r1.length:Int)))=true:=decide_eq_true (by omega)
 rw[zG]at hF
 refine cB (aK (yP (i:=(lG:Int)) (j:=(r1.length:Int)) (.tmp rfl rfl) (.tmp rfl rfl)) ?_)
 refine dS (j6 (kQ (b:=(decide (((lG:Int):Int)<(r1.length:Int)))) (.tmp rfl rfl) (fun _=>?_) (fun hb=>absurd (aax.symm.trans hb) (by decide))))
 refine qd ?_
 obtain⟨Xj,ar7,ai1⟩:=bind_some hF
 refine gN (fun f' cs'=>∃(RX:List Fact)(RY:List Int)(RZ:List aV)(Xl:Sv)(acU:List Nat)(Xm:Sv)(acV:List Nat)(Xn:Sv)(acW:List Nat)(acX:List Nat)(g:Fr),Xj=(RX,RY,RZ)/\f'=aR g [(0,(.pointer (some ⟨bE,0,some 0⟩))),(1,ak.v),(2,bu.v),(7,p3.1.v),(17,p3.1.v),(18,(.int .i64 (r1.length:Int))),(19,(.int .i64 (lG:Int)))]/\aP cs' [bq bE 80 (.agg [Xl.v,Xm.v,Xn.v,(.int .i64 bO.Rounds)].toArray),aJ (az 71 gD) acU Xl.v RX,aJ (az 3 (aj ax)) acV Xm.v RY,aJ (az 115 j4) acW Xn.v RZ,bT (aW 92 lC) ak.v ag,bT (aW 71 lV) bu.v bA,mo 115 2 j4 acX p3.1.v Xk r1.length (lG+1) uQ]) ?_ ?_
 · replace hF:=ar7
   refine bn (cB (aae auc (.t (.t (.t (.t (.t (.t .h)))))) (fun BU ak6 awp=>?_)))
   refine rF (R:=jC 2) (a:=(.agg [(.int .i64 zh.Method),BU.1.v].toArray)) pF.h lv.h.sz (.tmp rfl rfl) (.tmp rfl rfl) (.t .h) (Int.natCast_nonneg lG) (aau awp) (fun aFi aFj=>?_)
   refine ahY aaM.h lv.h.sz rfl (.tmp rfl rfl) .h ?_
   refine b_ rfl (ru (g:=true) lv.h rfl rfl) (fun aFk=>?_)
   refine dC (.cons .h .nil) (fA (e':=(.agg [(.int .i64 zh.Method),BU.1.v].toArray)) (v:=(.agg [(.int .i64 zh.Method),BU.1.v].toArray)) lv.h.sz (.tmp rfl rfl) (.tmp rfl rfl) rfl rfl rfl rfl rfl) (fun _=>?_)
   refine dS (dM [0,1,2,3,4,5,6,7,8,9,10] [0,0,2,6,14,0,32,126,255,511,1023] [7,10] mixed (by decide+kernel) ?_)
   iterate 2 refine Dm (.pointer (some ⟨bE,0,some 0⟩)) rfl rfl rfl rfl ?_
   refine dJ rfl .no (fun ha=>oU (v:=(.pointer (some ⟨bE,0,some 0⟩))) rfl (EN ha (.tmp rfl rfl) rfl)) ?_
   refine dJ rfl .no (fun ha=>nH (off:=2) ah_.h (EN ha (.tmp rfl rfl) rfl)) ?_
   refine dH rfl .no (.t (.t (.t (.t (.t .h))))) (fun ha hp=>fZ (v:=MN.v) aby.h (EN ha (.tmp rfl rfl) rfl) hp.2 rfl rfl) ?_
   refine dH rfl .no .h (fun ha hp=>gM aaM.h lv.h.sz rfl (EN ha (.tmp rfl rfl) rfl) hp.2 rfl) ?_
   refine gP rfl .no rfl (fun ha=>bI (g:=true) (len:=1) (parts:=[(0,.tmp 28)]) pF.h lv.h (.cons (EN ha (.tmp rfl rfl) rfl) .nil) (vs:=[(.agg [(.int .i64 zh.Method),BU.1.v].toArray)]) rfl rfl rfl (by intro v hv; simp at hv; rcases hv with rfl<;>rfl)) (fun aFl=>?_)
   refine ahT (.cons .h .nil) (bK (Ro:=aj (jC 2)) (E:=115) (F:=([]++[])) (xs:=([(.agg [(.int .i64 zh.Method),BU.1.v].toArray)]:List Value)) (bS (arF (s:=2) (e:=(.agg [(.int .i64 zh.Method),BU.1.v].toArray)) rfl rfl) bJ bB) rfl rfl) bB ?_
   refine arE (s:=2) (.t (.t (.t (.t (.t (.t (.t (.t (.t .h))))))))) (fun aCv aFm ak7 awq=>?_)
   obtain⟨z168,ai2,hF⟩:=bind_some hF
   refine bZ rfl rfl .no (.cons .h (.cons (.t .h) .nil)) (.dep rfl (.dep rfl (.dep rfl .nil))) (fun ha=>dL (Ro:=aj (jC 2)) pF.h Mi lv.h rfl rfl rfl (EN ha (.tmp rfl rfl) rfl) (EN ha (.tmp rfl rfl) rfl) (aqZ ai2 awq) eX) (fun EJ=>?_)
   refine dJ rfl .no (fun ha=>oU (v:=(.pointer (some ⟨bE,0,some 0⟩))) rfl (EN ha (.tmp rfl rfl) rfl)) ?_
   refine dJ rfl .no (fun ha=>nH (off:=2) ah_.h (EN ha (.tmp rfl rfl) rfl)) ?_
   refine bZ rfl rfl .no (.cons (.t (.t (.t (.t (.t (.t (.t .h))))))) .nil) (.dep rfl (.dep rfl (.dep rfl .nil))) (fun ha=>fA (e':=(.agg [v131.v,wI.v,EJ.1.v,(.int .i64 bO.Rounds)].toArray)) ajA.h.sz (EN ha (.tmp rfl rfl) rfl) (EN ha (.tmp rfl rfl) rfl) rfl rfl rfl rfl rfl) (fun _=>?_)
   refine Bj (cB (Cm ak.v rfl rfl ?_))
   refine Cm bu.v rfl rfl ?_
   refine iH (.t (.t (.t .h))) (fun hp=>gM aaM.h lv.h.sz rfl (.tmp rfl rfl) hp.2 rfl) ?_
   obtain⟨uq,awr,hF⟩:=bind_some hF
   refine jM (.cons (.t (.t (.t (.t (.t .h))))) (.rd (.t (.t (.t (.t (.t (.t (.t (.t (.t .h))))))))) rfl (.rd (.t (.t (.t (.t (.t (.t (.t (.t (.t (.t .h)))))))))) rfl .nil))) (eY bi (fun _=>(.cons .nil)) (fM (.rd (.t .h) rfl (.rd (.t (.t .h)) rfl (.rd .h rfl .nil))) (bP axG.h (.cons (.tmp rfl rfl) (.cons (.tmp rfl rfl) (.cons (.tmp rfl rfl) .nil))) (@aeY ag ak bA bu zh BU.1 _ awr)))) (fun acY=>?_)
   refine Ee (.cons (.t (.t (.t .h))) (.cons (.t (.t (.t .h))) (.cons .h .nil))) ((aq0 Qb ai2)) bB ?_
   refine iH (.t .h) (fun hp=>qD (l:=uq.length) fU.h (.tmp rfl rfl) (Ab hp)) ?_
   refine aK (cu (v:=(.int .i64 0)) (.int _ _)) ?_
   refine dS (bn (aaH (s:=2) (.t .h) (fun ai3 azN=>?_)))
   refine bU (m:=uq.length) (fun ak8 f' cs'=>∃(g:Fr)(nX:Nat)(xq:List Fact)(c210:List Fact)(c213:List Int)(MO:Sv)(Xo:List Nat)(Jj:Sv)(acZ:List Nat)(ac0:List Nat),ak8=xq.length/\f'=aR g [(0,(.pointer (some ⟨bE,0,some 0⟩))),(1,ak.v),(2,bu.v),(7,p3.1.v),(17,p3.1.v),(18,(.int .i64 (r1.length:Int))),(19,(.int .i64 (lG:Int))),(36,acY.1.v),(37,(.int .i64 (uq.length:Int))),(38,(.int .i64 (nX:Int)))]/\List.drop nX uq=xq/\aP cs' [bq bE 80 (.agg [MO.v,Jj.v,EJ.1.v,(.int .i64 bO.Rounds)].toArray),aJ (az 71 gD) Xo MO.v c210,aJ (az 3 (aj ax)) acZ Jj.v c213,aJ (az 115 j4) (EJ.2++(ak7++(BU.2++[]))) EJ.1.v z168,bT (aW 92 lC) ak.v ag,bT (aW 71 lV) bu.v bA,mo 115 2 j4 ak6 p3.1.v Xk r1.length (lG+1) uQ,mo 71 2 gD ac0 acY.1.v ai3 uq.length nX xq]/\Fy z168 xq nX c210 c213=some Xj) ⟨_,0,_,_,_,v131,EF,wI,EG,azN,rfl,(cZ.cons rfl (cZ.cons rfl (cZ.cons rfl (cZ.cons rfl (cZ.cons rfl (cZ.cons rfl (cZ.cons rfl (cZ.cons rfl (cZ.cons rfl (cZ.cons rfl (cZ.nil))))))))))).eq,rfl,(.sel (.cons (.t (.t .h)) (.cons (.t (.t (.t (.t (.t (.t .h)))))) (.cons (.t (.t (.t (.t (.t (.t .h)))))) (.cons (.t .h) (.rd (.t (.t (.t (.t (.t .h))))) rfl (.rd (.t (.t (.t (.t (.t (.t .h)))))) rfl (.cons (.t (.t (.t (.t .h)))) (.cons .h .nil))))))))),hF⟩ ?_
   clear hF
   rintro ak8 _ _ ⟨aFn,nX,xq,c210,c213,MO,Xo,Jj,acZ,ac0,rfl,rfl,ai4,hE,hF⟩
   refine bM hE ?_
   clear hE
   refine yO (c:=mo 71 2 gD ac0 acY.1.v ai3 uq.length nX xq) (.t (.t (.t (.t (.t (.t (.t .h))))))) Zb (fun aAD=>?_)
   rcases xq with _|⟨EI,xq⟩
   · have aws:=List.drop_eq_nil_iff.1 ai4
     have aay:(decide (((nX:Int):Int)<(uq.length:Int)))=false:=decide_eq_false (by omega)
     rw[Fy]at hF
     refine cB (aK (yP (i:=(nX:Int)) (j:=(uq.length:Int)) (.tmp rfl rfl) (.tmp rfl rfl)) ?_)
     refine dS (j6 (kQ (b:=(decide (((nX:Int):Int)<(uq.length:Int)))) (.tmp rfl rfl) (fun hb=>absurd (aay.symm.trans hb) (by decide)) (fun _=>?_)))
     refine H9 ?_
     iterate 2 refine zU ?_
     refine Hz ?_
     obtain rfl:=Option.some.inj hF
     exact⟨_,_,_,MO,Xo,Jj,acZ,EJ.1,(EJ.2++(ak7++(BU.2++[]))),ak6,_,rfl,(cZ.cons rfl (cZ.cons rfl (cZ.cons rfl (cZ.cons rfl (cZ.cons rfl (cZ.cons rfl (cZ.cons rfl (cZ.nil)))))))).eq,(.sel (.cons .h (.cons .h (.cons .h (.cons .h (.rd .h rfl (.rd (.t .h) rfl (.cons (.t (.t .h)) .nil))))))))⟩
   obtain⟨aws,aiF,awt⟩:=dA ai4
   have aay:(decide (((nX:Int):Int)<(uq.length:Int)))=true:=decide_eq_true (by omega)
   rw[Fy]at hF
   refine cB (aK (yP (i:=(nX:Int)) (j:=(uq.length:Int)) (.tmp rfl rfl) (.tmp rfl rfl)) ?_)
   refine dS (j6 (kQ (b:=(decide (((nX:Int):Int)<(uq.length:Int)))) (.tmp rfl rfl) (fun _=>?_) (fun hb=>absurd (aay.symm.trans hb) (by decide))))
   refine qd (PH (cB (aae axZ (.t (.t (.t (.t (.t (.t (.t .h))))))) (fun MP azO awu=>?_))))
   refine rF (R:=jC 2) (a:=(.agg [(.int .i64 EI.Rel),MP.1.v].toArray)) fU.h eG.h.sz (.tmp rfl rfl) (.tmp rfl rfl) (.t .h) (Int.natCast_nonneg nX) (aau awu) (fun aFo aFp=>?_)
   refine ahY Bz.h eG.h.sz rfl (.tmp rfl rfl) .h ?_
   refine b_ rfl (ru (g:=true) eG.h rfl rfl) (fun aFq=>?_)
   refine dC (.cons .h .nil) (fA (e':=(.agg [(.int .i64 EI.Rel),MP.1.v].toArray)) (v:=(.agg [(.int .i64 EI.Rel),MP.1.v].toArray)) eG.h.sz (.tmp rfl rfl) (.tmp rfl rfl) rfl rfl rfl rfl rfl) (fun _=>?_)
   refine dS (lS (.t (.t .h)) bi ?_)
   refine dM [0,1,2,3,4,5,6,7,8,9] [0,0,2,6,14,0,62,127,255,511] [6,9] mixed (by decide+kernel) ?_
   iterate 2 refine Dm (.pointer (some ⟨bE,0,some 0⟩)) rfl rfl rfl rfl ?_
   refine dJ rfl .no (fun ha=>oU (v:=(.pointer (some ⟨bE,0,some 0⟩))) rfl (EN ha (.tmp rfl rfl) rfl)) ?_
   refine dJ rfl .no (fun ha=>nH (off:=0) aia.h (EN ha (.tmp rfl rfl) rfl)) ?_
   refine dH rfl .no (.t (.t (.t (.t (.t .h))))) (fun ha hp=>fZ (v:=MO.v) QJ.h (EN ha (.tmp rfl rfl) rfl) hp.2 rfl rfl) ?_
   refine dH rfl .no (.t .h) (fun ha hp=>gM Bz.h eG.h.sz rfl (EN ha (.tmp rfl rfl) rfl) hp.2 rfl) ?_
   obtain⟨ak1,awv,hF⟩:=bind_some hF
   refine bZ rfl rfl .no (.cons (.t (.t (.t (.t (.t (.t .h)))))) (.rd .h rfl .nil)) (.dep rfl (.dep rfl .nil)) (fun ha=>bP atM.h (.cons (EN ha (.tmp rfl rfl) rfl) (.cons (EN ha (.tmp rfl rfl) rfl) .nil)) (@Ze c210 MO Xo EI MP.1 _ awv)) (fun Xp=>?_)
   refine dJ rfl .no (fun ha=>oU (v:=(.pointer (some ⟨bE,0,some 0⟩))) rfl (EN ha (.tmp rfl rfl) rfl)) ?_
   refine dJ rfl .no (fun ha=>nH (off:=0) aia.h (EN ha (.tmp rfl rfl) rfl)) ?_
   refine bZ rfl rfl .no (.cons (.t (.t (.t (.t (.t (.t .h)))))) .nil) (.dep rfl (.dep rfl .nil)) (fun ha=>fA (e':=(.agg [Xp.1.v,Jj.v,EJ.1.v,(.int .i64 bO.Rounds)].toArray)) ajy.h.sz (EN ha (.tmp rfl rfl) rfl) (EN ha (.tmp rfl rfl) rfl) rfl rfl rfl rfl rfl) (fun _=>?_)
   refine Bj (jK [0,1,2,3,4,5,6,7,8,9,10] [0,0,2,6,14,0,32,126,255,511,1023] [7,10] mixed (by decide+kernel) ?_)
   iterate 2 refine Dm (.pointer (some ⟨bE,0,some 0⟩)) rfl rfl rfl rfl ?_
   refine dJ rfl .no (fun ha=>oU (v:=(.pointer (some ⟨bE,0,some 0⟩))) rfl (EN ha (.tmp rfl rfl) rfl)) ?_
   refine dJ rfl .no (fun ha=>nH (off:=1) ah9.h (EN ha (.tmp rfl rfl) rfl)) ?_
   refine dH rfl .no .h (fun ha hp=>fZ (v:=Jj.v) fT.h (EN ha (.tmp rfl rfl) rfl) hp.2 rfl rfl) ?_
   refine dJ rfl .no (fun ha=>nH (off:=1) aaw.h (EN ha (.tmp rfl rfl) rfl)) ?_
   refine dH rfl .no (.t (.t (.t .h))) (fun ha hp=>fZ (v:=MP.1.v) fT.h (EN ha (.tmp rfl rfl) rfl) hp.2 rfl rfl) ?_
   obtain⟨ak2,aww,hF⟩:=bind_some hF
   refine lq rfl rfl .no (.cons (.t (.t (.t (.t (.t (.t (.t .h))))))) (.rd (.t (.t .h)) rfl .nil)) (.dep rfl (.dep rfl .nil)) (fun ha=>eY bi (fun _=>(.cons .nil)) (bP at7.h (.cons (EN ha (.tmp rfl rfl) rfl) (.cons (EN ha (.tmp rfl rfl) rfl) .nil)) (@ad6 c213 Jj EI.Values MP.1 _ aww))) (fun ac1=>?_)
   refine dJ rfl .no (fun ha=>oU (v:=(.pointer (some ⟨bE,0,some 0⟩))) rfl (EN ha (.tmp rfl rfl) rfl)) ?_
   refine dJ rfl .no (fun ha=>nH (off:=1) ah9.h (EN ha (.tmp rfl rfl) rfl)) ?_
   refine bZ rfl rfl .no (.cons (.t (.t .h)) .nil) (.dep rfl (.dep rfl .nil)) (fun ha=>fA (e':=(.agg [Xp.1.v,ac1.1.v,EJ.1.v,(.int .i64 bO.Rounds)].toArray)) fB.h.sz (EN ha (.tmp rfl rfl) rfl) (EN ha (.tmp rfl rfl) rfl) rfl rfl rfl rfl rfl) (fun _=>?_)
   refine Bj (qY (aK (kL (i:=(nX:Int)) (j:=1) (.tmp rfl rfl) (.int _ _)) ?_))
   refine Cm (.int .i64 (IntKind.i64.wrap ((nX:Int)+1))) rfl rfl ?_
   refine dS ?_
   have awx:IntKind.i64.wrap ((nX:Int)+1)=((nX+1:Nat):Int):=by rw[dX (by omega) (by omega)]; rfl
   rw[awx]
   exact⟨_,Nat.lt_succ_self _,_,nX+1,xq,_,_,Xp.1,Xp.2,ac1.1,ac1.2,azO,rfl,(cZ.cons rfl (cZ.cons rfl (cZ.cons rfl (cZ.cons rfl (cZ.cons rfl (cZ.cons rfl (cZ.cons rfl (cZ.cons rfl (cZ.cons rfl (cZ.cons rfl (cZ.nil))))))))))).eq,awt,(.sel (.cons .h (.cons (.t (.t .h)) (.cons (.t .h) (.cons (.t (.t (.t (.t (.t (.t .h)))))) (.rd (.t (.t (.t (.t (.t (.t .h)))))) rfl (.rd (.t (.t (.t (.t (.t (.t (.t .h))))))) rfl (.cons (.t (.t (.t (.t (.t (.t (.t (.t .h)))))))) (.cons (.t (.t (.t (.t (.t .h))))) .nil))))))))),hF⟩
 rintro _ _ ⟨RX,RY,RZ,Xl,acU,Xm,acV,Xn,acW,acX,aFr,rfl,rfl,hE⟩
 replace hF:=ai1
 clear ai1
 try dsimp only at hF
 refine bM hE ?_
 refine qY (aK (kL (i:=(lG:Int)) (j:=1) (.tmp rfl rfl) (.int _ _)) ?_)
 refine Cm (.int .i64 (IntKind.i64.wrap ((lG:Int)+1))) rfl rfl ?_
 refine dS ?_
 have awy:IntKind.i64.wrap ((lG:Int)+1)=((lG+1:Nat):Int):=by rw[dX (by omega) (by omega)]; rfl
 rw[awy]
 exact⟨_,Nat.lt_succ_self _,_,lG+1,uQ,_,_,_,Xl,acU,Xm,acV,Xn,acW,acX,rfl,(cZ.cons rfl (cZ.cons rfl (cZ.cons rfl (cZ.cons rfl (cZ.cons rfl (cZ.cons rfl (cZ.cons rfl (cZ.nil)))))))).eq,awo,(.sel (.cons .h (.cons .h (.cons .h (.cons .h (.rd .h rfl (.rd (.t .h) rfl (.cons (.t (.t .h)) .nil)))))))),hF⟩
def Ha(ag:List Method)(bA:List Fact):Nat->(List Fact)->(List Int)->(List aV)->Int->Int->Option (Reached)
 |0,_,_,_,_,_=>none
 |tu+1,c18,c21,c24,nD,c28=>if (decide ((c28:Int)<40))then (
     (ND (⟨c18,c21,c24,nD⟩:Reached) ag bA).bind fun kE=>
     if (!kE.1)then (
       some kE.2)
     else (
       Ha ag bA tu kE.2.Facts kE.2.Values kE.2.Log kE.2.Rounds (IntKind.i64.wrap (c28+1))))
   else (
     some (⟨c18,c21,c24,nD⟩:Reached))
def Ec(ag:List Method)(bA:List Fact)(mg:List Int):Option (Reached):=
 (N_ mg).bind fun r2=>
 Ha ag bA (((40:Int)-0).toNat+2) r2.Facts r2.Values r2.Log r2.Rounds 0
theorem UQ{ag:List Method}{aa:Sv}{bA:List Fact}{ak:Sv}{mg:List Int}{bu:Sv}{R:Reached}(hF:Ec ag bA mg=some R):
   Fw.Spec Tryz.prog 46 [aa.v,ak.v,bu.v] [dQ aa ag,cz ak bA,ah bu mg] (fun p:Sv×List Nat×Sv×List Nat×Sv×List Nat=>(zg [p.1.v,p.2.2.1.v,p.2.2.2.2.1.v,(zi R.Rounds)])) (fun p=>[h_ p.2.1 p.1 R.Facts,bv p.2.2.2.1 p.2.2.1 R.Values,mM p.2.2.2.2.2 p.2.2.2.2.1 R.Log]):=by
 refine Se 18 Tryz.func46 [.cell 6 80] ?_
 intro H0 F0
 unfold Ec at hF
 refine au ?_
 refine cO (fun k1=>?_)
 refine aZ ?_
 refine bnd hF fun r2 hx3 hF=>sQ (am4 hx3) (fun p4=>?_)
 refine cO (fun k5=>?_)
 refine As (zg [p4.1.v,p4.2.2.1.v,p4.2.2.2.2.1.v,(zi r2.Rounds)]) ?_
 refine bf ?_
 refine bn (bU (m:=(((40:Int)-0).toNat+2)) (fun tu f' cs'=>∃(g:Fr)(c18:List Fact)(c21:List Int)(c24:List aV)(nD c28:Int)(v19:Sv)(F20:List Nat)(v22:Sv)(Ng:List Nat)(v25:Sv)(EX:List Nat),f'=aR g [(0,aa.v),(1,ak.v),(6,(pz k1)),(7,(pz k5)),(10,(zi c28))]/\aP cs' [dQ aa ag,cz ak bA,bq k1 80 (zg [(.slice none 0 0),(.slice none 0 0),(.slice none 0 0),(zi 0)]),bq k5 80 (zg [v19.v,v22.v,v25.v,(zi nD)]),h_ F20 v19 c18,bv Ng v22 c21,mM EX v25 c24]/\Ha ag bA tu c18 c21 c24 nD c28=some R) ⟨_,_,_,_,_,_,p4.1,p4.2.1,p4.2.2.1,p4.2.2.2.1,p4.2.2.2.2.1,p4.2.2.2.2.2,aB,aA,hF⟩ ?_)
 rintro tu _ _ ⟨g30,c18,c21,c24,nD,c28,v19,F20,v22,Ng,v25,EX,rfl,hE,hF⟩
 refine bM hE ?_
 rcases tu with _|tu
 · rw[Ha]at hF
   exact absurd hF (by simp)
 rw[Ha]at hF
 refine aL ?_
 refine Ci hF (fun Re hF=>?_) (fun Re hF=>?_)
 · refine bf ?_
   refine bnd hF fun kE hx38 hF=>Cx4 (ams hx38) (fun p39=>?_)
   refine aT ?_
   refine Ci hF (fun Q8 hF=>?_) (fun Q8 hF=>?_)
   · refine au ?_
     refine aap rfl ?_
     refine bf ?_
     refine As (zg [p39.1.v,p39.2.2.1.v,p39.2.2.2.2.1.v,(zi kE.2.Rounds)]) ?_
     refine aT ?_
     cases hF
     exact Er (p39.1,p39.2.1,p39.2.2.1,p39.2.2.2.1,p39.2.2.2.2.1,p39.2.2.2.2.2)
   refine bf ?_
   exact⟨tu,bY _,_,_,_,_,_,_,p39.1,p39.2.1,p39.2.2.1,p39.2.2.2.1,p39.2.2.2.2.1,p39.2.2.2.2.2,aB,aA,hF⟩
 refine bG ?_
 refine As (zg [v19.v,v22.v,v25.v,(zi nD)]) ?_
 refine aT ?_
 cases hF
 exact Er (v19,F20,v22,Ng,v25,EX)
def D6(ai:aO)(bA:List Fact):Option ((List (List Int))):=
 (KM ai bA).bind fun r2=>
 (K5 ai r2).bind fun r5=>
 some r5
theorem Uw{ai:aO}{aa aQ:Sv}{bA:List Fact}{ak:Sv}{R:(List (List Int))}(hF:D6 ai bA=some R):
   Fw.Spec Tryz.prog 45 [(zg [aa.v,aQ.v]),ak.v] [ah aa ai.Head,bX aQ ai.Atoms,cz ak bA] (fun p:Sv×List Nat=>p.1.v) (fun p=>[aJ (az 24 (az 3 (aj ax))) p.2 p.1.v R]):=by
 refine Se 10 Tryz.func45 [.tmp 4] ?_
 intro H0 F0
 unfold D6 at hF
 refine au ?_
 refine bW (fun k1=>?_)
 refine aT ?_
 refine dM [0,1,2,3,4,5] [0,0,0,6,15,31] [3,4] mixed (by decide+kernel) ?_
 refine fw ?_
 refine bnd hF fun r2 hx3 hF=>kZ (ad1 hx3) (fun p4=>?_)
 refine bnd hF fun r5 hx6 hF=>lq rfl rfl .no (.cons .h (.rd (.t .h) rfl (.rd .q2 rfl .nil))) .nil (fun ha=>eY bi (fun _=>(.cons .nil)) (fM (.rd (.t .h) rfl (.rd .q2 rfl (.rd .h rfl .nil))) (bP ajz.h (.cons (EN ha (.tmp rfl rfl) rfl) (.cons (EN ha (.tmp rfl rfl) rfl) .nil)) (aeJ hx6)))) (fun p7=>?_)
 refine bV ?_
 refine au ?_
 cases hF
 exact Er (p7.1,p7.2)
def Kz(ae:List Int)(ag:List Method)(ai:aO)(bA:List Fact):Option ((List (List Int))):=
 ((DK ae ag ai).bind fun r4=>
   bif (!r4)then (some true)
   else ((DL ae bA).bind fun r8=>
     some (!r8))).bind fun o2=>
 match o2 with
 |c11=>if c11 then (
     some [])
   else (
     (yC ai).bind fun eZ=>
     (Ec ag bA eZ).bind fun eT=>
     (D6 ai eT.Facts).bind fun kr=>
     some kr)
theorem ads{ae:List Int}{aa:Sv}{ag:List Method}{ak:Sv}{ai:aO}{bu dw:Sv}{bA:List Fact}{jG:Sv}{R:(List (List Int))}(hF:Kz ae ag ai bA=some R):
   Fw.Spec Tryz.prog 15 [aa.v,ak.v,(zg [bu.v,dw.v]),jG.v] [ah aa ae,dQ ak ag,ah bu ai.Head,bX dw ai.Atoms,cz jG bA] (fun p:Sv×List Nat=>p.1.v) (fun p=>[aJ (az 24 (az 3 (aj ax))) p.2 p.1.v R]):=by
 refine Se 28 Tryz.func15 [.tmp 8] ?_
 intro H0 F0
 unfold Kz at hF
 refine au ?_
 refine bW (fun k1=>?_)
 refine aZ ?_
 obtain⟨o2,kX,hO3⟩:=bind_some hF
 refine au ?_
 refine gB (fun f' cs'=>∃(c11:Bool)(g:Fr),c11=o2/\f'=aR g [(1,ak.v),(3,jG.v),(6,(pz k1)),(19,(.bool c11))]/\aP cs' [dQ ak ag,cz jG bA,a_ k1 28 (zg [bu.v,dw.v]),ah bu ai.Head,bX dw ai.Atoms]) ?_ ?_
 · replace hF:=kX
   refine aZ ?_
   refine bnd hF fun r4 hx5 hF=>bR (Ui hx5) (fun _=>?_)
   refine aT ?_
   rcases df (!r4)with ek|ek
   · rw[ek]
     try rw[ek]at hF; dsimp only[aY,aX]at hF
     exact cK hF
   rw[ek]
   try rw[ek]at hF; dsimp only[aY,aX]at hF
   refine bf ?_
   refine bnd hF fun r8 dm hF=>bR (NJ dm) (fun _=>?_)
   exact cK hF
 rintro _ _ ⟨c11,g22,rfl,rfl,hE⟩
 replace hF:=hO3
 try dsimp only at hF
 refine bM hE ?_
 refine Ci hF (fun xI hF=>?_) (fun xI hF=>?_)
 · refine aL ?_
   cases hF
   exact eO (⟨none,0,0⟩,[]) (.tmp rfl rfl .nil) rfl (.conv .nil (fu (Ro:=(az 3 (aj ax))) (E:=24)) (.cons .nil) (.sel (.cons .h .nil)))
 refine au ?_
 refine dM [0,1,2,3,4,5,6,7,8] [0,0,0,0,8,30,62,127,255] [4,5,7] mixed (by decide+kernel) ?_
 refine sG ?_
 refine bnd hF fun eZ jc hF=>kZ (Kw jc) (fun pX=>?_)
 refine bnd hF fun eT hx16 hF=>Eg rfl rfl .no (.cons .h (.rd .h rfl (.rd (.t .h) rfl .nil))) .nil (fun ha=>eY bi (fun _=>(.cons (.cons (.cons .nil)))) (fM (.rd (.t .h) rfl (.rd .q2 rfl (.rd .h rfl .nil))) (bP Wj.h (.cons (EN ha (.tmp rfl rfl) rfl) (.cons (EN ha (.tmp rfl rfl) rfl) (.cons (EN ha (.tmp rfl rfl) rfl) .nil))) (UQ hx16)))) (fun sS=>?_)
 refine dJ rfl .no (fun ha=>aaf (v:=sS.1.v) ahA QJ.h (EN ha (.tmp rfl rfl) rfl) rfl) ?_
 refine bnd hF fun kr kC hF=>lq rfl rfl .no (.cons (.t .h) (.rd .q6 rfl (.rd .q7 rfl .nil))) .nil (fun ha=>eY bi (fun _=>(.cons .nil)) (fM (.rd (.t .h) rfl (.rd .q2 rfl (.rd .h rfl .nil))) (bP ax0.h (.cons (EN ha (.tmp rfl rfl) rfl) (.cons (EN ha (.tmp rfl rfl) rfl) .nil)) (Uw kC)))) (fun nZ=>?_)
 refine bV ?_
 refine au ?_
 cases hF
 exact Er (nZ.1,nZ.2)
def Oq(ae:List Int)(ai:aO)(bA:List Fact):Option ((List (List Int))):=
 ((Hq ae ai).bind fun r4=>
   bif (!r4)then (some true)
   else ((DL ae bA).bind fun r8=>
     some (!r8))).bind fun o2=>
 match o2 with
 |c11=>if c11 then (
     some [])
   else (
     (D6 ai bA).bind fun eZ=>
     some eZ)
theorem anx{ae:List Int}{aa:Sv}{ai:aO}{ak aU:Sv}{bA:List Fact}{bu:Sv}{R:(List (List Int))}(hF:Oq ae ai bA=some R):
   Fw.Spec Tryz.prog 50 [aa.v,(zg [ak.v,aU.v]),bu.v] [ah aa ae,ah ak ai.Head,bX aU ai.Atoms,cz bu bA] (fun p:Sv×List Nat=>p.1.v) (fun p=>[aJ (az 24 (az 3 (aj ax))) p.2 p.1.v R]):=by
 refine Se 20 Tryz.func50 [.tmp 6] ?_
 intro H0 F0
 unfold Oq at hF
 refine au ?_
 refine bW (fun k1=>?_)
 refine aZ ?_
 obtain⟨o2,kX,hO3⟩:=bind_some hF
 refine au ?_
 refine gB (fun f' cs'=>∃(c11:Bool)(g:Fr),c11=o2/\f'=aR g [(2,bu.v),(4,(pz k1)),(16,(.bool c11))]/\aP cs' [cz bu bA,a_ k1 28 (zg [ak.v,aU.v]),ah ak ai.Head,bX aU ai.Atoms]) ?_ ?_
 · replace hF:=kX
   refine aT ?_
   refine bnd hF fun r4 hx5 hF=>bR (YN hx5) (fun _=>?_)
   refine aT ?_
   rcases df (!r4)with ek|ek
   · rw[ek]
     try rw[ek]at hF; dsimp only[aY,aX]at hF
     exact cK hF
   rw[ek]
   try rw[ek]at hF; dsimp only[aY,aX]at hF
   refine bf ?_
   refine bnd hF fun r8 dm hF=>bR (NJ dm) (fun _=>?_)
   exact cK hF
 rintro _ _ ⟨c11,g16,rfl,rfl,hE⟩
 replace hF:=hO3
 try dsimp only at hF
 refine bM hE ?_
 refine Ci hF (fun Q7 hF=>?_) (fun Q7 hF=>?_)
 · refine aL ?_
   cases hF
   exact eO (⟨none,0,0⟩,[]) (.tmp rfl rfl .nil) rfl (.conv .nil (fu (Ro:=(az 3 (aj ax))) (E:=24)) (.cons .nil) (.sel (.cons .h .nil)))
 refine aL ?_
 refine bnd hF fun eZ jc hF=>dW (Uw jc) (fun pX=>?_)
 refine aZ ?_
 cases hF
 exact Er (pX.1,pX.2)
def FR:List (List Int)->Nat->(List (List Int))->Option ((List (List Int)))
 |[],k8,c2=>some c2
 |fq::fD,k8,c2=>(uL fq).bind fun nG=>
   (app c2 ([nG]:List (List Int))).bind fun z24=>
   FR fD (k8+1) z24
def Ux(ag:List (List Int)):Option ((List (List Int))):=
 FR ag 0 ([]:List (List Int))
theorem am5{ag:List (List Int)}{aa:Sv}{R:(List (List Int))}(hF:Ux ag=some R):
   Fw.Spec Tryz.prog 104 [aa.v] [bT (aW 24 (aW 3 ax)) aa.v ag] (fun p:Sv×List Nat=>p.1.v) (fun p=>[aJ (az 24 (az 3 (aj ax))) p.2 p.1.v R]):=by
 refine Se 20 Tryz.func104 [.tmp 2] ?_
 intro H0 F0
 unfold Ux at hF
 refine aL ?_
 refine b_ rfl (bI (g:=true) gJ.h fB.h .nil (vs:=[]) rfl rfl rfl (by simp)) (fun k1=>?_)
 refine dh (.cons .h .nil) (bK (Ro:=(az 3 (aj ax))) (E:=24) (F:=[]) (xs:=([]:List (List Int))) bJ rfl rfl) ?_
 refine fI ?_
 refine bn (bU (m:=ag.length) (fun m6 f' cs'=>∃(g:Fr)(k8:Nat)(fD c2:List (List Int))(v3:Sv)(F4:List Nat),m6=fD.length/\f'=aR g [(3,v3.v),(7,aa.v),(8,(zi (ag.length:Int))),(9,(zi (k8:Int)))]/\List.drop k8 ag=fD/\aP cs' [aJ (az 24 (az 3 (aj ax))) F4 v3.v c2,bT (aW 24 (aW 3 ax)) aa.v ag]/\FR fD k8 c2=some R) ⟨_,0,_,_,⟨(some ⟨k1,0,none⟩),0,1⟩,(k1::[]),rfl,aB,rfl,aA,hF⟩ ?_)
 rintro m6 _ _ ⟨g7,k8,fD,c2,v3,F4,rfl,rfl,jA,hE,hF⟩
 refine Kb hE ag (fun LX=>?_)
 rcases fD with _|⟨fq,fD⟩
 · have u7:=dn jA
   rw[FR]at hF
   refine aL ?_
   refine dE ?_
   refine eU ?_
   cases hF
   exact Er (v3,F4)
 obtain⟨u7,jc,u_⟩:=dA jA
 rw[FR]at hF
 refine aL ?_
 refine dD ?_
 refine aZ ?_
 refine Ai jc (fun k17 SB=>?_)
 refine ng (R':=(aW 3 ax)) fT.h (.tmp rfl rfl) .h rC (fun w19=>?_)
 refine bf ?_
 refine bnd hF fun nG nS hF=>dW (zC nS) (fun iI=>?_)
 refine b_ rfl (bI (g:=true) gJ.h fB.h bz (vs:=[iI.1.v]) rfl rfl rfl (by intro v hv; simp at hv; rcases hv with rfl<;>rfl)) (fun k23=>?_)
 refine dh (.cons .h (.cons .h .nil)) (bK (Ro:=(az 3 (aj ax))) (E:=24) (F:=(iI.2++[])) (xs:=([nG]:List (List Int))) (bS uR bJ bB) rfl rfl) ?_
 refine bnd hF fun z24 hx25 hF=>dC (.cons .q3 (.cons .h .nil)) (dL (Ro:=(az 3 (aj ax))) gJ.h Es fB.h rfl rfl rfl (.tmp rfl rfl) (.tmp rfl rfl) hx25 eX) (fun p26=>?_)
 refine bG ?_
 rw[wk k8]
 exact⟨_,bY _,_,k8+1,fD,_,p26.1,p26.2,rfl,aB,u_,aA,hF⟩
def yE(dY:List Int)(aD:List (List Int)):Option (Bool):=
 (DN aD dY).bind fun r1=>
 some r1
theorem aes{dY:List Int}{aa:Sv}{bD:Nat}{aD:List (List Int)}{dO:Sv}{R:Bool}(hF:yE dY aD=some R):
   Fw.Spec Tryz.prog 105 [aa.v,(pz bD)] [ah aa dY,a_ bD 32 dO.v,bT (aW 24 (aW 3 ax)) dO.v aD] (fun _:Unit=>(.bool R)) (fun _=>[]):=by
 refine Se 7 Tryz.func105 [.tmp 3] ?_
 intro H0 F0
 unfold yE at hF
 refine bG ?_
 refine bnd hF fun r1 hx2 hF=>bR (Ul hx2) (fun _=>?_)
 exact ze hF
def Kk(aD:List (List Int)):List (List Int)->Nat->Option (Int)
 |[],k4=>some (-1)
 |x6::aG,k4=>(yE x6 aD).bind fun r16=>
   if r16 then (
     some (k4:Int))
   else (
     Kk aD aG (k4+1))
def Yb(ae:List (List Int))(aD:List (List Int)):Option (Int):=
 Kk aD ae 0
theorem al0{ae:List (List Int)}{aa:Sv}{bD:Nat}{aD:List (List Int)}{dO:Sv}{R:Int}(hF:Yb ae aD=some R):
   Fw.Spec Tryz.prog 170 [aa.v,(.func (.func 105) [].toArray [(pz bD)].toArray)] [bT (aW 24 (aW 3 ax)) aa.v ae,a_ bD 32 dO.v,bT (aW 24 (aW 3 ax)) dO.v aD] (fun _:Unit=>(zi R)) (fun _=>[]):=by
 refine Se 19 Tryz.func170 [.tmp 4] ?_
 intro H0 F0
 unfold Yb at hF
 refine eU ?_
 refine bn (bU (m:=ae.length) (fun m2 f' cs'=>∃(g:Fr)(k4:Nat)(aG:List (List Int)),m2=aG.length/\f'=aR g [(0,aa.v),(1,(.func (.func 105) [].toArray [(pz bD)].toArray)),(7,(zi (ae.length:Int))),(8,(zi (k4:Int)))]/\List.drop k4 ae=aG/\aP cs' [bT (aW 24 (aW 3 ax)) aa.v ae,a_ bD 32 dO.v,bT (aW 24 (aW 3 ax)) dO.v aD]/\Kk aD aG k4=some R) ⟨_,0,_,rfl,aB,rfl,aA,hF⟩ ?_)
 rintro m2 _ _ ⟨g3,k4,aG,rfl,rfl,hd7,hE,hF⟩
 refine Kb hE ae (fun jL=>?_)
 rcases aG with _|⟨x6,aG⟩
 · have fG:=dn hd7
   rw[Kk]at hF
   refine aL ?_
   refine dE ?_
   exact ze hF
 obtain⟨fG,dm,fF⟩:=dA hd7
 rw[Kk]at hF
 refine aL ?_
 refine dD ?_
 refine lT ?_
 refine Ai dm (fun k13 lc=>?_)
 refine ng (R':=(aW 3 ax)) fT.h (.tmp rfl rfl) .h rC (fun XV=>?_)
 refine bnd hF fun r16 jy hF=>mh (.rd .h rfl (.rd .q3 rfl (.rd .q4 rfl .nil))) (lm aiC.h (.tmp rfl rfl) bz (aes jy)) (fun _=>?_)
 refine au ?_
 refine Ci hF (fun kW hF=>?_) (fun kW hF=>?_)
 · exact ze hF
 refine bf ?_
 rw[wk k4]
 exact⟨_,bY _,_,k4+1,aG,rfl,aB,fF,aA,hF⟩
def TI(ae:List (List Int))(aD:List (List Int)):Option (List (List Int)):=
 IE (fun ai=>yE ai aD) ae
theorem alV(qs:List (Value×List Int))(v:Sv)(F:List Nat)(bD:Nat)(aD:List (List Int))(dO:Sv)(p:Value×List Int->Bool)(hcl:∀q∈qs,yE q.2 aD=some (p q))(hidx:Yb (qs.map Prod.snd) aD=some (iU p qs 0))(hbd:qs.length<4611686018427387904):
   Fw.Spec Tryz.prog 103 [v.v,(.func (.func 105) [].toArray [(.pointer (some ⟨bD,0,some 0⟩))].toArray)] [aJ (az 24 (aj (rq (aW 3 ax)))) F v.v qs,a_ bD 32 dO.v,bT (aW 24 (aW 3 ax)) dO.v aD] (fun q:Sv×List Nat=>q.1.v) (fun q=>[aJ (az 24 (aj (rq (aW 3 ax)))) q.2 q.1.v (qs.filter fun a=>!p a)]):=by
 refine zV (n:=42) Tryz.func103 rfl rfl (rs:=[.tmp 4]) rfl rfl rfl ?_
 intro H0 F0
 refine cB ?_
 refine aK (iG (v:=(.slice none 0 0)) EV.nilSlice) ?_
 refine dS ?_
 refine cB ?_
 refine aK (cu (v:=v.v) (.tmp rfl rfl)) ?_
 refine aK (cu (v:=(.func (.func 105) [].toArray [(.pointer (some ⟨bD,0,some 0⟩))].toArray)) (.tmp rfl rfl)) ?_
 refine dC (.cons .h (.rd .h rfl (.rd (.t .h) rfl .nil))) (ahk ahW (fun _=>.nil) (fM (.rd (.t (.t .h)) rfl (.rd .h rfl (.rd (.t .h) rfl .nil))) (bP aiy.h (.cons (.tmp rfl rfl) (.cons (.tmp rfl rfl) .nil)) (@al0 (qs.map Prod.snd) v bD aD dO _ hidx)))) (fun _=>?_)
 generalize hR:iU p qs 0=R0
 refine aK (iG (v:=(.int .i64 R0)) (.tmp rfl rfl)) ?_
 refine dS ?_
 refine j6 ?_
 refine cB ?_
 refine aK (cu (v:=(.int .i64 R0)) (.tmp rfl rfl)) ?_
 refine aK (rE (i:=R0) (j:=(-1)) (.tmp rfl rfl) (.int _ _)) ?_
 refine dS ?_
 refine kQ (b:=(R0==(-1:Int))) (.tmp rfl rfl) (fun hb=>?_) (fun hb=>?_)
 · refine cB ?_
   refine aK (cu (v:=v.v) (.tmp rfl rfl)) ?_
   refine aK (iG (v:=v.v) (.tmp rfl rfl)) ?_
   refine dS ?_
   refine tY ?_
   have e:qs.filter (fun q=>!p q)=qs:=ZX (k:=0) (by rw[hR]; simpa using hb)
   rw[e]
   exact eO (v,F) (.tmp rfl rfl .nil) rfl (.sel (.cons .h .nil))
 refine qd ?_
 obtain⟨i0,hi0,hi1⟩:∃i:Nat,R0=(i:Int)/\i<qs.length:=by
   rcases Zv p qs 0 with h|⟨i,h,hi⟩
   · rw[hR]at h; subst h; simp at hb
   · exact⟨i,by rw[←hR,h],by omega⟩
 subst hi0
 refine j6 ?_
 refine cB ?_
 refine aK (cu (v:=(.int .i64 (i0:Int))) (.tmp rfl rfl)) ?_
 refine aK (kL (i:=(i0:Int)) (j:=1) (.tmp rfl rfl) (.int _ _)) ?_
 rw[show IntKind.i64.wrap ((i0:Int)+1)=((i0+1:Nat):Int)from by rw[dX (by omega) (by omega)]; rfl]
 refine aK (iG (v:=(.int .i64 ((i0+1:Nat):Int))) (.tmp rfl rfl)) ?_
 refine dS ?_
 refine bn ?_
 refine bU (m:=qs.length-(i0+1)) (fun m f' cs'=>∃(g:Fr)(cur:List (Value×List Int))(i j:Nat)(F':List Nat),m=qs.length-j/\f'=aR g [(0,v.v),(1,(.func (.func 105) [].toArray [(.pointer (some ⟨bD,0,some 0⟩))].toArray)),(5,(.int .i64 (i:Int))),(6,(.int .i64 (j:Int)))]/\rH p qs cur i j/\aP cs' [aJ (az 24 (aj (rq (aW 3 ax)))) F' v.v cur,a_ bD 32 dO.v,bT (aW 24 (aW 3 ax)) dO.v aD]) ⟨_,qs,i0,i0+1,F,rfl,(cZ.cons rfl (cZ.cons rfl (cZ.cons rfl (cZ.cons rfl (cZ.nil))))).eq,rH.init (by rw[hR]),.sel (.cons .h (.rd .h rfl (.rd (.t .h) rfl .nil)))⟩ ?_
 rintro m _ _ ⟨g,cur,i,j,F',rfl,rfl,hI,hE⟩
 refine bM hE ?_
 clear hE
 refine j6 ?_
 refine cB ?_
 refine aK (cu (v:=(.int .i64 (j:Int))) (.tmp rfl rfl)) ?_
 refine aK (cu (v:=v.v) (.tmp rfl rfl)) ?_
 refine iH .h (fun hp=>qD (l:=cur.length) gJ.h (.tmp rfl rfl) (Ab hp)) ?_
 refine aK (yP (i:=(j:Int)) (j:=(cur.length:Int)) (.tmp rfl rfl) (.tmp rfl rfl)) ?_
 refine dS ?_
 have hlen:=hI.len
 have hij:=hI.lt
 have hjl:=hI.le
 refine kQ (b:=(decide ((j:Int)<(cur.length:Int)))) (.tmp rfl rfl) (fun hb2=>?_) (fun hb2=>?_)
 · refine qd ?_
   have hj:j<qs.length:=by simp at hb2; omega
   obtain⟨x,hx1,hx2⟩:=hI.at hj
   refine PH ?_
   refine cB ?_
   refine aK (cu (v:=v.v) (.tmp rfl rfl)) ?_
   refine aK (cu (v:=(.int .i64 (j:Int))) (.tmp rfl rfl)) ?_
   refine rA gJ.h fB.h.sz (.tmp rfl rfl) (.tmp rfl rfl) .h (by simp; omega) (fun k hk=>?_)
   refine aqY (a:=x) (u:=fun i:Sv=>i.v) (cc:=fun i=>[bT (aW 3 ax) i.v x.2]) fT.h (.tmp rfl rfl) .h hk (by simpa using hx1) (fun H e h=>by obtain⟨-,h1⟩:=h; obtain⟨a0,m,rfl⟩:=aW.len h1; exact⟨⟨a0,_,m⟩,rfl,rfl,by simpa[bT]using h1⟩) (fun w=>?_)
   refine aK (iG (v:=w.v) (.tmp rfl rfl)) ?_
   refine dS ?_
   refine cB ?_
   refine aK (cu (v:=(.func (.func 105) [].toArray [(.pointer (some ⟨bD,0,some 0⟩))].toArray)) (.tmp rfl rfl)) ?_
   refine aK (cu (v:=w.v) (.tmp rfl rfl)) ?_
   refine mh (.rd (.t .h) rfl (.rd (.t (.t (.t .h))) rfl (.rd (.t (.t (.t (.t .h)))) rfl .nil))) (lm aiC.h (.tmp rfl rfl) (.cons (.tmp rfl rfl) .nil) (@aes x.2 w bD aD dO _ (hcl x (List.mem_of_getElem? hx2)))) (fun _=>?_)
   refine aK (LV (b:=p x) (.tmp rfl rfl)) ?_
   refine dS ?_
   refine kQ (b:=(!p x)) (.tmp rfl rfl) (fun hb3=>?_) (fun hb3=>?_)
   · refine cB ?_
     refine aK (cu (v:=v.v) (.tmp rfl rfl)) ?_
     refine aK (cu (v:=(.int .i64 (i:Int))) (.tmp rfl rfl)) ?_
     refine aK (cu (v:=w.v) (.tmp rfl rfl)) ?_
     have hii:(decide ((0:Int)<=(i:Int))&&decide ((i:Int)<(cur.length:Int)))=true:=by simp; omega
     refine rA gJ.h fB.h.sz (.tmp rfl rfl) (.tmp rfl rfl) (.t (.t .h)) hii (fun k2 hk2=>?_)
     refine dC (.cons (.t (.t .h)) (.rd .h rfl .nil)) (D8 (Ro:=aj (rq (aW 3 ax))) (a:=x) (i:=(i:Int)) fB.h.sz rfl (.tmp rfl rfl) (.tmp rfl rfl) hk2 hii VG (fun _ _ _ _ h=>by obtain⟨-,-,h1⟩:=h; obtain⟨_,_,rfl⟩:=aW.len h1; rfl)) (fun F2=>?_)
     refine dS ?_
     refine qY ?_
     refine aK (cu (v:=(.int .i64 (i:Int))) (.tmp rfl rfl)) ?_
     refine aK (kL (i:=(i:Int)) (j:=1) (.tmp rfl rfl) (.int _ _)) ?_
     rw[show IntKind.i64.wrap ((i:Int)+1)=((i+1:Nat):Int)from by rw[dX (by omega) (by omega)]; rfl]
     refine aK (iG (v:=(.int .i64 ((i+1:Nat):Int))) (.tmp rfl rfl)) ?_
     refine dS ?_
     refine qY ?_
     refine aK (cu (v:=(.int .i64 (j:Int))) (.tmp rfl rfl)) ?_
     refine aK (kL (i:=(j:Int)) (j:=1) (.tmp rfl rfl) (.int _ _)) ?_
     rw[show IntKind.i64.wrap ((j:Int)+1)=((j+1:Nat):Int)from by rw[dX (by omega) (by omega)]; rfl]
     refine aK (iG (v:=(.int .i64 ((j+1:Nat):Int))) (.tmp rfl rfl)) ?_
     refine dS ?_
     exact⟨_,by omega,_,cur.set i x,i+1,j+1,F2,rfl,(cZ.cons rfl (cZ.cons rfl (cZ.cons rfl (cZ.cons rfl (cZ.nil))))).eq,hI.no hx2 (by simpa using hb3),.sel (.cons .h (.rd (.t (.t .h)) rfl (.rd (.t (.t (.t .h))) rfl .nil)))⟩
   · refine qd ?_
     refine qY ?_
     refine aK (cu (v:=(.int .i64 (j:Int))) (.tmp rfl rfl)) ?_
     refine aK (kL (i:=(j:Int)) (j:=1) (.tmp rfl rfl) (.int _ _)) ?_
     rw[show IntKind.i64.wrap ((j:Int)+1)=((j+1:Nat):Int)from by rw[dX (by omega) (by omega)]; rfl]
     refine aK (iG (v:=(.int .i64 ((j+1:Nat):Int))) (.tmp rfl rfl)) ?_
     refine dS ?_
     exact⟨_,by omega,_,cur,i,j+1,F',rfl,(cZ.cons rfl (cZ.cons rfl (cZ.cons rfl (cZ.cons rfl (cZ.nil))))).eq,hI.yes hx2 (by simpa using hb3),.sel (.cons (.t (.t .h)) (.rd (.t (.t .h)) rfl (.rd (.t (.t (.t .h))) rfl .nil)))⟩
 · refine H9 ?_
   refine zU ?_
   refine zU ?_
   refine Hz ?_
   have hj:qs.length<=j:=by simp at hb2; omega
   refine yO .h (Lh (by intro e; rw[e]at hlen; simp at hlen; omega)) (fun hv=>?_)
   obtain⟨k0,m0,rfl,hm0⟩:=hv
   refine cB ?_
   refine aK (cu (v:=(.slice (some ⟨k0,0,none⟩) cur.length m0)) (.tmp rfl rfl)) ?_
   refine aK (cu (v:=(.int .i64 (i:Int))) (.tmp rfl rfl)) ?_
   refine af1 gJ.h fB.h.sz (.tmp rfl rfl) (.tmp rfl rfl) .h (by omega) (by omega) ?_
   refine dC (.cons .h .nil) (ahn (l:=cur.length) (m:=m0) (k:=k0) (i:=i) (j:=cur.length-i) gJ.h fB.h rfl rfl rfl rfl rfl (by omega) (.tmp rfl rfl)) (fun _=>?_)
   refine dS ?_
   refine cB ?_
   refine aK (cu (v:=(.slice (some ⟨k0,0,none⟩) cur.length m0)) (.tmp rfl rfl)) ?_
   refine aK (cu (v:=(.int .i64 (i:Int))) (.tmp rfl rfl)) ?_
   refine af2 gJ.h fB.h.sz (.tmp rfl rfl) hm0 (.tmp rfl rfl) .h rfl (by omega) (by omega) (by omega) ?_
   refine aK (iG (v:=(.slice (some ⟨k0,0,none⟩) i 2)) (.tmp rfl rfl)) ?_
   refine dS ?_
   refine tY ?_
   rw[←hI.fin hj]
   exact eO (⟨some ⟨k0,0,none⟩,i,2⟩,F') (.tmp rfl rfl .nil) rfl (.sel (.cons .h .nil))
theorem alW{ae:List (List Int)}{aa:Sv}{lF:List Nat}{bD:Nat}{aD:List (List Int)}{dO:Sv}{R:List (List Int)}(hF:TI ae aD=some R):
   Fw.Spec Tryz.prog 103 [aa.v,(.func (.func 105) [].toArray [(.pointer (some ⟨bD,0,some 0⟩))].toArray)] [aJ (az 24 (az 3 (aj ax))) lF aa.v ae,a_ bD 32 dO.v,bT (aW 24 (aW 3 ax)) dO.v aD] (fun p:Sv×List Nat=>p.1.v) (fun p=>[aJ (az 24 (az 3 (aj ax))) p.2 p.1.v R]):=by
 unfold TI at hF
 obtain⟨h1,h2⟩:=Zu hF
 refine af3 afA (fun hb=>?_)
 refine af0 (R:=(aW 3 ax)) rfl (fun es F1 hel=>⟨(es.zip ae).filter (fun a=>!(yE a.2 aD).getD false),List.filter_sublist,by rw[h2]; exact afC (fun a=>(yE a aD).getD false) es ae hel,?_⟩)
 refine alV (es.zip ae) aa F1 bD aD dO (fun a=>(yE a.2 aD).getD false) (fun q hq=>h1 q.2 (List.of_mem_zip hq).2) ?_ (by simp; omega)
 rw[List.map_snd_zip (Nat.le_of_eq hel.symm),←aad Prod.snd (fun a=>(yE a aD).getD false),List.map_snd_zip (Nat.le_of_eq hel.symm)]
 exact oQ (L:=Kk aD) (fun _=>rfl) (fun _ _ _=>rfl) ae 0 h1
def OZ(ag:List (List Int))(Vk:List (List Int)):Option ((List (List Int))):=
 (Ux ag).bind fun r2=>
 (TI r2 Vk).bind fun r5=>
 some r5
theorem aoC{ag:List (List Int)}{aa:Sv}{Vk:List (List Int)}{ak:Sv}{R:(List (List Int))}(hF:OZ ag Vk=some R):
   Fw.Spec Tryz.prog 49 [aa.v,ak.v] [bT (aW 24 (aW 3 ax)) aa.v ag,bT (aW 24 (aW 3 ax)) ak.v Vk] (fun p:Sv×List Nat=>p.1.v) (fun p=>[aJ (az 24 (az 3 (aj ax))) p.2 p.1.v R]):=by
 refine Se 9 Tryz.func49 [.tmp 4] ?_
 intro H0 F0
 unfold OZ at hF
 refine au ?_
 refine bW (fun k1=>?_)
 refine aL ?_
 refine bnd hF fun r2 hx3 hF=>dW (am5 hx3) (fun p4=>?_)
 refine aK (rV (fn:=.func 105) (vs:=[]) (us:=[(pz k1)]) .nil bz) ?_
 refine bnd hF fun r5 hx6 hF=>dW (alW hx6) (fun p7=>?_)
 refine aZ ?_
 cases hF
 exact Er (p7.1,p7.2)
def NP(ae:List Int)(ag:List Method)(ai:aO)(bA:List Fact):Option ((List (List Int))):=
 (KL ae ag).bind fun r2=>
 if (!r2)then (
   some [])
 else (
   (Oq ae ai bA).bind fun r5=>
   (Kz ae ag ai bA).bind fun r8=>
   (OZ r5 r8).bind fun fo=>
   some fo)
theorem amN{ae:List Int}{aa:Sv}{ag:List Method}{ak:Sv}{ai:aO}{bu dw:Sv}{bA:List Fact}{jG:Sv}{R:(List (List Int))}(hF:NP ae ag ai bA=some R):
   Fw.Spec Tryz.prog 16 [aa.v,ak.v,(zg [bu.v,dw.v]),jG.v] [ah aa ae,dQ ak ag,ah bu ai.Head,bX dw ai.Atoms,cz jG bA] (fun p:Sv×List Nat=>p.1.v) (fun p=>[aJ (az 24 (az 3 (aj ax))) p.2 p.1.v R]):=by
 refine Se 23 Tryz.func16 [.tmp 8] ?_
 intro H0 F0
 unfold NP at hF
 refine au ?_
 refine bW (fun k1=>?_)
 refine bG ?_
 refine bnd hF fun r2 hx3 hF=>bR (adZ hx3) (fun _=>?_)
 refine aT ?_
 refine Ci hF (fun acf hF=>?_) (fun acf hF=>?_)
 · refine aL ?_
   cases hF
   exact eO (⟨none,0,0⟩,[]) (.tmp rfl rfl .nil) rfl (.conv .nil (fu (Ro:=(az 3 (aj ax))) (E:=24)) (.cons .nil) (.sel (.cons .h .nil)))
 refine au ?_
 refine dM [0,1,2,4,5,6,7,3,8,9,10] [0,0,0,7,0,0,0,0,255,511,1023] [3,8,9] mixed (by decide+kernel) ?_
 refine ax7 ?_
 refine bnd hF fun r5 hx6 hF=>kZ (anx hx6) (fun p7=>?_)
 refine bnd hF fun r8 dm hF=>kZ (ads dm) (fun dP=>?_)
 refine bnd hF fun fo uZ hF=>AL rfl rfl .no (.cons .h (.cons .h .nil)) .nil (fun ha=>iW (pre:=[]) (.cons bi (.cons bi .nil)) (fun _=>(.cons .nil)) (bP ax2.h (.cons (EN ha (.tmp rfl rfl) rfl) (.cons (EN ha (.tmp rfl rfl) rfl) .nil)) (aoC uZ))) (fun vH=>?_)
 refine bV ?_
 refine au ?_
 cases hF
 exact Er (vH.1,vH.2)
def NQ(fuel:Nat)(ai:aO):Option ((List Fact)×aM×Bool):=
 (yC ai).bind fun r3=>
 (Lm fuel ai r3).bind fun r6=>
 some (r6.1,r6.2.1,r6.2.2)
theorem amO{fuel:Nat}{ai:aO}{aa aQ:Sv}{R:(List Fact)×aM×Bool}(hF:NQ fuel ai=some R):
   Fw.Spec Tryz.prog 51 [(zg [aa.v,aQ.v])] [ah aa ai.Head,bX aQ ai.Atoms] (fun p:Sv×List Nat×Sv×List Nat×Sv×List Nat=>(.tuple [p.1.v,(zg [p.2.2.1.v,p.2.2.2.2.1.v]),(.bool R.2.2)].toArray)) (fun p=>[h_ p.2.1 p.1 R.1,bv p.2.2.2.1 p.2.2.1 R.2.1.Vars,bv p.2.2.2.2.2 p.2.2.2.2.1 R.2.1.Values]):=by
 refine Se 12 Tryz.func51 [.tmp 2,.cell 3 85,.tmp 4] ?_
 intro H0 F0
 unfold NQ at hF
 refine au ?_
 refine bW (fun k1=>?_)
 refine au ?_
 refine cO (fun k2=>?_)
 refine aT ?_
 refine dM [0,1,2,3,4,5,6,7,8,9] [0,0,2,7,15,15,15,127,255,511] [2,3,8] mixed (by decide+kernel) ?_
 refine bV ?_
 refine bnd hF fun r3 hx4 hF=>kZ (Kw hx4) (fun p5=>?_)
 refine bnd hF fun r6 hx7 hF=>Eg rfl rfl .no (.cons .h (.rd .q2 rfl (.rd .q3 rfl .nil))) .nil (fun ha=>eY bi (fun _=>(.cons (.cons (.cons .nil)))) (fM (.rd (.t .h) rfl (.rd .q2 rfl (.rd .h rfl .nil))) (bP ajw.h (.cons (EN ha (.tmp rfl rfl) rfl) (.cons (EN ha (.tmp rfl rfl) rfl) .nil)) (ae_ hx7)))) (fun p8=>?_)
 refine dJ rfl .no (fun ha=>qz (l:=[p8.1.v,(zg [p8.2.2.1.v,p8.2.2.2.2.1.v]),(.bool r6.2.2)]) (v:=p8.1.v) (EN ha (.tmp rfl rfl) rfl) rfl) ?_
 refine dJ rfl .no (fun ha=>qz (l:=[p8.1.v,(zg [p8.2.2.1.v,p8.2.2.2.2.1.v]),(.bool r6.2.2)]) (v:=(zg [p8.2.2.1.v,p8.2.2.2.2.1.v])) (EN ha (.tmp rfl rfl) rfl) rfl) ?_
 refine dJ rfl .no (fun ha=>qz (l:=[p8.1.v,(zg [p8.2.2.1.v,p8.2.2.2.2.1.v]),(.bool r6.2.2)]) (v:=(.bool r6.2.2)) (EN ha (.tmp rfl rfl) rfl) rfl) ?_
 refine du ?_
 refine bZ rfl rfl .no (.cons .q4 .nil) .nil (fun ha=>fA (e':=(zg [p8.2.2.1.v,p8.2.2.2.2.1.v])) (v:=(zg [p8.2.2.1.v,p8.2.2.2.2.1.v])) d_.h.sz (EN ha (.tmp rfl rfl) rfl) (EN ha (.tmp rfl rfl) rfl) rfl rfl rfl rfl rfl) (fun _=>?_)
 refine bV ?_
 refine au ?_
 cases hF
 exact eO (p8.1,p8.2.1,p8.2.2.1,p8.2.2.2.1,p8.2.2.2.2.1,p8.2.2.2.2.2) (.tmp rfl rfl (.cellA rfl rfl .h rfl jN.h d_.h.sz rfl rfl (.tmp rfl rfl .nil))) rfl (.sel (.cons .q2 (.cons .q2 (.cons .q2 .nil))))
def FK(fuel:Nat)(ae:List Int)(ag:List Method)(ai:aO):Option (l9×Bool):=
 ((DK ae ag ai).bind fun r5=>
   bif (!r5)then (some true)
   else ((yD fuel ae ag ai).bind fun r9=>
     some r9)).bind fun o3=>
 match o3 with
 |c12=>if c12 then (
     some ((⟨[],[],[]⟩:l9),false))
   else (
     (NQ fuel ai).bind fun fC=>
     if (!fC.2.2)then (
       some ((⟨[],[],[]⟩:l9),false))
     else (
       (yC ai).bind fun iq=>
       (Ec ag fC.1 iq).bind fun nG=>
       (D5 ai fC.2.1).bind fun n_=>
       some ((⟨fC.1,nG.Facts,n_⟩:l9),true)))
theorem ami{fuel:Nat}{ae:List Int}{aa:Sv}{ag:List Method}{ak:Sv}{ai:aO}{bu dw:Sv}{R:l9×Bool}(hF:FK fuel ae ag ai=some R):
   Fw.Spec Tryz.prog 17 [aa.v,ak.v,(zg [bu.v,dw.v])] [ah aa ae,dQ ak ag,ah bu ai.Head,bX dw ai.Atoms] (fun p:Sv×List Nat×Sv×List Nat×Sv×List Nat=>(.tuple [(zg [p.1.v,p.2.2.1.v,p.2.2.2.2.1.v]),(.bool R.2)].toArray)) (fun p=>[h_ p.2.1 p.1 R.1.All,h_ p.2.2.2.1 p.2.2.1 R.1.Some,bv p.2.2.2.2.2 p.2.2.2.2.1 R.1.Tuple]):=by
 refine Se 43 Tryz.func17 [.cell 6 44,.tmp 7] ?_
 intro H0 F0
 unfold FK at hF
 refine au ?_
 refine bW (fun k1=>?_)
 refine cO (fun k2=>?_)
 refine aZ ?_
 obtain⟨o3,lW,hO4⟩:=bind_some hF
 refine au ?_
 refine gB (fun f' cs'=>∃(c12:Bool)(g:Fr),c12=o3/\f'=aR g [(1,ak.v),(5,(pz k1)),(6,(pz k2)),(21,(.bool c12))]/\aP cs' [dQ ak ag,a_ k1 28 (zg [bu.v,dw.v]),ah bu ai.Head,bX dw ai.Atoms,bq k2 44 (zg [(.slice none 0 0),(.slice none 0 0),(.slice none 0 0)])]) ?_ ?_
 · replace hF:=lW
   refine aZ ?_
   refine bnd hF fun r5 hx6 hF=>bR (Ui hx6) (fun _=>?_)
   refine aT ?_
   rcases df (!r5)with dR|dR
   · rw[dR]
     try rw[dR]at hF; dsimp only[aY,aX]at hF
     exact cK hF
   rw[dR]
   try rw[dR]at hF; dsimp only[aY,aX]at hF
   refine bQ ?_
   refine bnd hF fun r9 gu hF=>bR (Ub gu) (fun _=>?_)
   exact cK hF
 rintro _ _ ⟨c12,g28,rfl,rfl,hE⟩
 replace hF:=hO4
 try dsimp only at hF
 refine bM hE ?_
 refine Ci hF (fun BM hF=>?_) (fun BM hF=>?_)
 · refine au ?_
   refine aK (gH lD.h rfl (vs:=[]) .nil (cells:=[(.slice none 0 0),(.slice none 0 0),(.slice none 0 0)]) rfl) ?_
   refine As (zg [(.slice none 0 0),(.slice none 0 0),(.slice none 0 0)]) ?_
   refine aZ ?_
   cases hF
   exact eO (⟨none,0,0⟩,[],⟨none,0,0⟩,[],⟨none,0,0⟩,[]) (.cellA rfl rfl .h rfl sF.h lD.h.sz rfl rfl (.tmp rfl rfl .nil)) rfl (.conv .nil (fu (Ro:=gD) (E:=71)) (.cons .nil) (.conv .nil (fu (Ro:=gD) (E:=71)) (.cons .nil) (.conv .nil (fu (Ro:=(aj ax)) (E:=3)) (.cons .nil) (.sel (.cons .q2 (.cons (.t .h) (.cons .h .nil)))))))
 refine aZ ?_
 refine bnd hF fun fC fQ hF=>sQ (amO fQ) (fun gT=>?_)
 refine au ?_
 refine zx ?_
 refine zx ?_
 refine zx ?_
 refine cO (fun k16=>?_)
 refine au ?_
 refine As (zg [gT.2.2.1.v,gT.2.2.2.2.1.v]) ?_
 refine bQ ?_
 refine Ci hF (fun IZ hF=>?_) (fun IZ hF=>?_)
 · refine au ?_
   refine aK (gH lD.h rfl (vs:=[]) .nil (cells:=[(.slice none 0 0),(.slice none 0 0),(.slice none 0 0)]) rfl) ?_
   refine As (zg [(.slice none 0 0),(.slice none 0 0),(.slice none 0 0)]) ?_
   refine aZ ?_
   cases hF
   exact eO (⟨none,0,0⟩,[],⟨none,0,0⟩,[],⟨none,0,0⟩,[]) (.cellA rfl rfl .h rfl sF.h lD.h.sz rfl rfl (.tmp rfl rfl .nil)) rfl (.conv .nil (fu (Ro:=gD) (E:=71)) (.cons .nil) (.conv .nil (fu (Ro:=gD) (E:=71)) (.cons .nil) (.conv .nil (fu (Ro:=(aj ax)) (E:=3)) (.cons .nil) (.sel (.cons .q2 (.cons (.t .h) (.cons .h .nil)))))))
 refine au ?_
 refine dM [0,1,2,3,7,8,4,5,6,9,10,11,12] [0,0,0,0,8,30,62,0,0,446,1023,2047,4095] [4,5,9,11] mixed (by decide+kernel) ?_
 refine xH ?_
 refine dH rfl .no .h (fun ha hp=>gM jN.h d_.h.sz rfl (EN ha (.tmp rfl rfl) rfl) hp.2 rfl) ?_
 refine bnd hF fun iq iL hF=>bZ rfl rfl .no (.rd .q6 rfl (.rd .q7 rfl .nil)) (.own .h (fun _ h=>h) .nil) (fun ha=>bP abx.h (.cons (EN ha (.tmp rfl rfl) rfl) .nil) (Kw iL)) (fun yl=>?_)
 refine bnd hF fun nG nS hF=>arp rfl rfl .no (.cons .h (.cons (.t .h) (.rd .q3 rfl .nil))) (.own .h (fun _ h=>h) .nil) (fun ha=>iW (pre:=_) (.cons bi (.cons bi .nil)) (fun _=>(.cons (.cons (.cons .nil)))) (fM (.rd .q2 rfl (.rd .h rfl (.rd (.t .h) rfl .nil))) (bP Wj.h (.cons (EN ha (.tmp rfl rfl) rfl) (.cons (EN ha (.tmp rfl rfl) rfl) (.cons (EN ha (.tmp rfl rfl) rfl) .nil))) (UQ nS)))) (fun iI=>?_)
 refine dJ rfl .no (fun ha=>aaf (v:=iI.1.v) ahA QJ.h (EN ha (.tmp rfl rfl) rfl) rfl) ?_
 refine bnd hF fun n_ hx24 hF=>AL rfl rfl .no (.cons .q7 (.cons .q6 (.rd .q8 rfl (.rd .q9 rfl .nil)))) (.dep rfl .nil) (fun ha=>iW (pre:=_) (.cons bi (.cons bi .nil)) (fun _=>(.cons .nil)) (fM (.rd .q2 rfl (.rd .q3 rfl (.rd .h rfl (.rd (.t .h) rfl .nil)))) (bP ajx.h (.cons (EN ha (.tmp rfl rfl) rfl) (.cons (EN ha (.tmp rfl rfl) rfl) .nil)) (Uu hx24)))) (fun p25=>?_)
 refine dJ rfl .no (fun ha=>gH lD.h rfl (vs:=[gT.1.v,iI.1.v,p25.1.v]) (.cons (EN ha (.tmp rfl rfl) rfl) (.cons (EN ha (.tmp rfl rfl) rfl) (.cons (EN ha (.tmp rfl rfl) rfl) .nil))) (cells:=[gT.1.v,iI.1.v,p25.1.v]) rfl) ?_
 refine bZ rfl rfl .no (.cons .q13 .nil) (.dep rfl .nil) (fun ha=>fA (e':=(zg [gT.1.v,iI.1.v,p25.1.v])) (v:=(zg [gT.1.v,iI.1.v,p25.1.v])) lD.h.sz (EN ha (.tmp rfl rfl) rfl) (EN ha (.tmp rfl rfl) rfl) rfl rfl rfl rfl rfl) (fun _=>?_)
 refine bV ?_
 refine au ?_
 cases hF
 exact eO (gT.1,gT.2.1,iI.1,iI.2.1,p25.1,p25.2) (.cellA rfl rfl .h rfl sF.h lD.h.sz rfl rfl (.tmp rfl rfl .nil)) rfl (.sel (.cons .q5 (.cons .q5 (.cons .q3 .nil))))
def FT:List Int->Nat->(List Int)->Option (Reached)
 |[],uD,c31=>some (⟨[],c31,[],0⟩:Reached)
 |x39::Bf,uD,c31=>((mK x39 0 9).bind fun mX=>
     if mX then (
       (Ah c31 x39).bind fun Ck=>
       some Ck)
     else (
       some c31)).bind fun JI=>
   match JI with
   |c59=>FT Bf (uD+1) c59
def Oa(mg:List Int):Option (Reached):=
 FT mg 0 ([]:List Int)
theorem am6{mg:List Int}{aa:Sv}{R:Reached}(hF:Oa mg=some R):
   Fw.Spec Tryz.prog 109 [aa.v] [ah aa mg] (fun p:Sv×List Nat×Sv×List Nat×Sv×List Nat=>(zg [p.1.v,p.2.2.1.v,p.2.2.2.2.1.v,(zi R.Rounds)])) (fun p=>[h_ p.2.1 p.1 R.Facts,bv p.2.2.2.1 p.2.2.1 R.Values,mM p.2.2.2.2.2 p.2.2.2.2.1 R.Log]):=by
 refine Se 26 Tryz.func109 [.cell 2 80] ?_
 intro H0 F0
 unfold Oa at hF
 refine au ?_
 refine cO (fun k1=>?_)
 refine aT ?_
 refine aK (gH pI.h rfl (vs:=[]) .nil (cells:=[(.slice none 0 0),(.slice none 0 0),(.slice none 0 0),(zi 0)]) rfl) ?_
 refine cO (fun k2=>?_)
 refine As (zg [(.slice none 0 0),(.slice none 0 0),(.slice none 0 0),(zi 0)]) ?_
 refine bf ?_
 refine bn (bU (m:=mg.length) (fun m35 f' cs'=>∃(g:Fr)(uD:Nat)(Bf c31:List Int)(v32:Sv)(zw:List Nat),m35=Bf.length/\f'=aR g [(0,aa.v),(2,(pz k1)),(3,(pz k2)),(4,(zi (uD:Int)))]/\List.drop uD mg=Bf/\aP cs' [ah aa mg,bq k1 80 (zg [(.slice none 0 0),(.slice none 0 0),(.slice none 0 0),(zi 0)]),bq k2 80 (zg [(.slice none 0 0),v32.v,(.slice none 0 0),(zi 0)]),bv zw v32 c31]/\FT Bf uD c31=some R) ⟨_,0,_,_,⟨none,0,0⟩,[],rfl,aB,rfl,(.conv .nil (fu (Ro:=(aj ax)) (E:=3)) (.cons .nil) aA),hF⟩ ?_)
 rintro m35 _ _ ⟨g36,uD,Bf,c31,v32,zw,rfl,rfl,ak9,hE,hF⟩
 refine Kb hE mg (fun aCw=>?_)
 rcases Bf with _|⟨x39,Bf⟩
 · have abW:=dn ak9
   rw[FT]at hF
   refine bQ ?_
   refine dE ?_
   refine bG ?_
   refine As (zg [(.slice none 0 0),v32.v,(.slice none 0 0),(zi 0)]) ?_
   refine aT ?_
   cases hF
   exact eO (⟨none,0,0⟩,[],v32,zw,⟨none,0,0⟩,[]) (.cellA rfl rfl .h rfl yX.h pI.h.sz rfl rfl .nil) rfl (.conv .nil (fu (Ro:=gD) (E:=71)) (.cons .nil) (.conv .nil (fu (Ro:=j4) (E:=115)) (.cons .nil) (.sel (.cons (.t .h) (.cons .q4 (.cons .h .nil))))))
 obtain⟨abW,Xg,WR⟩:=dA ak9
 rw[FT]at hF
 refine bQ ?_
 refine dD ?_
 refine au ?_
 obtain⟨JI,aaV,ab9⟩:=bind_some hF
 refine gN (fun f' cs'=>∃(c59:List Int)(v60:Sv)(sZ:List Nat)(g:Fr),c59=JI/\f'=aR g [(0,aa.v),(2,(pz k1)),(3,(pz k2)),(4,(zi (uD:Int)))]/\aP cs' [ah aa mg,bq k1 80 (zg [(.slice none 0 0),(.slice none 0 0),(.slice none 0 0),(zi 0)]),bq k2 80 (zg [(.slice none 0 0),v60.v,(.slice none 0 0),(zi 0)]),bv sZ v60 c59]) ?_ ?_
 · replace hF:=aaV
   refine bn (cB (Cm aa.v rfl rfl ?_))
   refine au ?_
   refine Ai Xg (fun k48 j49=>?_)
   refine Al dN ?_
   refine bnd hF fun mX uY hF=>bR (qc uY) (fun _=>?_)
   refine au ?_
   refine Ci hF (fun Q6 hF=>?_) (fun Q6 hF=>?_)
   · refine jK [0,1,2,3,4,5,6,7,8] [0,1,0,0,12,28,63,127,255] [6,8] mixed (by decide+kernel) ?_
     refine du ?_
     refine dH rfl .no .q3 (fun ha hp=>fZ (v:=v32.v) fT.h (EN ha (.tmp rfl rfl) rfl) hp.2 rfl rfl) ?_
     refine bV ?_
     refine Di Xg (fun SG j54=>?_)
     refine Dl dN ?_
     refine bnd hF fun Ck QM hF=>kZ (OB QM) (fun p57=>?_)
     refine du ?_
     refine bZ rfl rfl .no (.cons .q5 .nil) (.dep rfl .nil) (fun ha=>fA (e':=(zg [(.slice none 0 0),p57.1.v,(.slice none 0 0),(zi 0)])) fB.h.sz (EN ha (.tmp rfl rfl) rfl) (EN ha (.tmp rfl rfl) rfl) rfl rfl rfl rfl rfl) (fun _=>?_)
     refine du ?_
     cases hF
     exact⟨_,p57.1,p57.2,_,rfl,aB,aA⟩
   refine au ?_
   cases hF
   exact⟨_,v32,zw,_,rfl,aB,aA⟩
 rintro _ _ ⟨c59,v60,sZ,g63,rfl,rfl,hE⟩
 replace hF:=ab9
 try dsimp only at hF
 refine bM hE ?_
 refine bf ?_
 rw[wk uD]
 exact⟨_,bY _,_,uD+1,Bf,_,v60,sZ,rfl,aB,WR,aA,hF⟩
def Dj(ag:List Int):List Int->Nat->Option (Bool)
 |[],k4=>some true
 |x6::aG,k4=>((mK x6 0 9).bind fun iq=>
     bif (!iq)then (some true)
     else (bif (decide ((0:Int)<(k4:Int)))then ((ix ag (IntKind.i64.wrap ((k4:Int)-1))).bind fun x24=>
         some (decide ((x6:Int)<=x24)))
       else (some false))).bind fun p_=>
   match p_ with
   |ko=>if ko then (
       some false)
     else (
       Dj ag aG (k4+1))
def OJ(ag:List Int):Option (Bool):=
 Dj ag ag 0
theorem an5{ag:List Int}{aa:Sv}{R:Bool}(hF:OJ ag=some R):
   Fw.Spec Tryz.prog 174 [aa.v] [ah aa ag] (fun _:Unit=>(.bool R)) (fun _=>[]):=by
 refine Se 32 Tryz.func174 [.tmp 2] ?_
 intro H0 F0
 unfold OJ at hF
 refine bQ ?_
 refine bn (bU (m:=ag.length) (fun m2 f' cs'=>∃(g:Fr)(k4:Nat)(aG:List Int),m2=aG.length/\f'=aR g [(0,aa.v),(3,(zi (k4:Int)))]/\List.drop k4 ag=aG/\aP cs' [ah aa ag]/\Dj ag aG k4=some R) ⟨_,0,_,rfl,aB,rfl,aA,hF⟩ ?_)
 rintro m2 _ _ ⟨g3,k4,aG,rfl,rfl,hd7,hE,hF⟩
 refine Kb hE ag (fun jL=>?_)
 rcases aG with _|⟨x6,aG⟩
 · have fG:=dn hd7
   rw[Dj]at hF
   refine bQ ?_
   refine dE ?_
   exact ze hF
 obtain⟨fG,dm,fF⟩:=dA hd7
 rw[Dj]at hF
 refine bQ ?_
 refine dD ?_
 refine aT ?_
 obtain⟨p_,Bn,BK⟩:=bind_some hF
 refine dM [0,1,2,3,4,5,6,7,8,9,10,11,12,13,14,15,16,17,18,19,20,21] [0,0,3,7,15,31,63,127,255,511,1023,1023,4095,8191,1023,1023,33791,115711,246783,524287,1048575,2097151] [4] mixed (by decide+kernel) ?_
 refine qH (fun f' cs'=>∃(ko:Bool)(g:Fr),ko=p_/\f'=aR g [(0,aa.v),(3,(zi (k4:Int))),(31,(.bool ko))]/\aP cs' [ah aa ag]) ?_ ?_
 · replace hF:=Bn
   refine bV ?_
   refine Di dm (fun k15 j16=>?_)
   refine Dl dN ?_
   refine bnd hF fun iq iL hF=>jB (qc iL) (fun _=>?_)
   refine bV ?_
   rcases df (!iq)with qL|qL
   · rw[qL]
     try rw[qL]at hF; dsimp only[aY,aX]at hF
     exact iC hF
   rw[qL]
   try rw[qL]at hF; dsimp only[aY,aX]at hF
   refine fw ?_
   rcases df (decide ((0:Int)<(k4:Int)))with R3|R3
   · rw[R3]
     try rw[R3]at hF; dsimp only[aY,aX]at hF
     refine bV ?_
     refine Di dm (fun k22 j23=>?_)
     refine Dl dN ?_
     refine fw ?_
     refine zI hF fun x24 azC hx27 hF=>?_
     refine Di hx27 (fun k28 j29=>?_)
     refine Dl dN ?_
     exact iC hF
   rw[R3]
   try rw[R3]at hF; dsimp only[aY,aX]at hF
   exact iC hF
 rintro _ _ ⟨ko,g33,rfl,rfl,hE⟩
 replace hF:=BK
 try dsimp only at hF
 refine bM hE ?_
 refine Ci hF (fun BF hF=>?_) (fun BF hF=>?_)
 · exact ze hF
 refine bG ?_
 rw[wk k4]
 exact⟨_,bY _,_,k4+1,aG,rfl,aB,fF,aA,hF⟩
def GY:List Fact->Nat->(List Fact)->Option ((List Fact))
 |[],k8,c2=>some c2
 |fq::fD,k8,c2=>(yN fq.Rel fq.Values).bind fun iJ=>
   (app c2 ([iJ]:List Fact)).bind fun z26=>
   GY fD (k8+1) z26
def Pv(ag:List Fact):Option ((List Fact)):=
 GY ag 0 ([]:List Fact)
theorem afb{ag:List Fact}{aa:Sv}{R:(List Fact)}(hF:Pv ag=some R):
   Fw.Spec Tryz.prog 65 [aa.v] [cz aa ag] (fun p:Sv×List Nat=>p.1.v) (fun p=>[h_ p.2 p.1 R]):=by
 refine Se 27 Tryz.func65 [.tmp 2] ?_
 intro H0 F0
 unfold Pv at hF
 refine aL ?_
 refine b_ rfl (bI (g:=true) fU.h eG.h .nil (vs:=[]) rfl rfl rfl (by simp)) (fun k1=>?_)
 refine dh (.cons .h .nil) (bK (Ro:=gD) (E:=71) (F:=[]) (xs:=([]:List Fact)) bJ rfl rfl) ?_
 refine bG ?_
 refine bn (bU (m:=ag.length) (fun m6 f' cs'=>∃(g:Fr)(k8:Nat)(fD c2:List Fact)(v3:Sv)(F4:List Nat),m6=fD.length/\f'=aR g [(0,aa.v),(3,v3.v),(4,(zi (k8:Int)))]/\List.drop k8 ag=fD/\aP cs' [cz aa ag,h_ F4 v3 c2]/\GY fD k8 c2=some R) ⟨_,0,_,_,⟨(some ⟨k1,0,none⟩),0,1⟩,(k1::[]),rfl,aB,rfl,aA,hF⟩ ?_)
 rintro m6 _ _ ⟨g7,k8,fD,c2,v3,F4,rfl,rfl,jA,hE,hF⟩
 refine Kb hE ag (fun LX=>?_)
 rcases fD with _|⟨fq,fD⟩
 · have u7:=dn jA
   rw[GY]at hF
   refine bQ ?_
   refine dE ?_
   refine eU ?_
   cases hF
   exact Er (v3,F4)
 obtain⟨u7,jc,u_⟩:=dA jA
 rw[GY]at hF
 refine bQ ?_
 refine dD ?_
 refine aT ?_
 refine jK [0,1,2,3,4,5,6,7,8,9,10,11,12,13,14] [0,0,0,6,14,30,0,0,192,448,960,2046,4094,8191,16383] [11,13] mixed (by decide+kernel) ?_
 refine fw ?_
 refine Di jc (fun k17 SB=>?_)
 refine du ?_
 refine Dl PU ?_
 refine bV ?_
 refine Di jc (fun k19 EU=>?_)
 refine du ?_
 refine qG (R':=(aW 3 ax)) fT.h rfl .no (.tmp rfl rfl) rfl .h LK (fun w21=>?_)
 refine bnd hF fun iJ nz hF=>kZ (K4 nz) (fun ji=>?_)
 refine gP rfl .no rfl (fun ha=>bI (g:=true) (len:=1) (parts:=[(0,.tmp 23)]) fU.h eG.h (.cons (EN ha (.tmp rfl rfl) rfl) .nil) (vs:=[(zg [(zi iJ.Rel),ji.1.v])]) rfl rfl rfl (by intro v hv; simp at hv; rcases hv with rfl<;>rfl)) (fun k25=>?_)
 refine gZ (.cons .h (.cons .h .nil)) (bK (Ro:=gD) (E:=71) (F:=(ji.2++[])) (xs:=([iJ]:List Fact)) (bS xE bJ bB) rfl rfl) ?_
 refine bnd hF fun z26 hx27 hF=>bZ rfl rfl .no (.cons .q5 (.cons .h .nil)) (.dep rfl .nil) (fun ha=>dL (Ro:=gD) fU.h xG eG.h rfl rfl rfl (EN ha (.tmp rfl rfl) rfl) (EN ha (.tmp rfl rfl) rfl) hx27 eX) (fun p28=>?_)
 refine bV ?_
 refine bf ?_
 rw[wk k8]
 exact⟨_,bY _,_,k8+1,fD,_,p28.1,p28.2,rfl,aB,u_,aA,hF⟩
def K7(bF:Int)(fe:List Int):Option (aV):=
 (app ([]:List Int) fe).bind fun z3=>
 some (⟨bF,z3⟩:aV)
theorem aeK{bF:Int}{fe:List Int}{ak:Sv}{R:aV}(hF:K7 bF fe=some R):
   Fw.Spec Tryz.prog 236 [(zi bF),ak.v] [ah ak fe] (fun p:Sv×List Nat=>(zg [(zi R.Method),p.1.v])) (fun p=>[bv p.2 p.1 R.Values]):=by
 refine Se 10 Tryz.func236 [.cell 4 115] ?_
 intro H0 F0
 unfold K7 at hF
 refine au ?_
 refine cO (fun k1=>?_)
 refine aZ ?_
 refine b_ rfl (bI (g:=true) bH.h bC.h .nil (vs:=[]) rfl rfl rfl (by simp)) (fun k2=>?_)
 refine dh (.cons .h .nil) (bK (Ro:=(aj ax)) (E:=3) (F:=[]) (xs:=([]:List Int)) bJ rfl rfl) ?_
 refine au ?_
 refine bnd hF fun z3 hx4 hF=>dC (.cons .h (.rd (.t .h) rfl .nil)) (dL (Ro:=(aj ax)) bH.h gL bC.h rfl rfl rfl (.tmp rfl rfl) (.tmp rfl rfl) hx4 nK) (fun p5=>?_)
 refine aK (gH lv.h rfl (vs:=[(zi bF),p5.1.v]) bz (cells:=[(zi bF),p5.1.v]) rfl) ?_
 refine As (zg [(zi bF),p5.1.v]) ?_
 refine aT ?_
 cases hF
 exact Er (p5.1,p5.2)
def Hd:List aV->Nat->(List aV)->Option ((List aV))
 |[],k8,c2=>some c2
 |fq::fD,k8,c2=>(K7 fq.Method fq.Values).bind fun iJ=>
   (app c2 ([iJ]:List aV)).bind fun z26=>
   Hd fD (k8+1) z26
def Vl(ag:List aV):Option ((List aV)):=
 Hd ag 0 ([]:List aV)
theorem apI{ag:List aV}{aa:Sv}{R:(List aV)}(hF:Vl ag=some R):
   Fw.Spec Tryz.prog 211 [aa.v] [gU aa ag] (fun p:Sv×List Nat=>p.1.v) (fun p=>[mM p.2 p.1 R]):=by
 refine Se 27 Tryz.func211 [.tmp 2] ?_
 intro H0 F0
 unfold Vl at hF
 refine aL ?_
 refine b_ rfl (bI (g:=true) pF.h lv.h .nil (vs:=[]) rfl rfl rfl (by simp)) (fun k1=>?_)
 refine dh (.cons .h .nil) (bK (Ro:=j4) (E:=115) (F:=[]) (xs:=([]:List aV)) bJ rfl rfl) ?_
 refine bG ?_
 refine bn (bU (m:=ag.length) (fun m6 f' cs'=>∃(g:Fr)(k8:Nat)(fD c2:List aV)(v3:Sv)(F4:List Nat),m6=fD.length/\f'=aR g [(0,aa.v),(3,v3.v),(4,(zi (k8:Int)))]/\List.drop k8 ag=fD/\aP cs' [gU aa ag,mM F4 v3 c2]/\Hd fD k8 c2=some R) ⟨_,0,_,_,⟨(some ⟨k1,0,none⟩),0,1⟩,(k1::[]),rfl,aB,rfl,aA,hF⟩ ?_)
 rintro m6 _ _ ⟨g7,k8,fD,c2,v3,F4,rfl,rfl,jA,hE,hF⟩
 refine Kb hE ag (fun LX=>?_)
 rcases fD with _|⟨fq,fD⟩
 · have u7:=dn jA
   rw[Hd]at hF
   refine bQ ?_
   refine dE ?_
   refine eU ?_
   cases hF
   exact Er (v3,F4)
 obtain⟨u7,jc,u_⟩:=dA jA
 rw[Hd]at hF
 refine bQ ?_
 refine dD ?_
 refine aT ?_
 refine jK [0,1,2,3,4,5,6,7,8,9,10,11,12,13,14] [0,0,0,6,14,30,0,0,192,448,960,2046,4094,8191,16383] [11,13] mixed (by decide+kernel) ?_
 refine fw ?_
 refine Di jc (fun k17 SB=>?_)
 refine du ?_
 refine Dl ahB ?_
 refine bV ?_
 refine Di jc (fun k19 EU=>?_)
 refine du ?_
 refine qG (R':=(aW 3 ax)) fT.h rfl .no (.tmp rfl rfl) rfl .h ahC (fun w21=>?_)
 refine bnd hF fun iJ nz hF=>kZ (aeK nz) (fun ji=>?_)
 refine gP rfl .no rfl (fun ha=>bI (g:=true) (len:=1) (parts:=[(0,.tmp 23)]) pF.h lv.h (.cons (EN ha (.tmp rfl rfl) rfl) .nil) (vs:=[(zg [(zi iJ.Method),ji.1.v])]) rfl rfl rfl (by intro v hv; simp at hv; rcases hv with rfl<;>rfl)) (fun k25=>?_)
 refine gZ (.cons .h (.cons .h .nil)) (bK (Ro:=j4) (E:=115) (F:=(ji.2++[])) (xs:=([iJ]:List aV)) (bS Qb bJ bB) rfl rfl) ?_
 refine bnd hF fun z26 hx27 hF=>bZ rfl rfl .no (.cons .q5 (.cons .h .nil)) (.dep rfl .nil) (fun ha=>dL (Ro:=j4) pF.h Mi lv.h rfl rfl rfl (EN ha (.tmp rfl rfl) rfl) (EN ha (.tmp rfl rfl) rfl) hx27 eX) (fun p28=>?_)
 refine bV ?_
 refine bf ?_
 rw[wk k8]
 exact⟨_,bY _,_,k8+1,fD,_,p28.1,p28.2,rfl,aB,u_,aA,hF⟩
def Ls(bO:Reached):Option (Reached):=
 (Pv bO.Facts).bind fun r5=>
 (app ([]:List Int) bO.Values).bind fun z8=>
 (Vl bO.Log).bind fun fo=>
 some (⟨r5,z8,fo,bO.Rounds⟩:Reached)
theorem afc{bO:Reached}{aa aQ mE:Sv}{R:Reached}(hF:Ls bO=some R):
   Fw.Spec Tryz.prog 175 [(zg [aa.v,aQ.v,mE.v,(zi bO.Rounds)])] [cz aa bO.Facts,ah aQ bO.Values,gU mE bO.Log] (fun p:Sv×List Nat×Sv×List Nat×Sv×List Nat=>(zg [p.1.v,p.2.2.1.v,p.2.2.2.2.1.v,(zi R.Rounds)])) (fun p=>[h_ p.2.1 p.1 R.Facts,bv p.2.2.2.1 p.2.2.1 R.Values,mM p.2.2.2.2.2 p.2.2.2.2.1 R.Log]):=by
 refine Se 19 Tryz.func175 [.cell 2 80] ?_
 intro H0 F0
 unfold Ls at hF
 refine au ?_
 refine bW (fun k1=>?_)
 refine cO (fun k2=>?_)
 refine au ?_
 refine dM [0,1,3,4,5,7,8,10,2,6,9,11] [0,1,3,0,0,16,63,0,128,511,0,2047] [2,6,11] mixed (by decide+kernel) ?_
 refine bV ?_
 refine gP rfl .no rfl (fun ha=>bI (g:=true) (len:=0) (parts:=[]) bH.h bC.h .nil (vs:=[]) rfl rfl rfl (by simp)) (fun k3=>?_)
 refine gZ (.cons .h .nil) (bK (Ro:=(aj ax)) (E:=3) (F:=[]) (xs:=([]:List Int)) bJ rfl rfl) ?_
 refine sG ?_
 refine gP rfl .no rfl (fun ha=>ru (g:=true) pI.h rfl rfl) (fun k4=>?_)
 refine bnd hF fun r5 hx6 hF=>bZ rfl rfl .no (.rd .q4 rfl .nil) (.own .h (fun _ h=>h) (.own (.t .h) (by simp[aJ]) .nil)) (fun ha=>bP ax4.h (.cons (EN ha (.tmp rfl rfl) rfl) .nil) (afb hx6)) (fun p7=>?_)
 refine bnd hF fun z8 dm hF=>bZ rfl rfl .no (.cons .q2 (.rd .q5 rfl .nil)) (.own (.t .h) (fun _ h=>h) (.dep rfl .nil)) (fun ha=>dL (Ro:=(aj ax)) bH.h gL bC.h rfl rfl rfl (EN ha (.tmp rfl rfl) rfl) (EN ha (.tmp rfl rfl) rfl) dm nK) (fun dP=>?_)
 refine dJ rfl .no (fun ha=>gH pI.h rfl (vs:=[p7.1.v,dP.1.v,(zi bO.Rounds)]) (.cons (EN ha (.tmp rfl rfl) rfl) (.cons (EN ha (.tmp rfl rfl) rfl) (.cons (EN ha (.tmp rfl rfl) rfl) .nil))) (cells:=[p7.1.v,dP.1.v,(.slice none 0 0),(zi bO.Rounds)]) rfl) ?_
 refine bZ rfl rfl .no (.cons .q2 .nil) (.dep rfl (.dep rfl .nil)) (fun ha=>fA (e':=(zg [p7.1.v,dP.1.v,(.slice none 0 0),(zi bO.Rounds)])) (v:=(zg [p7.1.v,dP.1.v,(.slice none 0 0),(zi bO.Rounds)])) pI.h.sz (EN ha (.tmp rfl rfl) rfl) (EN ha (.tmp rfl rfl) rfl) rfl rfl rfl rfl rfl) (fun _=>?_)
 refine du ?_
 refine aZ ?_
 refine bnd hF fun fo uZ hF=>dW (apI uZ) (fun vH=>?_)
 refine au ?_
 refine As (zg [p7.1.v,dP.1.v,vH.1.v,(zi bO.Rounds)]) ?_
 refine aZ ?_
 refine As (zg [p7.1.v,dP.1.v,vH.1.v,(zi bO.Rounds)]) ?_
 refine aT ?_
 cases hF
 exact Er (p7.1,p7.2,dP.1,dP.2,vH.1,vH.2)
def Dt(vw:List (List Int))(c212:Int):List Int->Nat->(List (List Int))->Option ((List (List Int)))
 |[],zb,Jk=>some Jk
 |Xq::Aw,zb,Jk=>(ix vw c212).bind fun ak_=>
   (app ([]:List Int) ak_).bind fun ak'=>
   (app ak' ([Xq]:List Int)).bind fun ac2=>
   (app Jk ([ac2]:List (List Int))).bind fun ala=>
   Dt vw c212 Aw (zb+1) ala
def Gy(fe:List Int):Nat->(List (List Int))->(List (List Int))->Int->Option ((List (List Int)))
 |0,_,_,_=>none
 |Jl+1,vw,MQ,c212=>if (decide ((c212:Int)<(vw.length:Int)))then (
     (Dt vw c212 fe 0 MQ).bind fun Xr=>
     match Xr with
     |wG=>Gy fe Jl vw wG (IntKind.i64.wrap (c212+1)))
   else (
     some MQ)
def Gz(fe:List Int)(ed:Int):Nat->(List (List Int))->Int->Option ((List (List Int)))
 |0,_,_=>none
 |m7+1,c3,c6=>if (decide ((c6:Int)<ed))then (
     (Gy fe (((c3.length:Int)-0).toNat+2) c3 ([]:List (List Int)) 0).bind fun Cz=>
     match Cz with
     |R4=>Gz fe ed m7 R4 (IntKind.i64.wrap (c6+1)))
   else (
     some c3)
def O0(fe:List Int)(ed:Int):Option ((List (List Int))):=
 Gz fe ed ((ed-0).toNat+2) ([([]:List Int)]:List (List Int)) 0
theorem aoD{fe:List Int}{aa:Sv}{ed:Int}{R:(List (List Int))}(hF:O0 fe ed=some R):
   Fw.Spec Tryz.prog 237 [aa.v,(zi ed)] [ah aa fe] (fun p:Sv×List Nat=>p.1.v) (fun p=>[aJ (az 24 (az 3 (aj ax))) p.2 p.1.v R]):=by
 refine Se 47 Tryz.func237 [.tmp 4] ?_
 intro H0 F0
 unfold O0 at hF
 refine aL ?_
 refine b_ rfl (bI (g:=true) bH.h bC.h .nil (vs:=[]) rfl rfl rfl (by simp)) (fun k1=>?_)
 refine dh (.cons .h .nil) (bK (Ro:=(aj ax)) (E:=3) (F:=[]) (xs:=([]:List Int)) bJ rfl rfl) ?_
 refine b_ rfl (bI (g:=true) gJ.h fB.h bz (vs:=[(.slice (some ⟨k1,0,none⟩) 0 1)]) rfl rfl rfl (by intro v hv; simp at hv; rcases hv with rfl<;>rfl)) (fun k2=>?_)
 refine dh (.cons .h (.cons .h .nil)) (bK (Ro:=(az 3 (aj ax))) (E:=24) (F:=((k1::[])++[])) (xs:=([([]:List Int)]:List (List Int))) (bS uR bJ bB) rfl rfl) ?_
 refine bG ?_
 refine bn (bU (m:=((ed-0).toNat+2)) (fun m7 f' cs'=>∃(g:Fr)(c3:List (List Int))(c6:Int)(v4:Sv)(F5:List Nat),f'=aR g [(0,aa.v),(1,(zi ed)),(5,v4.v),(6,(zi c6))]/\aP cs' [ah aa fe,aJ (az 24 (az 3 (aj ax))) F5 v4.v c3]/\Gz fe ed m7 c3 c6=some R) ⟨_,_,_,⟨(some ⟨k2,0,none⟩),1,1⟩,(k2::((k1::[])++[])),aB,aA,hF⟩ ?_)
 rintro m7 _ _ ⟨g8,c3,c6,v4,F5,rfl,hE,hF⟩
 refine bM hE ?_
 rcases m7 with _|m7
 · rw[Gz]at hF
   exact absurd hF (by simp)
 rw[Gz]at hF
 refine bG ?_
 refine Ci hF (fun awz hF=>?_) (fun awz hF=>?_)
 · refine au ?_
   obtain⟨Cz,aba,acO⟩:=bind_some hF
   refine gN (fun f' cs'=>∃(R4:List (List Int))(Xt:Sv)(ac3:List Nat)(g:Fr),R4=Cz/\f'=aR g [(0,aa.v),(1,(zi ed)),(5,Xt.v),(6,(zi c6))]/\aP cs' [ah aa fe,aJ (az 24 (az 3 (aj ax))) ac3 Xt.v R4]) ?_ ?_
   · replace hF:=aba
     refine bn (cB (b_ rfl (bI (g:=true) gJ.h fB.h .nil (vs:=[]) rfl rfl rfl (by simp)) (fun k17=>?_)))
     refine dh (.cons .h .nil) (bK (Ro:=(az 3 (aj ax))) (E:=24) (F:=[]) (xs:=([]:List (List Int))) bJ rfl rfl) ?_
     refine bG ?_
     refine bn (bU (m:=(((c3.length:Int)-0).toNat+2)) (fun Jl f' cs'=>∃(g:Fr)(vw MQ:List (List Int))(c212:Int)(v208 v210:Sv)(Xu:List Nat),f'=aR g [(0,aa.v),(1,(zi ed)),(5,v208.v),(6,(zi c6)),(7,v210.v),(8,(zi c212))]/\aP cs' [ah aa fe,bT (aW 24 (aW 3 ax)) v208.v vw,aJ (az 24 (az 3 (aj ax))) Xu v210.v MQ]/\Gy fe Jl vw MQ c212=some Cz) ⟨_,_,_,_,v4,⟨(some ⟨k17,0,none⟩),0,1⟩,(k17::[]),aB,(.frz .q2 bi aA),hF⟩ ?_)
     rintro Jl _ _ ⟨aFs,vw,MQ,c212,v208,v210,Xu,rfl,hE,hF⟩
     refine bM hE ?_
     rcases Jl with _|Jl
     · rw[Gy]at hF
       exact absurd hF (by simp)
     rw[Gy]at hF
     refine bQ ?_
     refine Ci hF (fun awC hF=>?_) (fun awC hF=>?_)
     · refine au ?_
       obtain⟨Xr,ar8,awD⟩:=bind_some hF
       refine gN (fun f' cs'=>∃(wG:List (List Int))(BR:Sv)(MK:List Nat)(g:Fr),wG=Xr/\f'=aR g [(0,aa.v),(1,(zi ed)),(5,v208.v),(6,(zi c6)),(7,BR.v),(8,(zi c212))]/\aP cs' [ah aa fe,bT (aW 24 (aW 3 ax)) v208.v vw,aJ (az 24 (az 3 (aj ax))) MK BR.v wG]) ?_ ?_
       · replace hF:=ar8
         refine bn (cB (aK (iG (v:=(zi 0)) (.int _ _)) ?_))
         refine au ?_
         refine bn (bU (m:=fe.length) (fun alb f' cs'=>∃(g:Fr)(zb:Nat)(Aw:List Int)(Jk:List (List Int))(Xv:Sv)(ac4:List Nat),alb=Aw.length/\f'=aR g [(0,aa.v),(1,(zi ed)),(5,v208.v),(6,(zi c6)),(7,Xv.v),(8,(zi c212)),(9,(zi (zb:Int)))]/\List.drop zb fe=Aw/\aP cs' [ah aa fe,bT (aW 24 (aW 3 ax)) v208.v vw,aJ (az 24 (az 3 (aj ax))) ac4 Xv.v Jk]/\Dt vw c212 Aw zb Jk=some Xr) ⟨_,0,_,_,v210,Xu,rfl,aB,rfl,aA,hF⟩ ?_)
         rintro alb _ _ ⟨aFt,zb,Aw,Jk,Xv,ac4,rfl,rfl,ai5,hE,hF⟩
         refine Kb hE fe (fun aAE=>?_)
         rcases Aw with _|⟨Xq,Aw⟩
         · have awE:=dn ai5
           rw[Dt]at hF
           refine bQ ?_
           refine dE ?_
           refine aL ?_
           cases hF
           exact⟨_,Xv,ac4,_,rfl,aB,aA⟩
         obtain⟨awE,awF,awG⟩:=dA ai5
         rw[Dt]at hF
         refine bQ ?_
         refine dD ?_
         refine aT ?_
         refine jK [0,1,2,3,4,5,7,8,9,10,11,6,12,13,14,15] [0,0,0,0,12,28,62,0,0,384,896,1920,4094,8190,16383,32767] [6,12,14] mixed (by decide+kernel) ?_
         refine du ?_
         refine gP rfl .no rfl (fun ha=>bI (g:=true) (len:=0) (parts:=[]) bH.h bC.h .nil (vs:=[]) rfl rfl rfl (by simp)) (fun aFu=>?_)
         refine gZ (.cons .h .nil) (bK (Ro:=(aj ax)) (E:=3) (F:=[]) (xs:=([]:List Int)) bJ rfl rfl) ?_
         refine bV ?_
         refine zI hF fun ak_ aCx awH hF=>?_
         refine Di awH (fun aFv aFw=>?_)
         refine qG (R':=(aW 3 ax)) fT.h rfl .no (.tmp rfl rfl) rfl .h rC (fun aFx=>?_)
         refine bV ?_
         refine Di awF (fun aFy aFz=>?_)
         refine Dl dN ?_
         refine gP rfl .no rfl (fun ha=>bI (g:=true) (len:=1) (parts:=[(0,.tmp 40)]) bH.h bC.h (.cons (EN ha (.tmp rfl rfl) rfl) .nil) (vs:=[(zi Xq)]) rfl rfl rfl (by intro v hv; simp at hv; rcases hv with rfl<;>rfl)) (fun aFA=>?_)
         refine gZ (.cons .h .nil) (bK (Ro:=(aj ax)) (E:=3) (F:=([]++[])) (xs:=([Xq]:List Int)) (bS (dK (fun _=>rfl)) bJ bB) rfl rfl) ?_
         refine bnd hF fun ak' awI hF=>bZ rfl rfl .no (.cons .q4 (.rd .q2 rfl .nil)) (.own .h (by simp[aJ]) (.dep rfl .nil)) (fun ha=>dL (Ro:=(aj ax)) bH.h gL bC.h rfl rfl rfl (EN ha (.tmp rfl rfl) rfl) (EN ha (.tmp rfl rfl) rfl) awI nK) (fun aFB=>?_)
         refine bnd hF fun ac2 awJ hF=>bZ rfl rfl .no (.cons .h (.cons .h .nil)) (.dep rfl (.dep rfl .nil)) (fun ha=>dL (Ro:=(aj ax)) bH.h gL bC.h rfl rfl rfl (EN ha (.tmp rfl rfl) rfl) (EN ha (.tmp rfl rfl) rfl) awJ eX) (fun alc=>?_)
         refine gP rfl .no rfl (fun ha=>bI (g:=true) (len:=1) (parts:=[(0,.tmp 42)]) gJ.h fB.h (.cons (EN ha (.tmp rfl rfl) rfl) .nil) (vs:=[alc.1.v]) rfl rfl rfl (by intro v hv; simp at hv; rcases hv with rfl<;>rfl)) (fun aFC=>?_)
         refine gZ (.cons .h (.cons .h .nil)) (bK (Ro:=(az 3 (aj ax))) (E:=24) (F:=(alc.2++[])) (xs:=([ac2]:List (List Int))) (bS uR bJ bB) rfl rfl) ?_
         refine bnd hF fun ala awK hF=>bZ rfl rfl .no (.cons .q6 (.cons .h .nil)) (.dep rfl (.dep rfl (.dep rfl .nil))) (fun ha=>dL (Ro:=(az 3 (aj ax))) gJ.h Es fB.h rfl rfl rfl (EN ha (.tmp rfl rfl) rfl) (EN ha (.tmp rfl rfl) rfl) awK eX) (fun ald=>?_)
         refine bV ?_
         refine bf ?_
         rw[wk zb]
         exact⟨_,bY _,_,zb+1,Aw,_,ald.1,ald.2,rfl,aB,awG,aA,hF⟩
       rintro _ _ ⟨wG,BR,MK,aFD,rfl,rfl,hE⟩
       replace hF:=awD
       try dsimp only at hF
       refine bM hE ?_
       refine bf ?_
       exact⟨Jl,bY _,_,_,_,_,v208,BR,MK,aB,aA,hF⟩
     refine fI ?_
     cases hF
     exact⟨_,v210,Xu,_,rfl,aB,aA⟩
   rintro _ _ ⟨R4,Xt,ac3,aFE,rfl,rfl,hE⟩
   replace hF:=acO
   try dsimp only at hF
   refine bM hE ?_
   refine bf ?_
   exact⟨m7,bY _,_,_,_,Xt,ac3,aB,aA,hF⟩
 refine eU ?_
 cases hF
 exact Er (v4,F5)
def D_(ay:aV)(aI:aV):Option (Bool):=
 (bif ((ay.Method:Int)==aI.Method)then ((uP ay.Values aI.Values).bind fun r6=>
     some r6)
   else (some false)).bind fun o3=>
 match o3 with
 |c9=>some c9
theorem afd{ay:aV}{aQ:Sv}{aI:aV}{aU:Sv}{R:Bool}(hF:D_ ay aI=some R):
   Fw.Spec Tryz.prog 181 [(zg [(zi ay.Method),aQ.v]),(zg [(zi aI.Method),aU.v])] [ah aQ ay.Values,ah aU aI.Values] (fun _:Unit=>(.bool R)) (fun _=>[]):=by
 refine Se 17 Tryz.func181 [.tmp 4] ?_
 intro H0 F0
 unfold D_ at hF
 refine au ?_
 refine bW (fun k1=>?_)
 refine bW (fun k2=>?_)
 refine aT ?_
 obtain⟨o3,lW,hO4⟩:=bind_some hF
 refine au ?_
 refine gB (fun f' cs'=>∃(c9:Bool)(g:Fr),c9=o3/\f'=aR g [(4,(.bool c9))]/\aP cs' []) ?_ ?_
 · replace hF:=lW
   refine bG ?_
   rcases df ((ay.Method:Int)==aI.Method)with hg5|hg5
   · rw[hg5]
     try rw[hg5]at hF; dsimp only[aY,aX]at hF
     refine eU ?_
     refine bnd hF fun r6 hx7 hF=>bR (Dz hx7) (fun _=>?_)
     exact cK hF
   rw[hg5]
   try rw[hg5]at hF; dsimp only[aY,aX]at hF
   exact cK hF
 rintro _ _ ⟨c9,g10,rfl,rfl,hE⟩
 replace hF:=hO4
 try dsimp only at hF
 refine bM hE ?_
 exact ze hF
def KG(ay:aV):List aV->Nat->Option (Bool)
 |[],k5=>some false
 |x7::eP,k5=>(D_ x7 ay).bind fun iq=>
   if iq then (
     some true)
   else (
     KG ay eP (k5+1))
def OL(qh:List aV)(ay:aV):Option (Bool):=
 KG ay qh 0
theorem an6{qh:List aV}{aa:Sv}{ay:aV}{aU:Sv}{R:Bool}(hF:OL qh ay=some R):
   Fw.Spec Tryz.prog 238 [aa.v,(zg [(zi ay.Method),aU.v])] [gU aa qh,ah aU ay.Values] (fun _:Unit=>(.bool R)) (fun _=>[]):=by
 refine Se 18 Tryz.func238 [.tmp 4] ?_
 intro H0 F0
 unfold OL at hF
 refine au ?_
 refine bW (fun k1=>?_)
 refine bG ?_
 refine bn (bU (m:=qh.length) (fun m3 f' cs'=>∃(g:Fr)(k5:Nat)(eP:List aV),m3=eP.length/\f'=aR g [(0,aa.v),(3,(pz k1)),(5,(zi (k5:Int)))]/\List.drop k5 qh=eP/\aP cs' [gU aa qh,a_ k1 115 (zg [(zi ay.Method),aU.v]),ah aU ay.Values]/\KG ay eP k5=some R) ⟨_,0,_,rfl,aB,rfl,aA,hF⟩ ?_)
 rintro m3 _ _ ⟨g4,k5,eP,rfl,rfl,mY,hE,hF⟩
 refine Kb hE qh (fun Im=>?_)
 rcases eP with _|⟨x7,eP⟩
 · have tq:=dn mY
   rw[KG]at hF
   refine bQ ?_
   refine dE ?_
   exact ze hF
 obtain⟨tq,gu,jA⟩:=dA mY
 rw[KG]at hF
 refine bQ ?_
 refine dD ?_
 refine aT ?_
 refine dM [0,1,2,3,4,5] [0,0,3,7,0,31] [5] mixed (by decide+kernel) ?_
 refine bV ?_
 refine Di gu (fun k14 M8=>?_)
 refine oz (zQ x7) Dv (fun p16=>?_)
 refine du ?_
 refine bnd hF fun iq iL hF=>jB (afd iL) (fun _=>?_)
 refine du ?_
 refine Ci hF (fun xI hF=>?_) (fun xI hF=>?_)
 · exact ze hF
 refine bG ?_
 rw[wk k5]
 exact⟨_,bY _,_,k5+1,eP,rfl,aB,jA,aA,hF⟩
def zS(bO:Reached)(k9:Nat):List (List Int)->Nat->(List aV)->Option ((List aV))
 |[],wZ,c64=>some c64
 |x72::Bg,wZ,c64=>((K7 (k9:Int) x72).bind fun uJ=>
     (OL bO.Log uJ).bind fun zA=>
     if (!zA)then (
       (app c64 ([uJ]:List aV)).bind fun JM=>
       some JM)
     else (
       some c64)).bind fun o79=>
   match o79 with
   |Ti=>zS bO k9 Bg (wZ+1) Ti
def DD(bO:Reached):List Method->Nat->(List aV)->Option ((List aV))
 |[],k9,c3=>some c3
 |eF::dB,k9,c3=>(if ((eF.Limit:Int)!=0)then (
       some c3)
     else (
       (O0 bO.Values (eF.Inputs.length:Int)).bind fun jd=>
       zS bO k9 jd 0 c3)).bind fun iD=>
   match iD with
   |sJ=>DD bO dB (k9+1) sJ
def Pw(ag:List Method)(bO:Reached):Option ((List aV)):=
 DD bO ag 0 ([]:List aV)
theorem ao'{ag:List Method}{aa:Sv}{bO:Reached}{ak aU rM:Sv}{R:(List aV)}(hF:Pw ag bO=some R):
   Fw.Spec Tryz.prog 212 [aa.v,(zg [ak.v,aU.v,rM.v,(zi bO.Rounds)])] [dQ aa ag,cz ak bO.Facts,ah aU bO.Values,gU rM bO.Log] (fun p:Sv×List Nat=>p.1.v) (fun p=>[mM p.2 p.1 R]):=by
 refine Se 54 Tryz.func212 [.tmp 4] ?_
 intro H0 F0
 unfold Pw at hF
 refine au ?_
 refine bW (fun k1=>?_)
 refine aZ ?_
 refine b_ rfl (bI (g:=true) pF.h lv.h .nil (vs:=[]) rfl rfl rfl (by simp)) (fun k2=>?_)
 refine dh (.cons .h .nil) (bK (Ro:=j4) (E:=115) (F:=[]) (xs:=([]:List aV)) bJ rfl rfl) ?_
 refine bG ?_
 refine bn (bU (m:=ag.length) (fun m7 f' cs'=>∃(g:Fr)(k9:Nat)(dB:List Method)(c3:List aV)(v4:Sv)(F5:List Nat),m7=dB.length/\f'=aR g [(0,aa.v),(3,(pz k1)),(5,v4.v),(6,(zi (k9:Int)))]/\List.drop k9 ag=dB/\aP cs' [dQ aa ag,a_ k1 80 (zg [ak.v,aU.v,rM.v,(zi bO.Rounds)]),cz ak bO.Facts,ah aU bO.Values,gU rM bO.Log,mM F5 v4 c3]/\DD bO dB k9 c3=some R) ⟨_,0,_,_,⟨(some ⟨k2,0,none⟩),0,1⟩,(k2::[]),rfl,aB,rfl,aA,hF⟩ ?_)
 rintro m7 _ _ ⟨g8,k9,dB,c3,v4,F5,rfl,rfl,je,hE,hF⟩
 refine Kb hE ag (fun yQ=>?_)
 rcases dB with _|⟨eF,dB⟩
 · have nR:=dn je
   rw[DD]at hF
   refine bQ ?_
   refine dE ?_
   refine eU ?_
   cases hF
   exact Er (v4,F5)
 obtain⟨nR,fQ,mr⟩:=dA je
 rw[DD]at hF
 refine bQ ?_
 refine dD ?_
 refine au ?_
 obtain⟨iD,pg,pK⟩:=bind_some hF
 refine gN (fun f' cs'=>∃(sJ:List aV)(Xw:Sv)(ac5:List Nat)(g:Fr),sJ=iD/\f'=aR g [(0,aa.v),(3,(pz k1)),(5,Xw.v),(6,(zi (k9:Int)))]/\aP cs' [dQ aa ag,a_ k1 80 (zg [ak.v,aU.v,rM.v,(zi bO.Rounds)]),cz ak bO.Facts,ah aU bO.Values,gU rM bO.Log,mM ac5 Xw sJ]) ?_ ?_
 · replace hF:=pg
   refine bn (j6 (cB (Cm aa.v rfl rfl ?_)))
   refine au ?_
   refine Ai fQ (fun k20 zt=>?_)
   refine au ?_
   refine Al arQ ?_
   refine aT ?_
   refine Ci hF (fun aaX hF=>?_) (fun aaX hF=>?_)
   · refine aZ ?_
     cases hF
     exact⟨_,v4,F5,_,rfl,aB,aA⟩
   refine au ?_
   refine dM [0,1,2,3,4,5,6,7,8,9] [0,1,0,0,12,28,60,124,255,511] [8] mixed (by decide+kernel) ?_
   refine sG ?_
   refine Di fQ (fun k22 j23=>?_)
   refine du ?_
   refine qG (R':=(aW 3 ax)) fT.h rfl .no (.tmp rfl rfl) rfl .h ah8 (fun w24=>?_)
   refine du ?_
   refine bnd hF fun jd jP hF=>kZ (aoD jP) (fun p27=>?_)
   refine bV ?_
   refine aZ ?_
   refine bn (lS .h bi ?_)
   refine bU (m:=jd.length) (fun m68 f' cs'=>∃(g:Fr)(wZ:Nat)(Bg:List (List Int))(c64:List aV)(v65:Sv)(X3:List Nat),m68=Bg.length/\f'=aR g [(0,aa.v),(3,(pz k1)),(5,v65.v),(6,(zi (k9:Int))),(7,p27.1.v),(8,(zi (wZ:Int)))]/\List.drop wZ jd=Bg/\aP cs' [dQ aa ag,a_ k1 80 (zg [ak.v,aU.v,rM.v,(zi bO.Rounds)]),cz ak bO.Facts,ah aU bO.Values,gU rM bO.Log,mM X3 v65 c64,bT (aW 24 (aW 3 ax)) p27.1.v jd]/\zS bO k9 Bg wZ c64=some iD) ⟨_,0,_,_,v4,F5,rfl,aB,rfl,aA,hF⟩ ?_
   rintro m68 _ _ ⟨g69,wZ,Bg,c64,v65,X3,rfl,rfl,ale,hE,hF⟩
   refine Kb hE jd (fun aCy=>?_)
   rcases Bg with _|⟨x72,Bg⟩
   · have azP:=dn ale
     rw[zS]at hF
     refine bQ ?_
     refine dE ?_
     refine aL ?_
     cases hF
     exact⟨_,v65,X3,_,rfl,aB,aA⟩
   obtain⟨azP,azQ,azR⟩:=dA ale
   rw[zS]at hF
   refine bQ ?_
   refine dD ?_
   refine au ?_
   obtain⟨o79,awL,azS⟩:=bind_some hF
   refine gN (fun f' cs'=>∃(Ti:List aV)(X4:Sv)(F98:List Nat)(g:Fr),Ti=o79/\f'=aR g [(0,aa.v),(3,(pz k1)),(5,X4.v),(6,(zi (k9:Int))),(7,p27.1.v),(8,(zi (wZ:Int)))]/\aP cs' [dQ aa ag,a_ k1 80 (zg [ak.v,aU.v,rM.v,(zi bO.Rounds)]),cz ak bO.Facts,ah aU bO.Values,gU rM bO.Log,mM F98 X4 Ti,bT (aW 24 (aW 3 ax)) p27.1.v jd]) ?_ ?_
   · replace hF:=awL
     refine bn (cB (Cm (zi (k9:Int)) rfl rfl ?_))
     refine aT ?_
     refine Ai azQ (fun k81 j82=>?_)
     refine ng (R':=(aW 3 ax)) fT.h (.tmp rfl rfl) .h rC (fun w83=>?_)
     refine bnd hF fun uJ EE hF=>dW (aeK EE) (fun p86=>?_)
     refine cO (fun k87=>?_)
     refine As (zg [(zi uJ.Method),p86.1.v]) ?_
     refine bf ?_
     refine bnd hF fun zA ac6 hF=>dC (.cons (.t .h) (.rd .q7 rfl .nil)) (eY bi (fun _=>.nil) (fM (.rd (.t .h) rfl (.rd .h rfl .nil)) (bP aud.h bz (an6 ac6)))) (fun _=>?_)
     refine aT ?_
     refine Ci hF (fun azT hF=>?_) (fun azT hF=>?_)
     · refine aZ ?_
       refine b_ rfl (bI (g:=true) pF.h lv.h bz (vs:=[(zg [(zi uJ.Method),p86.1.v])]) rfl rfl rfl (by intro v hv; simp at hv; rcases hv with rfl<;>rfl)) (fun k91=>?_)
       refine dh (.cons .h (.cons .h .nil)) (bK (Ro:=j4) (E:=115) (F:=(p86.2++[])) (xs:=([uJ]:List aV)) (bS Qb bJ bB) rfl rfl) ?_
       refine bnd hF fun JM hx93 hF=>dC (.cons .q9 (.cons .h .nil)) (dL (Ro:=j4) pF.h Mi lv.h rfl rfl rfl (.tmp rfl rfl) (.tmp rfl rfl) hx93 eX) (fun JO=>?_)
       refine aT ?_
       cases hF
       exact⟨_,JO.1,JO.2,_,rfl,aB,aA⟩
     refine au ?_
     cases hF
     exact⟨_,v65,X3,_,rfl,aB,aA⟩
   rintro _ _ ⟨Ti,X4,F98,aFF,rfl,rfl,hE⟩
   replace hF:=azS
   try dsimp only at hF
   refine bM hE ?_
   refine bf ?_
   rw[wk wZ]
   exact⟨_,bY _,_,wZ+1,Bg,_,X4,F98,rfl,aB,azR,aA,hF⟩
 rintro _ _ ⟨sJ,Xw,ac5,aFG,rfl,rfl,hE⟩
 replace hF:=pK
 try dsimp only at hF
 refine bM hE ?_
 refine bf ?_
 rw[wk k9]
 exact⟨_,bY _,_,k9+1,dB,_,Xw,ac5,rfl,aB,mr,aA,hF⟩
def GZ(fe:List Int)(bN:Fact):List Int->Nat->Option (Bool)
 |[],k6=>some true
 |x8::kI,k6=>(ix bN.Values x8).bind fun qx=>
   (ix fe (k6:Int)).bind fun vJ=>
   if ((qx:Int)!=vJ)then (
     some false)
   else (
     GZ fe bN kI (k6+1))
def Px(bF:Method)(fe:List Int)(bN:Fact):Option (Bool):=
 if ((bN.Rel:Int)!=bF.Rel)then (
   some false)
 else (
   GZ fe bN bF.Inputs 0)
theorem apa{bF:Method}{aQ:Sv}{fe:List Int}{ak:Sv}{bN:Fact}{dw:Sv}{R:Bool}(hF:Px bF fe bN=some R):
   Fw.Spec Tryz.prog 239 [(zg [(zi bF.Rel),aQ.v,(zi bF.Limit),(zi bF.Cost),(zi bF.Quota)]),ak.v,(zg [(zi bN.Rel),dw.v])] [ah aQ bF.Inputs,ah ak fe,ah dw bN.Values] (fun _:Unit=>(.bool R)) (fun _=>[]):=by
 refine Se 34 Tryz.func239 [.tmp 6] ?_
 intro H0 F0
 unfold Px at hF
 refine au ?_
 refine bW (fun k1=>?_)
 refine bW (fun k2=>?_)
 refine lT ?_
 refine Ci hF (fun BG hF=>?_) (fun BG hF=>?_)
 · exact ze hF
 refine bf ?_
 refine bn (bU (m:=bF.Inputs.length) (fun m4 f' cs'=>∃(g:Fr)(k6:Nat)(kI:List Int),m4=kI.length/\f'=aR g [(1,ak.v),(3,(pz k1)),(5,(pz k2)),(7,(zi (k6:Int)))]/\List.drop k6 bF.Inputs=kI/\aP cs' [ah ak fe,a_ k1 92 (zg [(zi bF.Rel),aQ.v,(zi bF.Limit),(zi bF.Cost),(zi bF.Quota)]),ah aQ bF.Inputs,a_ k2 71 (zg [(zi bN.Rel),dw.v]),ah dw bN.Values]/\GZ fe bN kI k6=some R) ⟨_,0,_,rfl,aB,rfl,aA,hF⟩ ?_)
 rintro m4 _ _ ⟨g5,k6,kI,rfl,rfl,EZ,hE,hF⟩
 refine Kb hE bF.Inputs (fun aiP=>?_)
 rcases kI with _|⟨x8,kI⟩
 · have hk10:=dn EZ
   rw[GZ]at hF
   refine fI ?_
   refine dE ?_
   exact ze hF
 obtain⟨hk10,mD,je⟩:=dA EZ
 rw[GZ]at hF
 refine fI ?_
 refine dD ?_
 refine aT ?_
 refine dM [0,1,2,3,4,5,6,7,8,9,10,11,12,13] [0,1,0,4,0,28,60,127,255,0,0,1536,3584,8191] [] mixed (by decide+kernel) ?_
 refine xH ?_
 refine Di mD (fun k15 j16=>?_)
 refine Dl dN ?_
 refine zI hF fun qx Wy nT hF=>?_
 refine Di nT (fun k21 M_=>?_)
 refine Dl dN ?_
 refine bV ?_
 refine zI hF fun vJ aj6 jP hF=>?_
 refine Di jP (fun k27 j28=>?_)
 refine Dl dN ?_
 refine bV ?_
 refine Ci hF (fun qJ hF=>?_) (fun qJ hF=>?_)
 · exact ze hF
 refine bG ?_
 rw[wk k6]
 exact⟨_,bY _,_,k6+1,kI,rfl,aB,je,aA,hF⟩
def F9(bF:Method)(fe:List Int):List Fact->Nat->(List Fact)->Option ((List Fact))
 |[],k9,c3=>some c3
 |eF::dB,k9,c3=>((Px bF fe eF).bind fun n_=>
     if n_ then (
       (yN eF.Rel eF.Values).bind fun EY=>
       (app c3 ([EY]:List Fact)).bind fun z35=>
       some z35)
     else (
       some c3)).bind fun iD=>
   match iD with
   |qw=>F9 bF fe dB (k9+1) qw
def KW(bF:Method)(fe:List Int)(bA:List Fact):Option ((List Fact)):=
 F9 bF fe bA 0 ([]:List Fact)
theorem anz{bF:Method}{aQ:Sv}{fe:List Int}{ak:Sv}{bA:List Fact}{bu:Sv}{R:(List Fact)}(hF:KW bF fe bA=some R):
   Fw.Spec Tryz.prog 213 [(zg [(zi bF.Rel),aQ.v,(zi bF.Limit),(zi bF.Cost),(zi bF.Quota)]),ak.v,bu.v] [ah aQ bF.Inputs,ah ak fe,cz bu bA] (fun p:Sv×List Nat=>p.1.v) (fun p=>[h_ p.2 p.1 R]):=by
 refine Se 38 Tryz.func213 [.tmp 6] ?_
 intro H0 F0
 unfold KW at hF
 refine au ?_
 refine bW (fun k1=>?_)
 refine aZ ?_
 refine b_ rfl (bI (g:=true) fU.h eG.h .nil (vs:=[]) rfl rfl rfl (by simp)) (fun k2=>?_)
 refine dh (.cons .h .nil) (bK (Ro:=gD) (E:=71) (F:=[]) (xs:=([]:List Fact)) bJ rfl rfl) ?_
 refine bG ?_
 refine bn (bU (m:=bA.length) (fun m7 f' cs'=>∃(g:Fr)(k9:Nat)(dB c3:List Fact)(v4:Sv)(F5:List Nat),m7=dB.length/\f'=aR g [(1,ak.v),(2,bu.v),(3,(pz k1)),(7,v4.v),(8,(zi (k9:Int)))]/\List.drop k9 bA=dB/\aP cs' [ah ak fe,cz bu bA,a_ k1 92 (zg [(zi bF.Rel),aQ.v,(zi bF.Limit),(zi bF.Cost),(zi bF.Quota)]),ah aQ bF.Inputs,h_ F5 v4 c3]/\F9 bF fe dB k9 c3=some R) ⟨_,0,_,_,⟨(some ⟨k2,0,none⟩),0,1⟩,(k2::[]),rfl,aB,rfl,aA,hF⟩ ?_)
 rintro m7 _ _ ⟨g8,k9,dB,c3,v4,F5,rfl,rfl,je,hE,hF⟩
 refine Kb hE bA (fun yQ=>?_)
 rcases dB with _|⟨eF,dB⟩
 · have nR:=dn je
   rw[F9]at hF
   refine bQ ?_
   refine dE ?_
   refine eU ?_
   cases hF
   exact Er (v4,F5)
 obtain⟨nR,fQ,mr⟩:=dA je
 rw[F9]at hF
 refine bQ ?_
 refine dD ?_
 refine au ?_
 obtain⟨iD,pg,pK⟩:=bind_some hF
 refine gN (fun f' cs'=>∃(qw:List Fact)(v40:Sv)(F41:List Nat)(g:Fr),qw=iD/\f'=aR g [(1,ak.v),(2,bu.v),(3,(pz k1)),(7,v40.v),(8,(zi (k9:Int)))]/\aP cs' [ah ak fe,cz bu bA,a_ k1 92 (zg [(zi bF.Rel),aQ.v,(zi bF.Limit),(zi bF.Cost),(zi bF.Quota)]),ah aQ bF.Inputs,h_ F41 v40 qw]) ?_ ?_
 · replace hF:=pg
   refine bn (dM [0,1,2,3,4,5,6] [0,0,0,0,12,28,63] [6] mixed (by decide+kernel) ?_)
   refine sG ?_
   refine Di fQ (fun k20 zt=>?_)
   refine oz (mZ eF) nI (fun iI=>?_)
   refine bnd hF fun n_ hx24 hF=>jB (apa hx24) (fun _=>?_)
   refine du ?_
   refine Ci hF (fun RB hF=>?_) (fun RB hF=>?_)
   · refine jK [0,1,2,3,4,5,6,7,8,9,10,11,12,13,14] [0,0,0,6,14,30,0,0,192,448,960,2046,4094,8191,16383] [11,13] mixed (by decide+kernel) ?_
     refine fw ?_
     refine Di fQ (fun k26 j27=>?_)
     refine du ?_
     refine Dl PU ?_
     refine bV ?_
     refine Di fQ (fun k28 j29=>?_)
     refine du ?_
     refine qG (R':=(aW 3 ax)) fT.h rfl .no (.tmp rfl rfl) rfl .h LK (fun w30=>?_)
     refine bnd hF fun EY hx32 hF=>kZ (K4 hx32) (fun p33=>?_)
     refine gP rfl .no rfl (fun ha=>bI (g:=true) (len:=1) (parts:=[(0,.tmp 34)]) fU.h eG.h (.cons (EN ha (.tmp rfl rfl) rfl) .nil) (vs:=[(zg [(zi EY.Rel),p33.1.v])]) rfl rfl rfl (by intro v hv; simp at hv; rcases hv with rfl<;>rfl)) (fun k34=>?_)
     refine gZ (.cons .h (.cons .h .nil)) (bK (Ro:=gD) (E:=71) (F:=(p33.2++[])) (xs:=([EY]:List Fact)) (bS xE bJ bB) rfl rfl) ?_
     refine bnd hF fun z35 uX hF=>bZ rfl rfl .no (.cons .q10 (.cons .h .nil)) (.dep rfl .nil) (fun ha=>dL (Ro:=gD) fU.h xG eG.h rfl rfl rfl (EN ha (.tmp rfl rfl) rfl) (EN ha (.tmp rfl rfl) rfl) uX eX) (fun p37=>?_)
     refine bV ?_
     cases hF
     exact⟨_,p37.1,p37.2,_,rfl,aB,aA⟩
   refine au ?_
   cases hF
   exact⟨_,v4,F5,_,rfl,aB,aA⟩
 rintro _ _ ⟨qw,v40,F41,g43,rfl,rfl,hE⟩
 replace hF:=pK
 try dsimp only at hF
 refine bM hE ?_
 refine bf ?_
 rw[wk k9]
 exact⟨_,bY _,_,k9+1,dB,_,v40,F41,rfl,aB,mr,aA,hF⟩
def GA(x1188:Fact)(Io:(List Fact)):Nat->(List Int)->Int->Option ((List Fact)×(List Int))
 |0,_,_=>none
 |Ip+1,L6,Iq=>if (decide ((Iq:Int)<(x1188.Values.length:Int)))then (
     (ix x1188.Values Iq).bind fun x1245=>
     (Ah L6 x1245).bind fun ai6=>
     GA x1188 Io Ip ai6 (IntKind.i64.wrap (Iq+1)))
   else (
     some (Io,L6))
def GD(BX:List aV):List Fact->Nat->(List Fact)->(List Int)->Option ((List Fact)×(List Int)×(List aV))
 |[],xA,Ir,Iu=>some (Ir,Iu,BX)
 |x1188::Ad,xA,Ir,Iu=>((Ho Ir x1188).bind fun Io=>
     GA x1188 Io (((x1188.Values.length:Int)-0).toNat+2) Iu 0).bind fun VV=>
   match VV with
   |(c1255,Qs)=>GD BX Ad (xA+1) c1255 Qs
def zT(ag:List Method)(bA:List Fact)(bO:Reached)(r3:Reached)(r7:(List aV)):List aV->Nat->(List Fact)->(List Int)->(List aV)->Option (Reached×Bool)
 |[],vz,EK,EL,EM=>if (((r7.length:Int):Int)==0)then (
     some ((⟨EK,EL,EM,r3.Rounds⟩:Reached),false))
   else (
     some ((⟨EK,EL,EM,(IntKind.i64.wrap (bO.Rounds+1))⟩:Reached),true))
 |Jm::Ay,vz,EK,EL,EM=>((app EM ([Jm]:List aV)).bind fun BX=>
     (ix ag Jm.Method).bind fun ac7=>
     (KW ac7 Jm.Values bA).bind fun Ej=>
     GD BX Ej 0 EK EL).bind fun Xx=>
   match Xx with
   |(Qt,Qu,Qv)=>zT ag bA bO r3 r7 Ay (vz+1) Qt Qu Qv
def Py(ag:List Method)(bA:List Fact)(bO:Reached):Option (Reached×Bool):=
 (Ls bO).bind fun r3=>
 (Pw ag bO).bind fun r7=>
 zT ag bA bO r3 r7 r7 0 r3.Facts r3.Values r3.Log
theorem apb{ag:List Method}{aa:Sv}{bA:List Fact}{ak:Sv}{bO:Reached}{bu dw wJ:Sv}{R:Reached×Bool}(hF:Py ag bA bO=some R):
   Fw.Spec Tryz.prog 176 [aa.v,ak.v,(zg [bu.v,dw.v,wJ.v,(zi bO.Rounds)])] [dQ aa ag,cz ak bA,cz bu bO.Facts,ah dw bO.Values,gU wJ bO.Log] (fun p:Sv×List Nat×Sv×List Nat×Sv=>(.tuple [(zg [p.1.v,p.2.2.1.v,p.2.2.2.2.v,(zi R.1.Rounds)]),(.bool R.2)].toArray)) (fun p=>[h_ p.2.1 p.1 R.1.Facts,bv p.2.2.2.1 p.2.2.1 R.1.Values,gU p.2.2.2.2 R.1.Log]):=by
 refine Se 94 Tryz.func176 [.cell 6 80,.tmp 7] ?_
 intro H0 F0
 unfold Py at hF
 refine au ?_
 refine bW (fun k1=>?_)
 refine cO (fun k2=>?_)
 refine aL ?_
 refine bnd hF fun r3 hx4 hF=>sQ (afc hx4) (fun p5=>?_)
 refine cO (fun k6=>?_)
 refine As (zg [p5.1.v,p5.2.2.1.v,p5.2.2.2.2.1.v,(zi r3.Rounds)]) ?_
 refine aL ?_
 refine bnd hF fun r7 nY hF=>dW (ao' nY) (fun p9=>?_)
 refine bG ?_
 refine bn (lS .h bi ?_)
 refine bU (m:=r7.length) (fun alf f' cs'=>∃(g:Fr)(vz:Nat)(Ay:List aV)(EK:List Fact)(EL:List Int)(EM:List aV)(zk:Sv)(R5:List Nat)(zl:Sv)(R6:List Nat)(BZ:Sv)(alg:List Nat),alf=Ay.length/\f'=aR g [(0,aa.v),(1,ak.v),(5,(pz k1)),(6,(pz k2)),(8,(pz k6)),(9,p9.1.v),(10,(zi (vz:Int)))]/\List.drop vz r7=Ay/\aP cs' [dQ aa ag,cz ak bA,a_ k1 80 (zg [bu.v,dw.v,wJ.v,(zi bO.Rounds)]),cz bu bO.Facts,ah dw bO.Values,gU wJ bO.Log,bq k2 80 (zg [(.slice none 0 0),(.slice none 0 0),(.slice none 0 0),(zi 0)]),bq k6 80 (zg [zk.v,zl.v,BZ.v,(zi r3.Rounds)]),h_ R5 zk EK,bv R6 zl EL,Qd alg BZ EM,gU p9.1 r7]/\zT ag bA bO r3 r7 Ay vz EK EL EM=some R) ⟨_,0,_,_,_,_,p5.1,p5.2.1,p5.2.2.1,p5.2.2.2.1,p5.2.2.2.2.1,(p5.2.2.2.2.2.take 1),rfl,aB,rfl,(.half .q4 aA),hF⟩ ?_
 rintro alf _ _ ⟨aFH,vz,Ay,EK,EL,EM,zk,R5,zl,R6,BZ,alg,rfl,rfl,ai7,hE,hF⟩
 refine Kb hE r7 (fun aAF=>?_)
 rcases Ay with _|⟨Jm,Ay⟩
 · have awM:=dn ai7
   rw[zT]at hF
   refine bQ ?_
   refine dE ?_
   refine lT ?_
   refine Ci hF (fun awN hF=>?_) (fun awN hF=>?_)
   · refine aT ?_
     refine As (zg [zk.v,zl.v,BZ.v,(zi r3.Rounds)]) ?_
     refine aZ ?_
     cases hF
     exact eO (zk,R5,zl,R6,BZ) (.cellA rfl rfl .h rfl yX.h pI.h.sz rfl rfl (.tmp rfl rfl .nil)) rfl (.frz .q10 bi (.sel (.cons .q9 (.cons .q9 (.rd .h rfl .nil)))))
   refine bG ?_
   refine As (zg [zk.v,zl.v,BZ.v,(zi (IntKind.i64.wrap (bO.Rounds+1)))]) ?_
   refine aZ ?_
   refine As (zg [zk.v,zl.v,BZ.v,(zi (IntKind.i64.wrap (bO.Rounds+1)))]) ?_
   refine aZ ?_
   cases hF
   exact eO (zk,R5,zl,R6,BZ) (.cellA rfl rfl .h rfl yX.h pI.h.sz rfl rfl (.tmp rfl rfl .nil)) rfl (.frz .q10 bi (.sel (.cons .q9 (.cons .q9 (.rd .h rfl .nil)))))
 obtain⟨awM,abb,awO⟩:=dA ai7
 rw[zT]at hF
 refine bQ ?_
 refine dD ?_
 refine au ?_
 obtain⟨Xx,ar9,awP⟩:=bind_some hF
 refine gN (fun f' cs'=>∃(Qt:List Fact)(Qu:List Int)(Qv:List aV)(VW:Sv)(abd:List Nat)(VX:Sv)(abe:List Nat)(VY:Sv)(abf:List Nat)(g:Fr),Xx=(Qt,Qu,Qv)/\f'=aR g [(0,aa.v),(1,ak.v),(5,(pz k1)),(6,(pz k2)),(8,(pz k6)),(9,p9.1.v),(10,(zi (vz:Int)))]/\aP cs' [dQ aa ag,cz ak bA,a_ k1 80 (zg [bu.v,dw.v,wJ.v,(zi bO.Rounds)]),cz bu bO.Facts,ah dw bO.Values,gU wJ bO.Log,bq k2 80 (zg [(.slice none 0 0),(.slice none 0 0),(.slice none 0 0),(zi 0)]),bq k6 80 (zg [VW.v,VX.v,VY.v,(zi r3.Rounds)]),h_ abd VW Qt,bv abe VX Qu,Qd abf VY Qv,gU p9.1 r7]) ?_ ?_
 · replace hF:=ar9
   refine bn (dM [0,1,2,3,4,5,6,7,8,9] [0,1,0,0,12,28,60,127,255,511] [7,9] mixed (by decide+kernel) ?_)
   refine du ?_
   refine dH rfl .no .q7 (fun ha hp=>fZ (v:=BZ.v) aby.h (EN ha (.tmp rfl rfl) rfl) hp.2 rfl rfl) ?_
   refine bV ?_
   refine Di abb (fun aFI aFJ=>?_)
   refine oz (zQ Jm) Dv (fun azU=>?_)
   refine gP rfl .no rfl (fun ha=>bI (g:=true) (len:=1) (parts:=[(0,.tmp 30)]) pF.h lv.h (.cons (EN ha (.tmp rfl rfl) rfl) .nil) (vs:=[(zg [(zi Jm.Method),azU.v])]) rfl rfl rfl (by intro v hv; simp at hv; rcases hv with rfl<;>rfl)) (fun azb=>?_)
   refine gZ (.cons .h (.rd .h rfl .nil)) (bK (Ro:=(aj xz)) (E:=115) (F:=([]++[])) (xs:=([Jm]:List aV)) (bS aue bJ bB) rfl rfl) ?_
   refine bnd hF fun BX awQ hF=>bZ rfl rfl .no (.cons .q13 (.cons .h .nil)) (.dep rfl (.dep rfl .nil)) (fun ha=>dL (Ro:=(aj xz)) pF.h Mi lv.h rfl rfl rfl (EN ha (.tmp rfl rfl) rfl) (EN ha (.tmp rfl rfl) rfl) awQ eX) (fun ut=>?_)
   refine du ?_
   refine bZ rfl rfl .no (.cons .q10 .nil) (.dep rfl (.dep rfl .nil)) (fun ha=>fA (e':=(zg [zk.v,zl.v,ut.1.v,(zi r3.Rounds)])) ajA.h.sz (EN ha (.tmp rfl rfl) rfl) (EN ha (.tmp rfl rfl) rfl) rfl rfl rfl rfl rfl) (fun _=>?_)
   refine du ?_
   refine dM [0,1,2,3,4,5,6,7,8,9,10,11,12,13,14,15] [0,0,0,6,14,30,63,127,0,0,768,1792,3840,0,16383,32767] [14] mixed (by decide+kernel) ?_
   refine fw ?_
   refine Di abb (fun aFK aFL=>?_)
   refine du ?_
   refine Dl ahB ?_
   refine zI hF fun ac7 aCz awR hF=>?_
   refine Di awR (fun aFM aFN=>?_)
   refine oz (yF ac7) zZ (fun aFO=>?_)
   refine bV ?_
   refine Di abb (fun aFP aFQ=>?_)
   refine du ?_
   refine qG (R':=(aW 3 ax)) fT.h rfl .no (.tmp rfl rfl) rfl .h ahC (fun aCA=>?_)
   refine du ?_
   refine bnd hF fun Ej ar_ hF=>kZ (anz ar_) (fun L8=>?_)
   refine bV ?_
   refine aZ ?_
   refine bn (lS .h bi ?_)
   refine bU (m:=Ej.length) (fun ai8 f' cs'=>∃(g:Fr)(xA:Nat)(Ad Ir:List Fact)(Iu:List Int)(Qw:Sv)(abg:List Nat)(L9:Sv)(VZ:List Nat),ai8=Ad.length/\f'=aR g [(0,aa.v),(1,ak.v),(5,(pz k1)),(6,(pz k2)),(8,(pz k6)),(9,p9.1.v),(10,(zi (vz:Int))),(11,L8.1.v),(12,(zi (xA:Int)))]/\List.drop xA Ej=Ad/\aP cs' [dQ aa ag,cz ak bA,a_ k1 80 (zg [bu.v,dw.v,wJ.v,(zi bO.Rounds)]),cz bu bO.Facts,ah dw bO.Values,gU wJ bO.Log,bq k2 80 (zg [(.slice none 0 0),(.slice none 0 0),(.slice none 0 0),(zi 0)]),bq k6 80 (zg [Qw.v,L9.v,ut.1.v,(zi r3.Rounds)]),h_ abg Qw Ir,bv VZ L9 Iu,Qd ut.2 ut.1 BX,gU p9.1 r7,cz L8.1 Ej]/\GD BX Ad xA Ir Iu=some Xx) ⟨_,0,_,_,_,zk,R5,zl,R6,rfl,aB,rfl,aA,hF⟩ ?_
   rintro ai8 _ _ ⟨aCB,xA,Ad,Ir,Iu,Qw,abg,L9,VZ,rfl,rfl,hd1189,hE,hF⟩
   refine Kb hE Ej (fun aAc=>?_)
   rcases Ad with _|⟨x1188,Ad⟩
   · have ar':=dn hd1189
     rw[GD]at hF
     refine bQ ?_
     refine dE ?_
     refine aL ?_
     cases hF
     exact⟨_,_,_,Qw,abg,L9,VZ,ut.1,ut.2,_,rfl,aB,aA⟩
   obtain⟨ar',hx1191,hd1192⟩:=dA hd1189
   rw[GD]at hF
   refine bQ ?_
   refine dD ?_
   refine au ?_
   obtain⟨VV,aq4,asa⟩:=bind_some hF
   refine gN (fun f' cs'=>∃(c1255:List Fact)(Qs:List Int)(V3:Sv)(abh:List Nat)(V4:Sv)(abj:List Nat)(g:Fr),VV=(c1255,Qs)/\f'=aR g [(0,aa.v),(1,ak.v),(5,(pz k1)),(6,(pz k2)),(8,(pz k6)),(9,p9.1.v),(10,(zi (vz:Int))),(11,L8.1.v),(12,(zi (xA:Int)))]/\aP cs' [dQ aa ag,cz ak bA,a_ k1 80 (zg [bu.v,dw.v,wJ.v,(zi bO.Rounds)]),cz bu bO.Facts,ah dw bO.Values,gU wJ bO.Log,bq k2 80 (zg [(.slice none 0 0),(.slice none 0 0),(.slice none 0 0),(zi 0)]),bq k6 80 (zg [V3.v,V4.v,ut.1.v,(zi r3.Rounds)]),h_ abh V3 c1255,bv abj V4 Qs,Qd ut.2 ut.1 BX,gU p9.1 r7,cz L8.1 Ej]) ?_ ?_
   · replace hF:=aq4
     refine bn (dM [0,1,2,3,4,5,6,7,8] [0,1,0,0,12,28,63,127,255] [6,8] mixed (by decide+kernel) ?_)
     refine du ?_
     refine dH rfl .no .q7 (fun ha hp=>fZ (v:=Qw.v) QJ.h (EN ha (.tmp rfl rfl) rfl) hp.2 rfl rfl) ?_
     refine bV ?_
     refine Di hx1191 (fun aCC aCD=>?_)
     refine oz (mZ x1188) nI (fun aCE=>?_)
     refine bnd hF fun Io hx1201 hF=>lq rfl rfl .no (.cons .q10 (.rd .h rfl .nil)) (.dep rfl .nil) (fun ha=>eY bi (fun _=>(.cons .nil)) (bP aaJ.h (.cons (EN ha (.tmp rfl rfl) rfl) (.cons (EN ha (.tmp rfl rfl) rfl) .nil)) (YM hx1201))) (fun Iw=>?_)
     refine du ?_
     refine bZ rfl rfl .no (.cons .q11 .nil) (.dep rfl .nil) (fun ha=>fA (e':=(zg [Iw.1.v,L9.v,ut.1.v,(zi r3.Rounds)])) ajy.h.sz (EN ha (.tmp rfl rfl) rfl) (EN ha (.tmp rfl rfl) rfl) rfl rfl rfl rfl rfl) (fun _=>?_)
     refine du ?_
     refine aZ ?_
     refine bn (bU (m:=(((x1188.Values.length:Int)-0).toNat+2)) (fun Ip f' cs'=>∃(g:Fr)(L6:List Int)(Iq:Int)(Qx:Sv)(abk:List Nat),f'=aR g [(0,aa.v),(1,ak.v),(5,(pz k1)),(6,(pz k2)),(8,(pz k6)),(9,p9.1.v),(10,(zi (vz:Int))),(11,L8.1.v),(12,(zi (xA:Int))),(13,(zi Iq))]/\aP cs' [dQ aa ag,cz ak bA,a_ k1 80 (zg [bu.v,dw.v,wJ.v,(zi bO.Rounds)]),cz bu bO.Facts,ah dw bO.Values,gU wJ bO.Log,bq k2 80 (zg [(.slice none 0 0),(.slice none 0 0),(.slice none 0 0),(zi 0)]),bq k6 80 (zg [Iw.1.v,Qx.v,ut.1.v,(zi r3.Rounds)]),h_ Iw.2 Iw.1 Io,bv abk Qx L6,Qd ut.2 ut.1 BX,gU p9.1 r7,cz L8.1 Ej]/\GA x1188 Io Ip L6 Iq=some VV) ⟨_,_,_,L9,VZ,aB,aA,hF⟩ ?_)
     rintro Ip _ _ ⟨aCF,L6,Iq,Qx,abk,rfl,hE,hF⟩
     refine bM hE ?_
     rcases Ip with _|Ip
     · rw[GA]at hF
       exact absurd hF (by simp)
     rw[GA]at hF
     refine bf ?_
     refine Ai hx1191 (fun aCG aCH=>?_)
     refine au ?_
     refine ng (R':=(aW 3 ax)) fT.h (.tmp rfl rfl) .h LK (fun aCI=>?_)
     refine aZ ?_
     refine Ci hF (fun asb hF=>?_) (fun asb hF=>?_)
     · refine aT ?_
       refine jK [0,1,2,3,4,5,6,7,8,9,10,11,12] [0,1,0,0,12,28,60,0,252,508,1023,2047,4095] [10,12] mixed (by decide+kernel) ?_
       refine du ?_
       refine dH rfl .no .q9 (fun ha hp=>fZ (v:=Qx.v) fT.h (EN ha (.tmp rfl rfl) rfl) hp.2 rfl rfl) ?_
       refine bV ?_
       refine Di hx1191 (fun aCJ aCK=>?_)
       refine du ?_
       refine qG (R':=(aW 3 ax)) fT.h rfl .no (.tmp rfl rfl) rfl .h LK (fun aCL=>?_)
       refine du ?_
       refine zI hF fun x1245 aAG ase hF=>?_
       refine Di ase (fun aCM aCN=>?_)
       refine Dl dN ?_
       refine bnd hF fun ai6 asf hF=>kZ (OB asf) (fun abl=>?_)
       refine du ?_
       refine bZ rfl rfl .no (.cons .q13 .nil) (.dep rfl .nil) (fun ha=>fA (e':=(zg [Iw.1.v,abl.1.v,ut.1.v,(zi r3.Rounds)])) fB.h.sz (EN ha (.tmp rfl rfl) rfl) (EN ha (.tmp rfl rfl) rfl) rfl rfl rfl rfl rfl) (fun _=>?_)
       refine du ?_
       refine bf ?_
       exact⟨Ip,bY _,_,_,_,abl.1,abl.2,aB,aA,hF⟩
     refine aL ?_
     cases hF
     exact⟨_,_,Iw.1,Iw.2,Qx,abk,_,rfl,aB,aA⟩
   rintro _ _ ⟨c1255,Qs,V3,abh,V4,abj,aCO,rfl,rfl,hE⟩
   replace hF:=asa
   try dsimp only at hF
   refine bM hE ?_
   refine bf ?_
   rw[wk xA]
   exact⟨_,bY _,_,xA+1,Ad,_,_,V3,abh,V4,abj,rfl,aB,hd1192,aA,hF⟩
 rintro _ _ ⟨Qt,Qu,Qv,VW,abd,VX,abe,VY,abf,aCP,rfl,rfl,hE⟩
 replace hF:=awP
 try dsimp only at hF
 refine bM hE ?_
 refine bf ?_
 rw[wk vz]
 exact⟨_,bY _,_,vz+1,Ay,_,_,_,VW,abd,VX,abe,VY,abf,rfl,aB,awO,aA,hF⟩
def Ot(ae:List Int)(ag:List Method)(bA:List Fact)(bO:Reached):Option (Reached×Bool):=
 ((zP ae ag).bind fun r5=>
   bif (!r5)then (some true)
   else ((zX ae bA).bind fun r9=>
     bif (!r9)then (some true)
     else ((OJ bO.Values).bind fun fC=>
       bif (!fC)then (some true)
       else ((zX ae bO.Facts).bind fun iq=>
         bif (!iq)then (some true)
         else ((mK bO.Rounds 0 100).bind fun kP=>
           some (!kP)))))).bind fun o3=>
 match o3 with
 |c24=>if c24 then (
     (Ls bO).bind fun jd=>
     some (jd,false))
   else (
     (Py ag bA bO).bind fun l5=>
     some (l5.1,l5.2))
theorem anA{ae:List Int}{aa:Sv}{ag:List Method}{ak:Sv}{bA:List Fact}{bu:Sv}{bO:Reached}{jG pO uu:Sv}{R:Reached×Bool}(hF:Ot ae ag bA bO=some R):
   Fw.Spec Tryz.prog 110 [aa.v,ak.v,bu.v,(zg [jG.v,pO.v,uu.v,(zi bO.Rounds)])] [ah aa ae,dQ ak ag,cz bu bA,cz jG bO.Facts,ah pO bO.Values,gU uu bO.Log] (fun p:Sv×List Nat×Sv×List Nat×Sv=>(.tuple [(zg [p.1.v,p.2.2.1.v,p.2.2.2.2.v,(zi R.1.Rounds)]),(.bool R.2)].toArray)) (fun p=>[h_ p.2.1 p.1 R.1.Facts,bv p.2.2.2.1 p.2.2.1 R.1.Values,gU p.2.2.2.2 R.1.Log]):=by
 refine Se 52 Tryz.func110 [.cell 8 80,.tmp 9] ?_
 intro H0 F0
 unfold Ot at hF
 refine au ?_
 refine bW (fun k1=>?_)
 refine cO (fun k2=>?_)
 refine aZ ?_
 obtain⟨o3,lW,hO4⟩:=bind_some hF
 refine au ?_
 refine gB (fun f' cs'=>∃(c24:Bool)(g:Fr),c24=o3/\f'=aR g [(1,ak.v),(2,bu.v),(7,(pz k1)),(8,(pz k2)),(40,(.bool c24))]/\aP cs' [dQ ak ag,cz bu bA,a_ k1 80 (zg [jG.v,pO.v,uu.v,(zi bO.Rounds)]),cz jG bO.Facts,ah pO bO.Values,gU uu bO.Log,bq k2 80 (zg [(.slice none 0 0),(.slice none 0 0),(.slice none 0 0),(zi 0)])]) ?_ ?_
 · replace hF:=lW
   refine aT ?_
   refine bnd hF fun r5 hx6 hF=>bR (Yv hx6) (fun _=>?_)
   refine aT ?_
   rcases df (!r5)with dR|dR
   · rw[dR]
     try rw[dR]at hF; dsimp only[aY,aX]at hF
     exact cK hF
   rw[dR]
   try rw[dR]at hF; dsimp only[aY,aX]at hF
   refine bf ?_
   refine bnd hF fun r9 gu hF=>bR (KF gu) (fun _=>?_)
   refine aL ?_
   rcases df (!r9)with iw|iw
   · rw[iw]
     try rw[iw]at hF; dsimp only[aY,aX]at hF
     exact cK hF
   rw[iw]
   try rw[iw]at hF; dsimp only[aY,aX]at hF
   refine bf ?_
   refine bnd hF fun fC fQ hF=>bR (an5 fQ) (fun _=>?_)
   refine aL ?_
   rcases df (!fC)with jF|jF
   · rw[jF]
     try rw[jF]at hF; dsimp only[aY,aX]at hF
     exact cK hF
   rw[jF]
   try rw[jF]at hF; dsimp only[aY,aX]at hF
   refine bQ ?_
   refine bnd hF fun iq iL hF=>bR (KF iL) (fun _=>?_)
   refine aL ?_
   rcases df (!iq)with qL|qL
   · rw[qL]
     try rw[qL]at hF; dsimp only[aY,aX]at hF
     exact cK hF
   rw[qL]
   try rw[qL]at hF; dsimp only[aY,aX]at hF
   refine bf ?_
   refine bnd hF fun kP uk hF=>bR (qc uk) (fun _=>?_)
   exact cK hF
 rintro _ _ ⟨c24,g33,rfl,rfl,hE⟩
 replace hF:=hO4
 try dsimp only at hF
 refine bM hE ?_
 refine Ci hF (fun BF hF=>?_) (fun BF hF=>?_)
 · refine aT ?_
   refine bnd hF fun jd jP hF=>sQ (afc jP) (fun p27=>?_)
   refine As (zg [p27.1.v,p27.2.2.1.v,p27.2.2.2.2.1.v,(zi jd.Rounds)]) ?_
   refine aZ ?_
   cases hF
   exact eO (p27.1,p27.2.1,p27.2.2.1,p27.2.2.2.1,p27.2.2.2.2.1) (.cellA rfl rfl .h rfl yX.h pI.h.sz rfl rfl (.tmp rfl rfl .nil)) rfl (.frz .q3 bi (.sel (.cons .q2 (.cons .q2 (.rd .h rfl .nil)))))
 refine bf ?_
 refine bnd hF fun l5 hx29 hF=>sQ (apb hx29) (fun p30=>?_)
 refine au ?_
 refine zx ?_
 refine zx ?_
 refine cO (fun SF=>?_)
 refine As (zg [p30.1.v,p30.2.2.1.v,p30.2.2.2.2.v,(zi l5.1.Rounds)]) ?_
 refine bf ?_
 refine As (zg [p30.1.v,p30.2.2.1.v,p30.2.2.2.2.v,(zi l5.1.Rounds)]) ?_
 refine aZ ?_
 cases hF
 exact eO (p30.1,p30.2.1,p30.2.2.1,p30.2.2.2.1,p30.2.2.2.2) (.cellA rfl rfl .h rfl yX.h pI.h.sz rfl rfl (.tmp rfl rfl .nil)) rfl (.sel (.cons .q2 (.cons .q2 (.rd .q2 rfl .nil))))
def Gn(ae:List Int)(ag:List Method)(bA:List Fact):Nat->(List Fact)->(List Int)->(List aV)->Int->Int->Option (Reached)
 |0,_,_,_,_,_=>none
 |sV+1,vM,vN,sW,tO,c51=>if (decide ((c51:Int)<40))then (
     (Ot ae ag bA (⟨vM,vN,sW,tO⟩:Reached)).bind fun iQ=>
     if (!iQ.2)then (
       some (⟨vM,vN,sW,tO⟩:Reached))
     else (
       Gn ae ag bA sV iQ.1.Facts iQ.1.Values iQ.1.Log iQ.1.Rounds (IntKind.i64.wrap (c51+1))))
   else (
     some (⟨vM,vN,sW,tO⟩:Reached))
def He(ae:List Int)(ag:List Method)(bA:List Fact)(mg:List Int):Option (Reached):=
 (Oa mg).bind fun r2=>
 Gn ae ag bA (((40:Int)-0).toNat+2) r2.Facts r2.Values r2.Log r2.Rounds 0
theorem YH{ae:List Int}{aa:Sv}{ag:List Method}{ak:Sv}{bA:List Fact}{bu:Sv}{mg:List Int}{jG:Sv}{R:Reached}(hF:He ae ag bA mg=some R):
   Fw.Spec Tryz.prog 54 [aa.v,ak.v,bu.v,jG.v] [ah aa ae,dQ ak ag,cz bu bA,ah jG mg] (fun p:Sv×Sv×Sv=>(zg [p.1.v,p.2.1.v,p.2.2.v,(zi R.Rounds)])) (fun p=>[cz p.1 R.Facts,ah p.2.1 R.Values,gU p.2.2 R.Log]):=by
 refine Se 32 Tryz.func54 [.cell 8 80] ?_
 intro H0 F0
 unfold He at hF
 refine au ?_
 refine cO (fun k1=>?_)
 refine aZ ?_
 refine bnd hF fun r2 hx3 hF=>sQ (am6 hx3) (fun p4=>?_)
 refine cO (fun k5=>?_)
 refine As (zg [p4.1.v,p4.2.2.1.v,p4.2.2.2.2.1.v,(zi r2.Rounds)]) ?_
 refine bf ?_
 refine bn (bU (m:=(((40:Int)-0).toNat+2)) (fun sV f' cs'=>∃(g:Fr)(vM:List Fact)(vN:List Int)(sW:List aV)(tO c51:Int)(v43:Sv)(F44:List Nat)(v46:Sv)(XO:List Nat)(v49:Sv),f'=aR g [(0,aa.v),(1,ak.v),(2,bu.v),(8,(pz k1)),(9,(pz k5)),(10,(zi c51))]/\aP cs' [ah aa ae,dQ ak ag,cz bu bA,bq k1 80 (zg [(.slice none 0 0),(.slice none 0 0),(.slice none 0 0),(zi 0)]),bq k5 80 (zg [v43.v,v46.v,v49.v,(zi tO)]),h_ F44 v43 vM,bv XO v46 vN,gU v49 sW]/\Gn ae ag bA sV vM vN sW tO c51=some R) ⟨_,_,_,_,_,_,p4.1,p4.2.1,p4.2.2.1,p4.2.2.2.1,p4.2.2.2.2.1,aB,(.frz .q3 bi aA),hF⟩ ?_)
 rintro sV _ _ ⟨g53,vM,vN,sW,tO,c51,v43,F44,v46,XO,v49,rfl,hE,hF⟩
 refine bM hE ?_
 rcases sV with _|sV
 · rw[Gn]at hF
   exact absurd hF (by simp)
 rw[Gn]at hF
 refine bf ?_
 refine Ci hF (fun azV hF=>?_) (fun azV hF=>?_)
 · refine aT ?_
   refine lS .q5 bi ?_
   refine lS .q6 bi ?_
   refine bf ?_
   refine bnd hF fun iQ wz hF=>sQ (anA wz) (fun p62=>?_)
   refine au ?_
   refine zx ?_
   refine zx ?_
   refine cO (fun k63=>?_)
   refine As (zg [p62.1.v,p62.2.2.1.v,p62.2.2.2.2.v,(zi iQ.1.Rounds)]) ?_
   refine bQ ?_
   refine Ci hF (fun abT hF=>?_) (fun abT hF=>?_)
   · refine aT ?_
     refine As (zg [v43.v,v46.v,v49.v,(zi tO)]) ?_
     refine aT ?_
     cases hF
     exact Er (v43,v46,v49)
   refine aZ ?_
   refine As (zg [p62.1.v,p62.2.2.1.v,p62.2.2.2.2.v,(zi iQ.1.Rounds)]) ?_
   refine bG ?_
   exact⟨sV,bY _,_,_,_,_,_,_,p62.1,p62.2.1,p62.2.2.1,p62.2.2.2.1,p62.2.2.2.2,aB,aA,hF⟩
 refine bG ?_
 refine As (zg [v43.v,v46.v,v49.v,(zi tO)]) ?_
 refine aT ?_
 cases hF
 exact eO (v43,v46,v49) (.cellA rfl rfl .h rfl yX.h pI.h.sz rfl rfl .nil) rfl (.frz .q5 bi (.frz .q6 bi (.sel (.rd (.t .h) rfl (.rd .h rfl (.rd .q7 rfl .nil))))))
def CZ(fuel:Nat)(ae:List Int)(ag:List Method)(ai:aO):Option (l9×Bool):=
 ((H7 ae ag ai).bind fun r5=>
   bif (!r5)then (some true)
   else ((KQ fuel ae ag ai).bind fun r9=>
     some r9)).bind fun o3=>
 match o3 with
 |c12=>if c12 then (
     some ((⟨[],[],[]⟩:l9),false))
   else (
     (KE fuel ai).bind fun fC=>
     if (!fC.2.2)then (
       some ((⟨[],[],[]⟩:l9),false))
     else (
       (zK ai).bind fun nG=>
       (He ae ag fC.1 nG).bind fun n_=>
       (Ht ai fC.2.1).bind fun tL=>
       some ((⟨fC.1,n_.Facts,tL⟩:l9),true)))
theorem adt{fuel:Nat}{ae:List Int}{aa:Sv}{ag:List Method}{ak:Sv}{ai:aO}{bu dw:Sv}{R:l9×Bool}(hF:CZ fuel ae ag ai=some R):
   Fw.Spec Tryz.prog 18 [aa.v,ak.v,(zg [bu.v,dw.v])] [ah aa ae,dQ ak ag,ah bu ai.Head,bX dw ai.Atoms] (fun p:Sv×Sv×Sv×List Nat=>(.tuple [(zg [p.1.v,p.2.1.v,p.2.2.1.v]),(.bool R.2)].toArray)) (fun p=>[cz p.1 R.1.All,cz p.2.1 R.1.Some,bv p.2.2.2 p.2.2.1 R.1.Tuple]):=by
 refine Se 46 Tryz.func18 [.cell 6 44,.tmp 7] ?_
 intro H0 F0
 unfold CZ at hF
 refine au ?_
 refine bW (fun k1=>?_)
 refine cO (fun k2=>?_)
 refine aZ ?_
 obtain⟨o3,lW,hO4⟩:=bind_some hF
 refine au ?_
 refine gB (fun f' cs'=>∃(c12:Bool)(g:Fr),c12=o3/\f'=aR g [(0,aa.v),(1,ak.v),(5,(pz k1)),(6,(pz k2)),(22,(.bool c12))]/\aP cs' [ah aa ae,dQ ak ag,a_ k1 28 (zg [bu.v,dw.v]),ah bu ai.Head,bX dw ai.Atoms,bq k2 44 (zg [(.slice none 0 0),(.slice none 0 0),(.slice none 0 0)])]) ?_ ?_
 · replace hF:=lW
   refine aZ ?_
   refine bnd hF fun r5 hx6 hF=>bR (Y2 hx6) (fun _=>?_)
   refine aT ?_
   rcases df (!r5)with dR|dR
   · rw[dR]
     try rw[dR]at hF; dsimp only[aY,aX]at hF
     exact cK hF
   rw[dR]
   try rw[dR]at hF; dsimp only[aY,aX]at hF
   refine bQ ?_
   refine bnd hF fun r9 gu hF=>bR (ad4 gu) (fun _=>?_)
   exact cK hF
 rintro _ _ ⟨c12,g32,rfl,rfl,hE⟩
 replace hF:=hO4
 try dsimp only at hF
 refine bM hE ?_
 refine Ci hF (fun BG hF=>?_) (fun BG hF=>?_)
 · refine au ?_
   refine aK (gH lD.h rfl (vs:=[]) .nil (cells:=[(.slice none 0 0),(.slice none 0 0),(.slice none 0 0)]) rfl) ?_
   refine As (zg [(.slice none 0 0),(.slice none 0 0),(.slice none 0 0)]) ?_
   refine aZ ?_
   cases hF
   exact eO (⟨none,0,0⟩,⟨none,0,0⟩,⟨none,0,0⟩,[]) (.cellA rfl rfl .h rfl sF.h lD.h.sz rfl rfl (.tmp rfl rfl .nil)) rfl (.conv .nil (Ef (R:=lV) (E:=71)) (.cons .nil) (.conv .nil (Ef (R:=lV) (E:=71)) (.cons .nil) (.conv .nil (fu (Ro:=(aj ax)) (E:=3)) (.cons .nil) (.sel (.rd .q2 rfl (.rd (.t .h) rfl (.cons .h .nil)))))))
 refine aZ ?_
 refine bnd hF fun fC fQ hF=>sQ (adL fQ) (fun gT=>?_)
 refine au ?_
 refine zx ?_
 refine zx ?_
 refine zx ?_
 refine cO (fun k16=>?_)
 refine au ?_
 refine As (zg [gT.2.2.1.v,gT.2.2.2.2.1.v]) ?_
 refine bQ ?_
 refine Ci hF (fun qJ hF=>?_) (fun qJ hF=>?_)
 · refine au ?_
   refine aK (gH lD.h rfl (vs:=[]) .nil (cells:=[(.slice none 0 0),(.slice none 0 0),(.slice none 0 0)]) rfl) ?_
   refine As (zg [(.slice none 0 0),(.slice none 0 0),(.slice none 0 0)]) ?_
   refine aZ ?_
   cases hF
   exact eO (⟨none,0,0⟩,⟨none,0,0⟩,⟨none,0,0⟩,[]) (.cellA rfl rfl .h rfl sF.h lD.h.sz rfl rfl (.tmp rfl rfl .nil)) rfl (.conv .nil (Ef (R:=lV) (E:=71)) (.cons .nil) (.conv .nil (Ef (R:=lV) (E:=71)) (.cons .nil) (.conv .nil (fu (Ro:=(aj ax)) (E:=3)) (.cons .nil) (.sel (.rd .q2 rfl (.rd (.t .h) rfl (.cons .h .nil)))))))
 refine au ?_
 refine lS (.t .h) bi ?_
 refine bf ?_
 refine bnd hF fun nG nS hF=>dW (Nv nS) (fun iI=>?_)
 refine VF .h bi ?_
 refine bnd hF fun n_ hx24 hF=>sQ (YH hx24) (fun p25=>?_)
 refine cO (fun k26=>?_)
 refine As (zg [p25.1.v,p25.2.1.v,p25.2.2.v,(zi n_.Rounds)]) ?_
 refine au ?_
 refine dM [0,1,2,3,4,5,6,7,8] [0,0,2,0,0,24,63,127,255] [5,7] mixed (by decide+kernel) ?_
 refine bV ?_
 refine dH rfl .no .h (fun ha hp=>fZ (v:=p25.1.v) QJ.h (EN ha (.tmp rfl rfl) rfl) hp.2 rfl rfl) ?_
 refine du ?_
 refine dH rfl .no .q6 (fun ha hp=>gM jN.h d_.h.sz rfl (EN ha (.tmp rfl rfl) rfl) hp.2 rfl) ?_
 refine bnd hF fun tL hx28 hF=>AL rfl rfl .no (.cons .q8 (.cons .q7 (.rd .q10 rfl (.rd .q11 rfl .nil)))) (.dep rfl (.own .h (fun _ h=>h) .nil)) (fun ha=>iW (pre:=_) (.cons bi (.cons bi .nil)) (fun _=>(.cons .nil)) (fM (.rd .q2 rfl (.rd .q3 rfl (.rd .h rfl (.rd (.t .h) rfl .nil)))) (bP ajF.h (.cons (EN ha (.tmp rfl rfl) rfl) (.cons (EN ha (.tmp rfl rfl) rfl) .nil)) (YO hx28)))) (fun p29=>?_)
 refine dJ rfl .no (fun ha=>gH lD.h rfl (vs:=[gT.1.v,p25.1.v,p29.1.v]) (.cons (EN ha (.tmp rfl rfl) rfl) (.cons (EN ha (.tmp rfl rfl) rfl) (.cons (EN ha (.tmp rfl rfl) rfl) .nil))) (cells:=[gT.1.v,p25.1.v,p29.1.v]) rfl) ?_
 refine bZ rfl rfl .no (.cons (.t (.t (.t (.t (.t (.t (.t (.t (.t (.t (.t (.t (.t (.t (.t .h))))))))))))))) .nil) (.dep rfl (.dep rfl .nil)) (fun ha=>fA (e':=(zg [gT.1.v,p25.1.v,p29.1.v])) (v:=(zg [gT.1.v,p25.1.v,p29.1.v])) lD.h.sz (EN ha (.tmp rfl rfl) rfl) (EN ha (.tmp rfl rfl) rfl) rfl rfl rfl rfl rfl) (fun _=>?_)
 refine bV ?_
 refine au ?_
 cases hF
 exact eO (gT.1,p25.1,p29.1,p29.2) (.cellA rfl rfl .h rfl sF.h lD.h.sz rfl rfl (.tmp rfl rfl .nil)) rfl (.sel (.rd .q9 rfl (.rd .q5 rfl (.cons .q3 .nil))))
def F_(aI:List Fact):List Fact->Nat->Option (Bool)
 |[],k4=>some true
 |x6::aG,k4=>(ix aI (k4:Int)).bind fun qa=>
   (yB x6 qa).bind fun n_=>
   if ((n_:Int)!=0)then (
     some false)
   else (
     F_ aI aG (k4+1))
def vR(ay:List Fact)(aI:List Fact):Option (Bool):=
 if (((ay.length:Int):Int)!=(aI.length:Int))then (
   some false)
 else (
   F_ aI ay 0)
theorem YA{ay:List Fact}{aa:Sv}{aI:List Fact}{ak:Sv}{R:Bool}(hF:vR ay aI=some R):
   Fw.Spec Tryz.prog 19 [aa.v,ak.v] [cz aa ay,cz ak aI] (fun _:Unit=>(.bool R)) (fun _=>[]):=by
 refine Se 27 Tryz.func19 [.tmp 4] ?_
 intro H0 F0
 unfold vR at hF
 refine v_ ?_
 refine Ci hF (fun xN hF=>?_) (fun xN hF=>?_)
 · exact ze hF
 refine bf ?_
 refine bn (bU (m:=ay.length) (fun m2 f' cs'=>∃(g:Fr)(k4:Nat)(aG:List Fact),m2=aG.length/\f'=aR g [(0,aa.v),(1,ak.v),(5,(zi (k4:Int)))]/\List.drop k4 ay=aG/\aP cs' [cz aa ay,cz ak aI]/\F_ aI aG k4=some R) ⟨_,0,_,rfl,aB,rfl,aA,hF⟩ ?_)
 rintro m2 _ _ ⟨g3,k4,aG,rfl,rfl,hd7,hE,hF⟩
 refine Kb hE ay (fun jL=>?_)
 rcases aG with _|⟨x6,aG⟩
 · have fG:=dn hd7
   rw[F_]at hF
   refine bQ ?_
   refine dE ?_
   exact ze hF
 obtain⟨fG,dm,fF⟩:=dA hd7
 rw[F_]at hF
 refine bQ ?_
 refine dD ?_
 refine aT ?_
 refine dM [0,1,2,3,4,5,6,7,8,9] [0,0,3,7,0,0,48,112,255,511] [8] mixed (by decide+kernel) ?_
 refine bV ?_
 refine Di dm (fun k13 lc=>?_)
 refine oz (mZ x6) nI (fun gT=>?_)
 refine bV ?_
 refine zI hF fun qa Rk kC hF=>?_
 refine Di kC (fun k20 zt=>?_)
 refine oz (mZ qa) nI (fun iI=>?_)
 refine bnd hF fun n_ hx24 hF=>jB (TU hx24) (fun _=>?_)
 refine bV ?_
 refine Ci hF (fun BM hF=>?_) (fun BM hF=>?_)
 · exact ze hF
 refine bG ?_
 rw[wk k4]
 exact⟨_,bY _,_,k4+1,aG,rfl,aB,fF,aA,hF⟩
def Gp(aI:List Int):List Int->Nat->Option (Bool)
 |[],k4=>some true
 |x6::aG,k4=>(ix aI (k4:Int)).bind fun mH=>
   if ((x6:Int)!=mH)then (
     some false)
   else (
     Gp aI aG (k4+1))
def Hf(ay:List Int)(aI:List Int):Option (Bool):=
 if (((ay.length:Int):Int)!=(aI.length:Int))then (
   some false)
 else (
   Gp aI ay 0)
theorem an7{ay:List Int}{aa:Sv}{aI:List Int}{ak:Sv}{R:Bool}(hF:Hf ay aI=some R):
   Fw.Spec Tryz.prog 20 [aa.v,ak.v] [ah aa ay,ah ak aI] (fun _:Unit=>(.bool R)) (fun _=>[]):=by
 refine Se 26 Tryz.func20 [.tmp 4] ?_
 intro H0 F0
 unfold Hf at hF
 refine v_ ?_
 refine Ci hF (fun ve hF=>?_) (fun ve hF=>?_)
 · exact ze hF
 refine bf ?_
 refine bn (bU (m:=ay.length) (fun m2 f' cs'=>∃(g:Fr)(k4:Nat)(aG:List Int),m2=aG.length/\f'=aR g [(0,aa.v),(1,ak.v),(5,(zi (k4:Int)))]/\List.drop k4 ay=aG/\aP cs' [ah aa ay,ah ak aI]/\Gp aI aG k4=some R) ⟨_,0,_,rfl,aB,rfl,aA,hF⟩ ?_)
 rintro m2 _ _ ⟨g3,k4,aG,rfl,rfl,hd7,hE,hF⟩
 refine Kb hE ay (fun jL=>?_)
 rcases aG with _|⟨x6,aG⟩
 · have fG:=dn hd7
   rw[Gp]at hF
   refine bQ ?_
   refine dE ?_
   exact ze hF
 obtain⟨fG,dm,fF⟩:=dA hd7
 rw[Gp]at hF
 refine bQ ?_
 refine dD ?_
 refine aT ?_
 refine dM [0,1,2,3,4,5,6,7,8] [0,0,3,7,0,0,48,112,255] [] mixed (by decide+kernel) ?_
 refine bV ?_
 refine Di dm (fun k13 lc=>?_)
 refine Dl dN ?_
 refine bV ?_
 refine zI hF fun mH ab1 iL hF=>?_
 refine Di iL (fun k19 EU=>?_)
 refine Dl dN ?_
 refine bV ?_
 refine Ci hF (fun xM hF=>?_) (fun xM hF=>?_)
 · exact ze hF
 refine bG ?_
 rw[wk k4]
 exact⟨_,bY _,_,k4+1,aG,rfl,aB,fF,aA,hF⟩
def NR(dI:Fact)(wY:Fact):Option (Bool):=
 (C9 dI wY).bind fun r3=>
 some ((r3:Int)==0)
theorem amP{dI:Fact}{aQ:Sv}{wY:Fact}{aU:Sv}{R:Bool}(hF:NR dI wY=some R):
   Fw.Spec Tryz.prog 178 [(zg [(zi dI.Rel),aQ.v]),(zg [(zi wY.Rel),aU.v])] [ah aQ dI.Values,ah aU wY.Values] (fun _:Unit=>(.bool R)) (fun _=>[]):=by
 refine Se 9 Tryz.func178 [.tmp 4] ?_
 intro H0 F0
 unfold NR at hF
 refine au ?_
 refine bW (fun k1=>?_)
 refine bW (fun k2=>?_)
 refine bf ?_
 refine bnd hF fun r3 hx4 hF=>bR (TV hx4) (fun _=>?_)
 exact ze hF
def Fe(iM:List Fact):List Fact->Nat->Option (Bool)
 |[],k4=>some true
 |x6::aG,k4=>(ix iM (k4:Int)).bind fun qx=>
   (NR x6 qx).bind fun jd=>
   if (!jd)then (
     some false)
   else (
     Fe iM aG (k4+1))
def Tn(iy:List Fact)(iM:List Fact):Option (Bool):=
 if (((iy.length:Int):Int)!=(iM.length:Int))then (
   some false)
 else (
   Fe iM iy 0)
theorem alk{iy:List Fact}{aa:Sv}{iM:List Fact}{ak:Sv}{R:Bool}(hF:Tn iy iM=some R):
   Fw.Spec Tryz.prog 177 [aa.v,ak.v,(.func (.func 178) [].toArray [].toArray)] [cz aa iy,cz ak iM] (fun _:Unit=>(.bool R)) (fun _=>[]):=by
 refine Se 32 Tryz.func177 [.tmp 6] ?_
 intro H0 F0
 unfold Tn at hF
 refine v_ ?_
 refine Ci hF (fun qJ hF=>?_) (fun qJ hF=>?_)
 · exact ze hF
 refine bQ ?_
 refine bn (bU (m:=iy.length) (fun m2 f' cs'=>∃(g:Fr)(k4:Nat)(aG:List Fact),m2=aG.length/\f'=aR g [(1,ak.v),(2,(.func (.func 178) [].toArray [].toArray)),(15,aa.v),(16,(zi (iy.length:Int))),(17,(zi (k4:Int)))]/\List.drop k4 iy=aG/\aP cs' [cz ak iM,cz aa iy]/\Fe iM aG k4=some R) ⟨_,0,_,rfl,aB,rfl,aA,hF⟩ ?_)
 rintro m2 _ _ ⟨g3,k4,aG,rfl,rfl,hd7,hE,hF⟩
 refine Kb hE iy (fun jL=>?_)
 rcases aG with _|⟨x6,aG⟩
 · have fG:=dn hd7
   rw[Fe]at hF
   refine aL ?_
   refine dE ?_
   exact ze hF
 obtain⟨fG,dm,fF⟩:=dA hd7
 rw[Fe]at hF
 refine aL ?_
 refine dD ?_
 refine aL ?_
 refine Ai dm (fun k13 lc=>?_)
 refine j_ (mZ x6) nI (fun gT=>?_)
 refine cO (fun k16=>?_)
 refine au ?_
 refine As (zg [(zi x6.Rel),gT.v]) ?_
 refine aL ?_
 refine zI hF fun qx Wy nT hF=>?_
 refine Ai nT (fun k21 M_=>?_)
 refine j_ (mZ qx) nI (fun qb=>?_)
 refine cO (fun k24=>?_)
 refine As (zg [(zi qx.Rel),qb.v]) ?_
 refine bf ?_
 refine bnd hF fun jd jP hF=>mh (.rd .q4 rfl (.rd (.t .h) rfl .nil)) (lm auf.h (.tmp rfl rfl) bz (amP jP)) (fun _=>?_)
 refine aT ?_
 refine Ci hF (fun u6 hF=>?_) (fun u6 hF=>?_)
 · exact ze hF
 refine bf ?_
 rw[wk k4]
 exact⟨_,bY _,_,k4+1,aG,rfl,aB,fF,aA,hF⟩
def Ou(ay:List Fact)(aI:List Fact):Option (Bool):=
 (Tn ay aI).bind fun r1=>
 some r1
theorem anB{ay:List Fact}{aa:Sv}{aI:List Fact}{ak:Sv}{R:Bool}(hF:Ou ay aI=some R):
   Fw.Spec Tryz.prog 114 [aa.v,ak.v] [cz aa ay,cz ak aI] (fun _:Unit=>(.bool R)) (fun _=>[]):=by
 refine Se 8 Tryz.func114 [.tmp 4] ?_
 intro H0 F0
 unfold Ou at hF
 refine bG ?_
 refine bnd hF fun r1 hx2 hF=>bR (alk hx2) (fun _=>?_)
 exact ze hF
def E_(iM:List aV):List aV->Nat->Option (Bool)
 |[],k4=>some true
 |x6::aG,k4=>(ix iM (k4:Int)).bind fun qx=>
   (Gt x6 qx).bind fun jd=>
   if (!jd)then (
     some false)
   else (
     E_ iM aG (k4+1))
def Tm(iy:List aV)(iM:List aV):Option (Bool):=
 if (((iy.length:Int):Int)!=(iM.length:Int))then (
   some false)
 else (
   E_ iM iy 0)
theorem alj{iy:List aV}{aa:Sv}{iM:List aV}{ak:Sv}{R:Bool}(hF:Tm iy iM=some R):
   Fw.Spec Tryz.prog 179 [aa.v,ak.v,(.func (.func 180) [].toArray [].toArray)] [gU aa iy,gU ak iM] (fun _:Unit=>(.bool R)) (fun _=>[]):=by
 refine Se 32 Tryz.func179 [.tmp 6] ?_
 intro H0 F0
 unfold Tm at hF
 refine v_ ?_
 refine Ci hF (fun qJ hF=>?_) (fun qJ hF=>?_)
 · exact ze hF
 refine bQ ?_
 refine bn (bU (m:=iy.length) (fun m2 f' cs'=>∃(g:Fr)(k4:Nat)(aG:List aV),m2=aG.length/\f'=aR g [(1,ak.v),(2,(.func (.func 180) [].toArray [].toArray)),(15,aa.v),(16,(zi (iy.length:Int))),(17,(zi (k4:Int)))]/\List.drop k4 iy=aG/\aP cs' [gU ak iM,gU aa iy]/\E_ iM aG k4=some R) ⟨_,0,_,rfl,aB,rfl,aA,hF⟩ ?_)
 rintro m2 _ _ ⟨g3,k4,aG,rfl,rfl,hd7,hE,hF⟩
 refine Kb hE iy (fun jL=>?_)
 rcases aG with _|⟨x6,aG⟩
 · have fG:=dn hd7
   rw[E_]at hF
   refine aL ?_
   refine dE ?_
   exact ze hF
 obtain⟨fG,dm,fF⟩:=dA hd7
 rw[E_]at hF
 refine aL ?_
 refine dD ?_
 refine aL ?_
 refine Ai dm (fun k13 lc=>?_)
 refine j_ (zQ x6) Dv (fun gT=>?_)
 refine cO (fun k16=>?_)
 refine au ?_
 refine As (zg [(zi x6.Method),gT.v]) ?_
 refine aL ?_
 refine zI hF fun qx Wy nT hF=>?_
 refine Ai nT (fun k21 M_=>?_)
 refine j_ (zQ qx) Dv (fun qb=>?_)
 refine cO (fun k24=>?_)
 refine As (zg [(zi qx.Method),qb.v]) ?_
 refine bf ?_
 refine bnd hF fun jd jP hF=>mh (.rd .q4 rfl (.rd (.t .h) rfl .nil)) (lm at1.h (.tmp rfl rfl) bz (ad2 jP)) (fun _=>?_)
 refine aT ?_
 refine Ci hF (fun u6 hF=>?_) (fun u6 hF=>?_)
 · exact ze hF
 refine bf ?_
 rw[wk k4]
 exact⟨_,bY _,_,k4+1,aG,rfl,aB,fF,aA,hF⟩
def NE(ay:List aV)(aI:List aV):Option (Bool):=
 (Tm ay aI).bind fun r1=>
 some r1
theorem amt{ay:List aV}{aa:Sv}{aI:List aV}{ak:Sv}{R:Bool}(hF:NE ay aI=some R):
   Fw.Spec Tryz.prog 116 [aa.v,ak.v] [gU aa ay,gU ak aI] (fun _:Unit=>(.bool R)) (fun _=>[]):=by
 refine Se 8 Tryz.func116 [.tmp 4] ?_
 intro H0 F0
 unfold NE at hF
 refine bG ?_
 refine bnd hF fun r1 hx2 hF=>bR (alj hx2) (fun _=>?_)
 exact ze hF
def NF(ay:Reached)(aI:Reached):Option (Bool):=
 ((Ou ay.Facts aI.Facts).bind fun r5=>
   bif r5 then ((Fs ay.Values aI.Values).bind fun r9=>
     bif r9 then ((NE ay.Log aI.Log).bind fun fC=>
       bif fC then (some ((ay.Rounds:Int)==aI.Rounds))
       else (some false))
     else (some false))
   else (some false)).bind fun o3=>
 match o3 with
 |c17=>some c17
theorem amu{ay:Reached}{aa aQ mE:Sv}{aI:Reached}{ak aU rM:Sv}{R:Bool}(hF:NF ay aI=some R):
   Fw.Spec Tryz.prog 62 [(zg [aa.v,aQ.v,mE.v,(zi ay.Rounds)]),(zg [ak.v,aU.v,rM.v,(zi aI.Rounds)])] [cz aa ay.Facts,ah aQ ay.Values,gU mE ay.Log,cz ak aI.Facts,ah aU aI.Values,gU rM aI.Log] (fun _:Unit=>(.bool R)) (fun _=>[]):=by
 refine Se 31 Tryz.func62 [.tmp 4] ?_
 intro H0 F0
 unfold NF at hF
 refine au ?_
 refine bW (fun k1=>?_)
 refine bW (fun k2=>?_)
 refine aT ?_
 obtain⟨o3,lW,hO4⟩:=bind_some hF
 refine au ?_
 refine gB (fun f' cs'=>∃(c17:Bool)(g:Fr),c17=o3/\f'=aR g [(4,(.bool c17))]/\aP cs' []) ?_ ?_
 · replace hF:=lW
   refine aL ?_
   refine bnd hF fun r5 hx6 hF=>bR (anB hx6) (fun _=>?_)
   refine au ?_
   rcases df r5 with dR|dR
   · rw[dR]
     try rw[dR]at hF; dsimp only[aY,aX]at hF
     refine eU ?_
     refine bnd hF fun r9 gu hF=>bR (TM gu) (fun _=>?_)
     refine aT ?_
     rcases df r9 with iw|iw
     · rw[iw]
       try rw[iw]at hF; dsimp only[aY,aX]at hF
       refine eU ?_
       refine bnd hF fun fC fQ hF=>bR (amt fQ) (fun _=>?_)
       refine aT ?_
       rcases df fC with jF|jF
       · rw[jF]
         try rw[jF]at hF; dsimp only[aY,aX]at hF
         exact cK hF
       rw[jF]
       try rw[jF]at hF; dsimp only[aY,aX]at hF
       exact cK hF
     rw[iw]
     try rw[iw]at hF; dsimp only[aY,aX]at hF
     exact cK hF
   rw[dR]
   try rw[dR]at hF; dsimp only[aY,aX]at hF
   exact cK hF
 rintro _ _ ⟨c17,g18,rfl,rfl,hE⟩
 replace hF:=hO4
 try dsimp only at hF
 refine bM hE ?_
 exact ze hF
def qX(ae:List Int)(ag:List Method)(ai:aO)(aC:l9):Option (Bool):=
 ((DK ae ag ai).bind fun r5=>
   bif (!r5)then (some true)
   else ((DL ae aC.All).bind fun r9=>
     bif (!r9)then (some true)
     else ((DL ae aC.Some).bind fun fC=>
       some (!fC)))).bind fun o3=>
 match o3 with
 |c16=>if c16 then (
     some false)
   else (
     (yC ai).bind fun iq=>
     ((Ec ag aC.All iq).bind fun iJ=>
       (Ec ag aC.Some iq).bind fun jd=>
       (NF iJ jd).bind fun l5=>
       bif l5 then ((D6 ai aC.All).bind fun r32=>
         (DN r32 aC.Tuple).bind fun il=>
         bif il then ((D6 ai aC.Some).bind fun jR=>
           (DN jR aC.Tuple).bind fun mW=>
           some (!mW))
         else (some false))
       else (some false)).bind fun Jy=>
     match Jy with
     |vN=>some vN)
theorem TR{ae:List Int}{aa:Sv}{ag:List Method}{ak:Sv}{ai:aO}{bu dw:Sv}{aC:l9}{jG pO uu:Sv}{R:Bool}(hF:qX ae ag ai aC=some R):
   Fw.Spec Tryz.prog 23 [aa.v,ak.v,(zg [bu.v,dw.v]),(zg [jG.v,pO.v,uu.v])] [ah aa ae,dQ ak ag,ah bu ai.Head,bX dw ai.Atoms,cz jG aC.All,cz pO aC.Some,ah uu aC.Tuple] (fun _:Unit=>(.bool R)) (fun _=>[]):=by
 refine Se 61 Tryz.func23 [.tmp 8] ?_
 intro H0 F0
 unfold qX at hF
 refine au ?_
 refine bW (fun k1=>?_)
 refine bW (fun k2=>?_)
 refine aZ ?_
 obtain⟨o3,lW,hO4⟩:=bind_some hF
 refine au ?_
 refine gB (fun f' cs'=>∃(c16:Bool)(g:Fr),c16=o3/\f'=aR g [(1,ak.v),(6,(pz k1)),(7,(pz k2)),(28,(.bool c16))]/\aP cs' [dQ ak ag,a_ k1 28 (zg [bu.v,dw.v]),ah bu ai.Head,bX dw ai.Atoms,a_ k2 44 (zg [jG.v,pO.v,uu.v]),cz jG aC.All,cz pO aC.Some,ah uu aC.Tuple]) ?_ ?_
 · replace hF:=lW
   refine aZ ?_
   refine bnd hF fun r5 hx6 hF=>bR (Ui hx6) (fun _=>?_)
   refine aT ?_
   rcases df (!r5)with dR|dR
   · rw[dR]
     try rw[dR]at hF; dsimp only[aY,aX]at hF
     exact cK hF
   rw[dR]
   try rw[dR]at hF; dsimp only[aY,aX]at hF
   refine bQ ?_
   refine bnd hF fun r9 gu hF=>bR (NJ gu) (fun _=>?_)
   refine aL ?_
   rcases df (!r9)with iw|iw
   · rw[iw]
     try rw[iw]at hF; dsimp only[aY,aX]at hF
     exact cK hF
   rw[iw]
   try rw[iw]at hF; dsimp only[aY,aX]at hF
   refine bQ ?_
   refine bnd hF fun fC fQ hF=>bR (NJ fQ) (fun _=>?_)
   exact cK hF
 rintro _ _ ⟨c16,g48,rfl,rfl,hE⟩
 replace hF:=hO4
 try dsimp only at hF
 refine bM hE ?_
 refine Ci hF (fun QP hF=>?_) (fun QP hF=>?_)
 · exact ze hF
 refine aZ ?_
 refine bnd hF fun iq iL hF=>dW (Kw iL) (fun yl=>?_)
 refine aT ?_
 obtain⟨Jy,aaO,abE⟩:=bind_some hF
 refine dM [0,1,2,3,5,6,7,8,4,9,10,11,12,13,14,16,17,15,18,19,20,21,22,23,25,26,24,27,28,29,30] [0,0,2,0,15,0,0,64,0,511,1023,2047,4095,4095,12287,32767,4095,69631,262143,524287,1048575,2097151,2097151,6291455,16777215,2097151,35651583,134217727,268435455,536870911,1073741823] [4,9,10,15,18,24,27] mixed (by decide+kernel) ?_
 refine qH (fun f' cs'=>∃(vN:Bool)(g:Fr),vN=Jy/\f'=aR g [(8,(.bool vN))]/\aP cs' []) ?_ ?_
 · replace hF:=aaO
   refine ajL ?_
   refine bnd hF fun iJ nz hF=>Eg rfl rfl .no (.cons .h (.rd .h rfl (.rd .q5 rfl .nil))) .nil (fun ha=>eY bi (fun _=>(.cons (.cons (.cons .nil)))) (fM (.rd (.t .h) rfl (.rd .q2 rfl (.rd .h rfl .nil))) (bP Wj.h (.cons (EN ha (.tmp rfl rfl) rfl) (.cons (EN ha (.tmp rfl rfl) rfl) (.cons (EN ha (.tmp rfl rfl) rfl) .nil))) (UQ nz)))) (fun ji=>?_)
   refine bnd hF fun jd jP hF=>Eg rfl rfl .no (.cons .h (.rd .q3 rfl (.rd .q9 rfl .nil))) .nil (fun ha=>eY bi (fun _=>(.cons (.cons (.cons .nil)))) (fM (.rd (.t .h) rfl (.rd .q2 rfl (.rd .h rfl .nil))) (bP Wj.h (.cons (EN ha (.tmp rfl rfl) rfl) (.cons (EN ha (.tmp rfl rfl) rfl) (.cons (EN ha (.tmp rfl rfl) rfl) .nil))) (UQ jP)))) (fun p27=>?_)
   refine bnd hF fun l5 hx29 hF=>arq rfl rfl .no (.cons .q3 (.cons .q2 (.cons (.t .h) (.cons .q3 (.cons .q2 (.cons (.t .h) .nil)))))) .nil (fun ha=>iW (pre:=[]) (.cons bi (.cons bi (.cons bi (.cons bi (.cons bi (.cons bi .nil)))))) (fun _=>.nil) (bP ax6.h (.cons (EN ha (.tmp rfl rfl) rfl) (.cons (EN ha (.tmp rfl rfl) rfl) .nil)) (amu hx29))) (fun _=>?_)
   refine du ?_
   rcases df l5 with xV|xV
   · rw[xV]
     try rw[xV]at hF; dsimp only[aY,aX]at hF
     refine xH ?_
     refine bnd hF fun r32 IJ hF=>kZ (Uw IJ) (fun p34=>?_)
     refine bnd hF fun il uX hF=>bZ rfl rfl (.on 42 rfl rfl rfl) (.cons .h (.rd .q14 rfl .nil)) .nil (fun ha=>eY bi (fun _=>.nil) (bP abz.h (.cons (EN ha (.tmp rfl rfl) rfl) (.cons (EN ha (.tmp rfl rfl) rfl) .nil)) (Ul uX))) (fun _=>?_)
     refine bV ?_
     rcases df il with xW|xW
     · rw[xW]
       try rw[xW]at hF; dsimp only[aY,aX]at hF
       refine xH ?_
       refine bnd hF fun jR sH hF=>kZ (Uw sH) (fun p41=>?_)
       refine bnd hF fun mW oD hF=>bZ rfl rfl (.on 51 rfl rfl rfl) (.cons .h (.rd (.t (.t (.t (.t (.t (.t (.t (.t (.t (.t (.t (.t (.t (.t (.t .h))))))))))))))) rfl .nil)) .nil (fun ha=>eY bi (fun _=>.nil) (bP abz.h (.cons (EN ha (.tmp rfl rfl) rfl) (.cons (EN ha (.tmp rfl rfl) rfl) .nil)) (Ul oD))) (fun _=>?_)
       exact iC hF
     rw[xW]
     try rw[xW]at hF; dsimp only[aY,aX]at hF
     exact iC hF
   rw[xV]
   try rw[xV]at hF; dsimp only[aY,aX]at hF
   exact iC hF
 rintro _ _ ⟨vN,g46,rfl,rfl,hE⟩
 replace hF:=abE
 try dsimp only at hF
 refine bM hE ?_
 exact ze hF
def Kt(fuel:Nat)(iR:List UInt8):Option ((List Int)×(List Method)×aO×l9):=
 (PM iR).bind fun r3=>
 (Lc fuel r3).bind fun r6=>
 (CZ fuel r6.1 r6.2.1 r6.2.2.1).bind fun kK=>
 (jb (⟨r3.b,r6.2.2.2.i,r6.2.2.2.h⟩:aN) 4).bind fun iK=>
 if ((iK.1:Int)==0)then (
   (Pv kK.1.All).bind fun iq=>
   some (r6.1,r6.2.1,r6.2.2.1,(⟨kK.1.All,iq,kK.1.Tuple⟩:l9)))
 else (
   if ((iK.1:Int)==1)then (
     (KJ fuel (⟨r3.b,iK.2.i,iK.2.h⟩:aN) r6.1).bind fun nG=>
     some (r6.1,r6.2.1,r6.2.2.1,(⟨nG.1,kK.1.Some,kK.1.Tuple⟩:l9)))
   else (
     some (r6.1,r6.2.1,r6.2.2.1,kK.1)))
theorem al4{fuel:Nat}{iR:List UInt8}{aa:Sv}{R:(List Int)×(List Method)×aO×l9}(hF:Kt fuel iR=some R):
   Fw.Spec Tryz.prog 24 [aa.v] [iZ aa iR] (fun p:Sv×Sv×Sv×Sv×Sv×Sv×Sv×List Nat=>(.tuple [p.1.v,p.2.1.v,(zg [p.2.2.1.v,p.2.2.2.1.v]),(zg [p.2.2.2.2.1.v,p.2.2.2.2.2.1.v,p.2.2.2.2.2.2.1.v])].toArray)) (fun p=>[ah p.1 R.1,dQ p.2.1 R.2.1,ah p.2.2.1 R.2.2.1.Head,bX p.2.2.2.1 R.2.2.1.Atoms,cz p.2.2.2.2.1 R.2.2.2.All,cz p.2.2.2.2.2.1 R.2.2.2.Some,bv p.2.2.2.2.2.2.2 p.2.2.2.2.2.2.1 R.2.2.2.Tuple]):=by
 refine Se 45 Tryz.func24 [.tmp 2,.tmp 3,.cell 4 28,.cell 5 44] ?_
 intro H0 F0
 unfold Kt at hF
 refine aZ ?_
 refine cO (fun k1=>?_)
 refine cO (fun k2=>?_)
 refine aZ ?_
 refine bnd hF fun r3 hx4 hF=>mV (afG hx4) (fun p5=>?_)
 refine aL ?_
 refine bnd hF fun r6 hx7 hF=>XF (aeX hx7) (fun p8=>?_)
 refine au ?_
 refine zx ?_
 refine zx ?_
 refine zx ?_
 refine cO (fun k9=>?_)
 refine aT ?_
 refine As (zg [p8.2.2.2.1.v,p8.2.2.2.2.2.v]) ?_
 refine au ?_
 refine lS .q2 bi ?_
 refine lS .q3 bi ?_
 refine aL ?_
 refine bnd hF fun kK mD hF=>sQ (adt mD) (fun iP=>?_)
 refine au ?_
 refine zx ?_
 refine zx ?_
 refine cO (fun k13=>?_)
 refine As (zg [iP.1.v,iP.2.1.v,iP.2.2.1.v]) ?_
 refine bf ?_
 refine bnd hF fun iK mR hF=>dW (kG mR) (fun p16=>?_)
 refine au ?_
 refine bn (cB (aK (rE (i:=iK.1) (j:=0) (.tmp rfl rfl) (.int _ _)) ?_))
 refine aT ?_
 refine Ci hF (fun azW hF=>?_) (fun azW hF=>?_)
 · refine aZ ?_
   refine bnd hF fun iq iL hF=>dW (afb iL) (fun yl=>?_)
   refine au ?_
   refine As (zg [iP.1.v,yl.1.v,iP.2.2.1.v]) ?_
   refine au ?_
   refine dM [0,1,2,3,4,5,6,7] [0,0,0,0,1,19,55,127] [6,7] mixed (by decide+kernel) ?_
   refine bV ?_
   refine dH rfl .no .q8 (fun ha hp=>gM jo.h gI.h.sz rfl (EN ha (.tmp rfl rfl) rfl) hp.2 rfl) ?_
   refine dH rfl .no .h (fun ha hp=>gM sF.h lD.h.sz rfl (EN ha (.tmp rfl rfl) rfl) hp.2 rfl) ?_
   refine bV ?_
   refine bZ rfl rfl .no (.cons .q13 .nil) (.own .h (fun _ h=>h) (.dep rfl .nil)) (fun ha=>fA (e':=(zg [p8.2.2.2.1.v,p8.2.2.2.2.2.v])) (v:=(zg [p8.2.2.2.1.v,p8.2.2.2.2.2.v])) gI.h.sz (EN ha (.tmp rfl rfl) rfl) (EN ha (.tmp rfl rfl) rfl) rfl rfl rfl rfl rfl) (fun _=>?_)
   refine bZ rfl rfl .no (.cons .q13 .nil) (.dep rfl (.dep rfl .nil)) (fun ha=>fA (e':=(zg [iP.1.v,yl.1.v,iP.2.2.1.v])) (v:=(zg [iP.1.v,yl.1.v,iP.2.2.1.v])) lD.h.sz (EN ha (.tmp rfl rfl) rfl) (EN ha (.tmp rfl rfl) rfl) rfl rfl rfl rfl rfl) (fun _=>?_)
   refine du ?_
   refine au ?_
   cases hF
   exact eO (p8.1,p8.2.1,p8.2.2.2.1,p8.2.2.2.2.2,iP.1,yl.1,iP.2.2.1,iP.2.2.2) (.tmp rfl rfl (.tmp rfl rfl (.cellA rfl rfl (.t .h) rfl jo.h gI.h.sz rfl rfl (.cellA rfl rfl .h rfl sF.h lD.h.sz rfl rfl .nil)))) rfl (.frz .q3 bi (.sel (.rd .q11 rfl (.rd .q9 rfl (.rd .q8 rfl (.rd .q12 rfl (.rd .q5 rfl (.rd .h rfl (.cons .q7 .nil)))))))))
 refine aL ?_
 refine Ci hF (fun ve hF=>?_) (fun ve hF=>?_)
 · refine aZ ?_
   refine bnd hF fun nG nS hF=>mV (adY nS) (fun iI=>?_)
   refine au ?_
   refine As (zg [iI.1.v,iP.2.1.v,iP.2.2.1.v]) ?_
   refine au ?_
   refine dM [0,1,2,3,4,5,6,7] [0,0,0,0,1,19,55,127] [6,7] mixed (by decide+kernel) ?_
   refine bV ?_
   refine dH rfl .no .q8 (fun ha hp=>gM jo.h gI.h.sz rfl (EN ha (.tmp rfl rfl) rfl) hp.2 rfl) ?_
   refine dH rfl .no .h (fun ha hp=>gM sF.h lD.h.sz rfl (EN ha (.tmp rfl rfl) rfl) hp.2 rfl) ?_
   refine bV ?_
   refine bZ rfl rfl .no (.cons .q13 .nil) (.own .h (fun _ h=>h) (.dep rfl .nil)) (fun ha=>fA (e':=(zg [p8.2.2.2.1.v,p8.2.2.2.2.2.v])) (v:=(zg [p8.2.2.2.1.v,p8.2.2.2.2.2.v])) gI.h.sz (EN ha (.tmp rfl rfl) rfl) (EN ha (.tmp rfl rfl) rfl) rfl rfl rfl rfl rfl) (fun _=>?_)
   refine bZ rfl rfl .no (.cons .q13 .nil) (.dep rfl (.dep rfl .nil)) (fun ha=>fA (e':=(zg [iI.1.v,iP.2.1.v,iP.2.2.1.v])) (v:=(zg [iI.1.v,iP.2.1.v,iP.2.2.1.v])) lD.h.sz (EN ha (.tmp rfl rfl) rfl) (EN ha (.tmp rfl rfl) rfl) rfl rfl rfl rfl rfl) (fun _=>?_)
   refine du ?_
   refine au ?_
   cases hF
   exact eO (p8.1,p8.2.1,p8.2.2.2.1,p8.2.2.2.2.2,iI.1,iP.2.1,iP.2.2.1,iP.2.2.2) (.tmp rfl rfl (.tmp rfl rfl (.cellA rfl rfl (.t .h) rfl jo.h gI.h.sz rfl rfl (.cellA rfl rfl .h rfl sF.h lD.h.sz rfl rfl .nil)))) rfl (.frz .q3 bi (.sel (.rd .q11 rfl (.rd .q9 rfl (.rd .q8 rfl (.rd .q12 rfl (.rd .h rfl (.rd .q6 rfl (.cons .q7 .nil)))))))))
 refine au ?_
 refine dM [0,1,2,3,4,5,6,7] [0,0,0,0,1,19,55,127] [6,7] mixed (by decide+kernel) ?_
 refine bV ?_
 refine dH rfl .no .q7 (fun ha hp=>gM jo.h gI.h.sz rfl (EN ha (.tmp rfl rfl) rfl) hp.2 rfl) ?_
 refine dH rfl .no (.t .h) (fun ha hp=>gM sF.h lD.h.sz rfl (EN ha (.tmp rfl rfl) rfl) hp.2 rfl) ?_
 refine bV ?_
 refine bZ rfl rfl .no (.cons .q12 .nil) (.own (.t .h) (fun _ h=>h) (.dep rfl .nil)) (fun ha=>fA (e':=(zg [p8.2.2.2.1.v,p8.2.2.2.2.2.v])) (v:=(zg [p8.2.2.2.1.v,p8.2.2.2.2.2.v])) gI.h.sz (EN ha (.tmp rfl rfl) rfl) (EN ha (.tmp rfl rfl) rfl) rfl rfl rfl rfl rfl) (fun _=>?_)
 refine bZ rfl rfl .no (.cons .q12 .nil) (.dep rfl (.dep rfl .nil)) (fun ha=>fA (e':=(zg [iP.1.v,iP.2.1.v,iP.2.2.1.v])) (v:=(zg [iP.1.v,iP.2.1.v,iP.2.2.1.v])) lD.h.sz (EN ha (.tmp rfl rfl) rfl) (EN ha (.tmp rfl rfl) rfl) rfl rfl rfl rfl rfl) (fun _=>?_)
 refine du ?_
 refine au ?_
 cases hF
 exact eO (p8.1,p8.2.1,p8.2.2.2.1,p8.2.2.2.2.2,iP.1,iP.2.1,iP.2.2.1,iP.2.2.2) (.tmp rfl rfl (.tmp rfl rfl (.cellA rfl rfl (.t .h) rfl jo.h gI.h.sz rfl rfl (.cellA rfl rfl .h rfl sF.h lD.h.sz rfl rfl .nil)))) rfl (.sel (.rd .q10 rfl (.rd .q8 rfl (.rd .q7 rfl (.rd .q11 rfl (.rd .q4 rfl (.rd .q5 rfl (.cons .q6 .nil))))))))
def Fz(aI:List aV):List aV->Nat->Option (Bool)
 |[],k4=>some true
 |x6::aG,k4=>(ix aI (k4:Int)).bind fun qa=>
   (D_ x6 qa).bind fun n_=>
   if (!n_)then (
     some false)
   else (
     Fz aI aG (k4+1))
def Ue(ay:List aV)(aI:List aV):Option (Bool):=
 if (((ay.length:Int):Int)!=(aI.length:Int))then (
   some false)
 else (
   Fz aI ay 0)
theorem amv{ay:List aV}{aa:Sv}{aI:List aV}{ak:Sv}{R:Bool}(hF:Ue ay aI=some R):
   Fw.Spec Tryz.prog 121 [aa.v,ak.v] [gU aa ay,gU ak aI] (fun _:Unit=>(.bool R)) (fun _=>[]):=by
 refine Se 27 Tryz.func121 [.tmp 4] ?_
 intro H0 F0
 unfold Ue at hF
 refine v_ ?_
 refine Ci hF (fun xN hF=>?_) (fun xN hF=>?_)
 · exact ze hF
 refine bf ?_
 refine bn (bU (m:=ay.length) (fun m2 f' cs'=>∃(g:Fr)(k4:Nat)(aG:List aV),m2=aG.length/\f'=aR g [(0,aa.v),(1,ak.v),(5,(zi (k4:Int)))]/\List.drop k4 ay=aG/\aP cs' [gU aa ay,gU ak aI]/\Fz aI aG k4=some R) ⟨_,0,_,rfl,aB,rfl,aA,hF⟩ ?_)
 rintro m2 _ _ ⟨g3,k4,aG,rfl,rfl,hd7,hE,hF⟩
 refine Kb hE ay (fun jL=>?_)
 rcases aG with _|⟨x6,aG⟩
 · have fG:=dn hd7
   rw[Fz]at hF
   refine bQ ?_
   refine dE ?_
   exact ze hF
 obtain⟨fG,dm,fF⟩:=dA hd7
 rw[Fz]at hF
 refine bQ ?_
 refine dD ?_
 refine aT ?_
 refine dM [0,1,2,3,4,5,6,7,8,9] [0,0,3,7,0,0,48,112,255,511] [8] mixed (by decide+kernel) ?_
 refine bV ?_
 refine Di dm (fun k13 lc=>?_)
 refine oz (zQ x6) Dv (fun gT=>?_)
 refine bV ?_
 refine zI hF fun qa Rk kC hF=>?_
 refine Di kC (fun k20 zt=>?_)
 refine oz (zQ qa) Dv (fun iI=>?_)
 refine bnd hF fun n_ hx24 hF=>jB (afd hx24) (fun _=>?_)
 refine bV ?_
 refine Ci hF (fun BM hF=>?_) (fun BM hF=>?_)
 · exact ze hF
 refine bG ?_
 rw[wk k4]
 exact⟨_,bY _,_,k4+1,aG,rfl,aB,fF,aA,hF⟩
def NG(ay:Reached)(aI:Reached):Option (Bool):=
 ((vR ay.Facts aI.Facts).bind fun r5=>
   bif r5 then ((uP ay.Values aI.Values).bind fun r9=>
     bif r9 then ((Ue ay.Log aI.Log).bind fun fC=>
       bif fC then (some ((ay.Rounds:Int)==aI.Rounds))
       else (some false))
     else (some false))
   else (some false)).bind fun o3=>
 match o3 with
 |c17=>some c17
theorem amw{ay:Reached}{aa aQ mE:Sv}{aI:Reached}{ak aU rM:Sv}{R:Bool}(hF:NG ay aI=some R):
   Fw.Spec Tryz.prog 66 [(zg [aa.v,aQ.v,mE.v,(zi ay.Rounds)]),(zg [ak.v,aU.v,rM.v,(zi aI.Rounds)])] [cz aa ay.Facts,ah aQ ay.Values,gU mE ay.Log,cz ak aI.Facts,ah aU aI.Values,gU rM aI.Log] (fun _:Unit=>(.bool R)) (fun _=>[]):=by
 refine Se 31 Tryz.func66 [.tmp 4] ?_
 intro H0 F0
 unfold NG at hF
 refine au ?_
 refine bW (fun k1=>?_)
 refine bW (fun k2=>?_)
 refine aT ?_
 obtain⟨o3,lW,hO4⟩:=bind_some hF
 refine au ?_
 refine gB (fun f' cs'=>∃(c17:Bool)(g:Fr),c17=o3/\f'=aR g [(4,(.bool c17))]/\aP cs' []) ?_ ?_
 · replace hF:=lW
   refine aL ?_
   refine bnd hF fun r5 hx6 hF=>bR (YA hx6) (fun _=>?_)
   refine au ?_
   rcases df r5 with dR|dR
   · rw[dR]
     try rw[dR]at hF; dsimp only[aY,aX]at hF
     refine eU ?_
     refine bnd hF fun r9 gu hF=>bR (Dz gu) (fun _=>?_)
     refine aT ?_
     rcases df r9 with iw|iw
     · rw[iw]
       try rw[iw]at hF; dsimp only[aY,aX]at hF
       refine eU ?_
       refine bnd hF fun fC fQ hF=>bR (amv fQ) (fun _=>?_)
       refine aT ?_
       rcases df fC with jF|jF
       · rw[jF]
         try rw[jF]at hF; dsimp only[aY,aX]at hF
         exact cK hF
       rw[jF]
       try rw[jF]at hF; dsimp only[aY,aX]at hF
       exact cK hF
     rw[iw]
     try rw[iw]at hF; dsimp only[aY,aX]at hF
     exact cK hF
   rw[dR]
   try rw[dR]at hF; dsimp only[aY,aX]at hF
   exact cK hF
 rintro _ _ ⟨c17,g18,rfl,rfl,hE⟩
 replace hF:=hO4
 try dsimp only at hF
 refine bM hE ?_
 exact ze hF
def KA(dY:List Int):List (List Int)->Nat->Option (Bool)
 |[],k4=>some false
 |x6::aG,k4=>(uP x6 dY).bind fun r16=>
   if r16 then (
     some true)
   else (
     KA dY aG (k4+1))
def NS(ag:List (List Int))(dY:List Int):Option (Bool):=
 KA dY ag 0
theorem adM{ag:List (List Int)}{aa:Sv}{dY:List Int}{ak:Sv}{R:Bool}(hF:NS ag dY=some R):
   Fw.Spec Tryz.prog 67 [aa.v,ak.v] [bT (aW 24 (aW 3 ax)) aa.v ag,ah ak dY] (fun _:Unit=>(.bool R)) (fun _=>[]):=by
 refine Se 18 Tryz.func67 [.tmp 4] ?_
 intro H0 F0
 unfold NS at hF
 refine bQ ?_
 refine bn (bU (m:=ag.length) (fun m2 f' cs'=>∃(g:Fr)(k4:Nat)(aG:List (List Int)),m2=aG.length/\f'=aR g [(0,aa.v),(1,ak.v),(5,(zi (k4:Int)))]/\List.drop k4 ag=aG/\aP cs' [bT (aW 24 (aW 3 ax)) aa.v ag,ah ak dY]/\KA dY aG k4=some R) ⟨_,0,_,rfl,aB,rfl,aA,hF⟩ ?_)
 rintro m2 _ _ ⟨g3,k4,aG,rfl,rfl,hd7,hE,hF⟩
 refine Kb hE ag (fun jL=>?_)
 rcases aG with _|⟨x6,aG⟩
 · have fG:=dn hd7
   rw[KA]at hF
   refine bQ ?_
   refine dE ?_
   exact ze hF
 obtain⟨fG,dm,fF⟩:=dA hd7
 rw[KA]at hF
 refine bQ ?_
 refine dD ?_
 refine bf ?_
 refine Ai dm (fun k13 lc=>?_)
 refine ng (R':=(aW 3 ax)) fT.h (.tmp rfl rfl) .h rC (fun XV=>?_)
 refine au ?_
 refine bnd hF fun r16 jy hF=>bR (Dz jy) (fun _=>?_)
 refine au ?_
 refine Ci hF (fun kW hF=>?_) (fun kW hF=>?_)
 · exact ze hF
 refine bG ?_
 rw[wk k4]
 exact⟨_,bY _,_,k4+1,aG,rfl,aB,fF,aA,hF⟩
def yA(ae:List Int)(ag:List Method)(ai:aO)(aC:l9):Option (Bool):=
 ((H7 ae ag ai).bind fun r5=>
   bif (!r5)then (some true)
   else ((zX ae aC.All).bind fun r9=>
     bif (!r9)then (some true)
     else ((zX ae aC.Some).bind fun fC=>
       some (!fC)))).bind fun o3=>
 match o3 with
 |c16=>if c16 then (
     some false)
   else (
     (zK ai).bind fun kr=>
     (He ae ag aC.All kr).bind fun kP=>
     (zK ai).bind fun jd=>
     (He ae ag aC.Some jd).bind fun l5=>
     ((NG kP l5).bind fun Cw=>
       bif Cw then ((GX ae ai aC.All).bind fun kE=>
         (NS kE aC.Tuple).bind fun M9=>
         bif M9 then ((GX ae ai aC.Some).bind fun oL=>
           (NS oL aC.Tuple).bind fun r47=>
           some (!r47))
         else (some false))
       else (some false)).bind fun o31=>
     match o31 with
     |tO=>some tO)
theorem adi{ae:List Int}{aa:Sv}{ag:List Method}{ak:Sv}{ai:aO}{bu dw:Sv}{aC:l9}{jG pO uu:Sv}{R:Bool}(hF:yA ae ag ai aC=some R):
   Fw.Spec Tryz.prog 25 [aa.v,ak.v,(zg [bu.v,dw.v]),(zg [jG.v,pO.v,uu.v])] [ah aa ae,dQ ak ag,ah bu ai.Head,bX dw ai.Atoms,cz jG aC.All,cz pO aC.Some,ah uu aC.Tuple] (fun _:Unit=>(.bool R)) (fun _=>[]):=by
 refine Se 68 Tryz.func25 [.tmp 8] ?_
 intro H0 F0
 unfold yA at hF
 refine au ?_
 refine bW (fun k1=>?_)
 refine bW (fun k2=>?_)
 refine aZ ?_
 obtain⟨o3,lW,hO4⟩:=bind_some hF
 refine au ?_
 refine gB (fun f' cs'=>∃(c16:Bool)(g:Fr),c16=o3/\f'=aR g [(0,aa.v),(1,ak.v),(6,(pz k1)),(7,(pz k2)),(29,(.bool c16))]/\aP cs' [ah aa ae,dQ ak ag,a_ k1 28 (zg [bu.v,dw.v]),ah bu ai.Head,bX dw ai.Atoms,a_ k2 44 (zg [jG.v,pO.v,uu.v]),cz jG aC.All,cz pO aC.Some,ah uu aC.Tuple]) ?_ ?_
 · replace hF:=lW
   refine aZ ?_
   refine bnd hF fun r5 hx6 hF=>bR (Y2 hx6) (fun _=>?_)
   refine aT ?_
   rcases df (!r5)with dR|dR
   · rw[dR]
     try rw[dR]at hF; dsimp only[aY,aX]at hF
     exact cK hF
   rw[dR]
   try rw[dR]at hF; dsimp only[aY,aX]at hF
   refine bQ ?_
   refine bnd hF fun r9 gu hF=>bR (KF gu) (fun _=>?_)
   refine aL ?_
   rcases df (!r9)with iw|iw
   · rw[iw]
     try rw[iw]at hF; dsimp only[aY,aX]at hF
     exact cK hF
   rw[iw]
   try rw[iw]at hF; dsimp only[aY,aX]at hF
   refine bQ ?_
   refine bnd hF fun fC fQ hF=>bR (KF fQ) (fun _=>?_)
   exact cK hF
 rintro _ _ ⟨c16,g53,rfl,rfl,hE⟩
 replace hF:=hO4
 try dsimp only at hF
 refine bM hE ?_
 refine Ci hF (fun acu hF=>?_) (fun acu hF=>?_)
 · exact ze hF
 refine au ?_
 refine dM [0,1,2,3,4,7,5,6,8] [0,0,0,4,0,16,63,0,255] [5,6,8] mixed (by decide+kernel) ?_
 refine xH ?_
 refine gP rfl .no rfl (fun ha=>ru (g:=true) pI.h rfl rfl) (fun k17=>?_)
 refine bnd hF fun kr kC hF=>bZ rfl rfl .no (.rd .q4 rfl (.rd .q5 rfl .nil)) (.own .h (fun _ h=>h) .nil) (fun ha=>aat (post':=fun nZ:Sv×List Nat=>[ah nZ.1 kr]) (fun nZ=>(.frz .h bi aA)) (bP ajD.h (.cons (EN ha (.tmp rfl rfl) rfl) .nil) (Nv kC))) (fun nZ=>?_)
 refine bnd hF fun kP uk hF=>AL rfl rfl .no (.rd .q2 rfl (.rd .q3 rfl (.rd .q8 rfl (.rd .h rfl .nil)))) (.own (.t .h) (fun _ h=>h) .nil) (fun ha=>bP ajH.h (.cons (EN ha (.tmp rfl rfl) rfl) (.cons (EN ha (.tmp rfl rfl) rfl) (.cons (EN ha (.tmp rfl rfl) rfl) (.cons (EN ha (.tmp rfl rfl) rfl) .nil)))) (YH uk)) (fun qb=>?_)
 refine bZ rfl rfl .no (.cons .q4 .nil) (.dep rfl .nil) (fun ha=>fA (e':=(zg [qb.1.v,qb.2.1.v,qb.2.2.v,(zi kP.Rounds)])) (v:=(zg [qb.1.v,qb.2.1.v,qb.2.2.v,(zi kP.Rounds)])) pI.h.sz (EN ha (.tmp rfl rfl) rfl) (EN ha (.tmp rfl rfl) rfl) rfl rfl rfl rfl rfl) (fun _=>?_)
 refine du ?_
 refine dM [0,1,2,3,4,7,5,6,8] [0,0,0,4,0,16,63,0,255] [5,6,8] mixed (by decide+kernel) ?_
 refine xH ?_
 refine gP rfl .no rfl (fun ha=>ru (g:=true) pI.h rfl rfl) (fun k24=>?_)
 refine bnd hF fun jd jP hF=>bZ rfl rfl .no (.rd .q9 rfl (.rd .q10 rfl .nil)) (.own .h (fun _ h=>h) .nil) (fun ha=>aat (post':=fun p27:Sv×List Nat=>[ah p27.1 jd]) (fun p27=>(.frz .h bi aA)) (bP ajD.h (.cons (EN ha (.tmp rfl rfl) rfl) .nil) (Nv jP))) (fun p27=>?_)
 refine bnd hF fun l5 hx29 hF=>AL rfl rfl .no (.rd .q7 rfl (.rd .q8 rfl (.rd .q14 rfl (.rd .h rfl .nil)))) (.own (.t .h) (fun _ h=>h) .nil) (fun ha=>bP ajH.h (.cons (EN ha (.tmp rfl rfl) rfl) (.cons (EN ha (.tmp rfl rfl) rfl) (.cons (EN ha (.tmp rfl rfl) rfl) (.cons (EN ha (.tmp rfl rfl) rfl) .nil)))) (YH hx29)) (fun p30=>?_)
 refine bZ rfl rfl .no (.cons .q4 .nil) (.dep rfl .nil) (fun ha=>fA (e':=(zg [p30.1.v,p30.2.1.v,p30.2.2.v,(zi l5.Rounds)])) (v:=(zg [p30.1.v,p30.2.1.v,p30.2.2.v,(zi l5.Rounds)])) pI.h.sz (EN ha (.tmp rfl rfl) rfl) (EN ha (.tmp rfl rfl) rfl) rfl rfl rfl rfl rfl) (fun _=>?_)
 refine du ?_
 obtain⟨o31,awS,azX⟩:=bind_some hF
 refine dM [0,1,2,3,4,5,6,7,9,10,8,11,12,13,14,15,16,17,19,20,18,21,22,23,24] [0,0,3,7,15,15,15,79,255,15,527,2047,4095,8191,16383,16383,16383,81919,262143,16383,540671,2097151,4194303,8388607,16777215] [2,8,11,18,21] mixed (by decide+kernel) ?_
 refine qH (fun f' cs'=>∃(tO:Bool)(g:Fr),tO=o31/\f'=aR g [(8,(.bool tO))]/\aP cs' []) ?_ ?_
 · replace hF:=awS
   refine dH rfl .no .q5 (fun ha hp=>gM yX.h pI.h.sz rfl (EN ha (.tmp rfl rfl) rfl) hp.2 rfl) ?_
   refine dH rfl .no .h (fun ha hp=>gM yX.h pI.h.sz rfl (EN ha (.tmp rfl rfl) rfl) hp.2 rfl) ?_
   refine bnd hF fun Cw hx34 hF=>jB (amw hx34) (fun _=>?_)
   refine du ?_
   rcases df Cw with R7|R7
   · rw[R7]
     try rw[R7]at hF; dsimp only[aY,aX]at hF
     refine Mj ?_
     refine bnd hF fun kE hx38 hF=>kZ (Yz hx38) (fun p39=>?_)
     refine bnd hF fun M9 QT hF=>bZ rfl rfl (.on 47 rfl rfl rfl) (.cons .h (.rd (.t (.t (.t (.t (.t (.t (.t (.t (.t (.t (.t (.t (.t (.t (.t (.t (.t (.t .h)))))))))))))))))) rfl .nil)) (.dep rfl (.dep rfl .nil)) (fun ha=>eY bi (fun _=>.nil) (bP ajK.h (.cons (EN ha (.tmp rfl rfl) rfl) (.cons (EN ha (.tmp rfl rfl) rfl) .nil)) (adM QT))) (fun _=>?_)
     refine bV ?_
     rcases df M9 with R8|R8
     · rw[R8]
       try rw[R8]at hF; dsimp only[aY,aX]at hF
       refine Mj ?_
       refine bnd hF fun oL uj hF=>kZ (Yz uj) (fun p46=>?_)
       refine bnd hF fun r47 azY hF=>bZ rfl rfl (.on 57 rfl rfl rfl) (.cons .h (.rd (.t (.t (.t (.t (.t (.t (.t (.t (.t (.t (.t (.t (.t (.t (.t (.t (.t (.t (.t .h))))))))))))))))))) rfl .nil)) (.dep rfl (.dep rfl .nil)) (fun ha=>eY bi (fun _=>.nil) (bP ajK.h (.cons (EN ha (.tmp rfl rfl) rfl) (.cons (EN ha (.tmp rfl rfl) rfl) .nil)) (adM azY))) (fun _=>?_)
       exact iC hF
     rw[R8]
     try rw[R8]at hF; dsimp only[aY,aX]at hF
     exact iC hF
   rw[R7]
   try rw[R7]at hF; dsimp only[aY,aX]at hF
   exact iC hF
 rintro _ _ ⟨tO,g51,rfl,rfl,hE⟩
 replace hF:=azX
 try dsimp only at hF
 refine bM hE ?_
 exact ze hF
def NT(fuel:Nat)(iR:List UInt8):Option (Bool):=
 (VM iR).bind fun r1=>
 if r1 then (
   some true)
 else (
   (TQ fuel iR).bind fun r4=>
   (Nu fuel r4.1 r4.2.1 r4.2.2.1 r4.2.2.2).bind fun r8=>
   (yD fuel r4.1 r4.2.1 r4.2.2.1).bind fun fo=>
   (Kv fuel r4.1 r4.2.1 r4.2.2.1).bind fun iK=>
   (Ky r4.1 r4.2.1 r4.2.2.1).bind fun kr=>
   ((KQ fuel r4.1 r4.2.1 r4.2.2.1).bind fun iV=>
     bif (!(fo==iV))then (some (fo,true))
     else (bif (!(iK.2==kr.2))then (some (fo,true))
       else ((NN iK.1 kr.1).bind fun r29=>
         bif (!r29)then (some (fo,true))
         else (bif fo then ((zX r4.1 r4.2.2.2).bind fun Nf=>
             some (true,(!(r8.2==Nf))))
           else (some (false,(!(r8.2==false)))))))).bind fun JV=>
   match JV with
   |(c37,Tj)=>if Tj then (
       some false)
     else (
       (GX r4.1 r4.2.2.1 r4.2.2.2).bind fun jR=>
       (bif r8.2 then ((N9 r8.1 jR).bind fun yu=>
           bif (!yu)then (some true)
           else ((Kz r4.1 r4.2.1 r4.2.2.1 r4.2.2.2).bind fun r49=>
             (N9 r49 jR).bind fun qy=>
             bif (!qy)then (some true)
             else ((NP r4.1 r4.2.1 r4.2.2.1 r4.2.2.2).bind fun Td=>
               some (decide ((0:Int)<(Td.length:Int))))))
         else (some false)).bind fun Cx=>
       match Cx with
       |c59=>if c59 then (
           some false)
         else (
           (FK fuel r4.1 r4.2.1 r4.2.2.1).bind fun iQ=>
           (CZ fuel r4.1 r4.2.1 r4.2.2.1).bind fun lJ=>
           (bif (!(iQ.2==lJ.2))then (some true)
             else ((vR iQ.1.All lJ.1.All).bind fun JW=>
               bif (!JW)then (some true)
               else ((vR iQ.1.Some lJ.1.Some).bind fun JX=>
                 bif (!JX)then (some true)
                 else ((Hf iQ.1.Tuple lJ.1.Tuple).bind fun JY=>
                   bif (!JY)then (some true)
                   else (bif (iQ.2==c37)then ((zP r4.1 r4.2.1).bind fun uJ=>
                       bif uJ then ((vT r4.1 r4.2.2.1).bind fun zA=>
                         bif zA then (some true)
                         else (bif iQ.2 then ((qX r4.1 r4.2.1 r4.2.2.1 lJ.1).bind fun zy=>
                             some (!zy))
                           else (some false)))
                       else (bif iQ.2 then ((qX r4.1 r4.2.1 r4.2.2.1 lJ.1).bind fun Nh=>
                           some (!Nh))
                         else (some false)))
                     else (bif iQ.2 then ((qX r4.1 r4.2.1 r4.2.2.1 lJ.1).bind fun MR=>
                         some (!MR))
                       else (some false))))))).bind fun Tk=>
           match Tk with
           |R9=>if R9 then (
               some false)
             else (
               (Kt fuel iR).bind fun ic=>
               ((qX ic.1 ic.2.1 ic.2.2.1 ic.2.2.2).bind fun EO=>
                 (yA ic.1 ic.2.1 ic.2.2.1 ic.2.2.2).bind fun EP=>
                 bif (EO==EP)then ((yA ic.1 ic.2.1 ic.2.2.1 ic.2.2.2).bind fun Jn=>
                   bif (!Jn)then (some true)
                   else ((yD fuel ic.1 ic.2.1 ic.2.2.1).bind fun MS=>
                     some (!MS)))
                 else (some false)).bind fun Jo=>
               match Jo with
               |R_=>some R_))))
theorem amQ{fuel:Nat}{iR:List UInt8}{aa:Sv}{R:Bool}(hF:NT fuel iR=some R):
   Fw.Spec Tryz.prog 3 [aa.v] [iZ aa iR] (fun _:Unit=>(.bool R)) (fun _=>[]):=by
 refine Se 215 Tryz.func3 [.tmp 2] ?_
 intro H0 F0
 unfold NT at hF
 refine bG ?_
 refine bnd hF fun r1 hx2 hF=>bR (aqC hx2) (fun _=>?_)
 refine au ?_
 refine Ci hF (fun awT hF=>?_) (fun awT hF=>?_)
 · exact ze hF
 refine aZ ?_
 refine bnd hF fun r4 hx5 hF=>XF (al6 hx5) (fun p6=>?_)
 refine au ?_
 refine zx ?_
 refine zx ?_
 refine zx ?_
 refine zx ?_
 refine cO (fun k7=>?_)
 refine aT ?_
 refine As (zg [p6.2.2.2.1.v,p6.2.2.2.2.2.1.v]) ?_
 refine bQ ?_
 refine bnd hF fun r8 dm hF=>uV (.cons .q5 (.cons .q3 (.cons .q2 (.rd (.t .h) rfl (.rd .q2 rfl .nil))))) (iW (pre:=_) (.cons bi (.cons bi (.cons bi .nil))) (fun _=>(.cons .nil)) (fM (.rd .q3 rfl (.rd .h rfl (.rd (.t .h) rfl (.rd .q4 rfl (.rd .q2 rfl .nil))))) (bP cf6.h bz (ame dm)))) (fun dP=>?_)
 refine au ?_
 refine zx ?_
 refine zx ?_
 refine bQ ?_
 refine bnd hF fun fo uZ hF=>jM (.cons (.t .h) (.cons (.t .h) (.rd .q3 rfl (.rd .q4 rfl .nil)))) (iW (pre:=_) (.cons bi (.cons bi .nil)) (fun _=>.nil) (fM (.rd .q2 rfl (.rd .h rfl (.rd (.t .h) rfl (.rd .q3 rfl .nil)))) (bP cf7.h bz (Ub uZ)))) (fun _=>?_)
 refine bG ?_
 refine bnd hF fun iK mR hF=>uV (.cons .h (.cons .h (.rd .q3 rfl (.rd .q4 rfl .nil)))) (iW (pre:=_) (.cons bi (.cons bi .nil)) (fun _=>(.cons (.cons .nil))) (fM (.rd .q2 rfl (.rd .h rfl (.rd (.t .h) rfl (.rd .q3 rfl .nil)))) (bP cf8.h bz (adq mR)))) (fun p16=>?_)
 refine au ?_
 refine zx ?_
 refine zx ?_
 refine cO (fun k17=>?_)
 refine As (zg [p16.1.v,p16.2.2.1.v]) ?_
 refine bG ?_
 refine bnd hF fun kr kC hF=>uV (.cons (.t .h) (.cons (.t .h) (.rd .q6 rfl (.rd .q7 rfl .nil)))) (iW (pre:=_) (.cons bi (.cons bi .nil)) (fun _=>(.cons (.cons .nil))) (fM (.rd .q2 rfl (.rd .h rfl (.rd (.t .h) rfl (.rd .q3 rfl .nil)))) (bP cf9.h bz (adr kC)))) (fun nZ=>?_)
 refine au ?_
 refine zx ?_
 refine zx ?_
 refine cO (fun k21=>?_)
 refine As (zg [nZ.1.v,nZ.2.2.1.v]) ?_
 refine aZ ?_
 obtain⟨JV,aa_,acK⟩:=bind_some hF
 refine au ?_
 refine gB (fun f' cs'=>∃(c37 Tj:Bool)(g:Fr),JV=(c37,Tj)/\f'=aR g [(0,aa.v),(3,p6.1.v),(4,p6.2.1.v),(5,(pz k7)),(6,p6.2.2.2.2.2.2.1.v),(7,dP.1.v),(8,(.bool r8.2)),(9,(.bool c37)),(84,(.bool Tj))]/\aP cs' [iZ aa iR,ah p6.1 r4.1,Et p6.2.2.1 p6.2.1 r4.2.1,bq k7 28 (zg [p6.2.2.2.1.v,p6.2.2.2.2.2.1.v]),bv p6.2.2.2.2.1 p6.2.2.2.1 r4.2.2.1.Head,bX p6.2.2.2.2.2.1 r4.2.2.1.Atoms,h_ p6.2.2.2.2.2.2.2 p6.2.2.2.2.2.2.1 r4.2.2.2,aJ (az 24 (az 3 (aj ax))) dP.2 dP.1.v r8.1]) ?_ ?_
 · replace hF:=aa_
   refine aL ?_
   refine bnd hF fun iV hx25 hF=>jM (.cons (.t .h) (.cons (.t .h) (.rd .q9 rfl (.rd .q10 rfl .nil)))) (iW (pre:=_) (.cons bi (.cons bi .nil)) (fun _=>.nil) (fM (.rd .q2 rfl (.rd .h rfl (.rd (.t .h) rfl (.rd .q3 rfl .nil)))) (bP axM.h bz (ad4 hx25)))) (fun _=>?_)
   refine aK (P_ (a:=fo) (b:=iV) Tryz.underlying4 (.tmp rfl rfl) (.tmp rfl rfl)) ?_
   refine au ?_
   rcases df (!(fo==iV))with Sa|Sa
   · rw[Sa]
     try rw[Sa]at hF; dsimp only[aY,aX]at hF
     exact QK hF
   rw[Sa]
   try rw[Sa]at hF; dsimp only[aY,aX]at hF
   refine bf ?_
   refine aK (P_ (a:=iK.2) (b:=kr.2) Tryz.underlying4 (.tmp rfl rfl) (.tmp rfl rfl)) ?_
   refine aT ?_
   rcases df (!(iK.2==kr.2))with Sb|Sb
   · rw[Sb]
     try rw[Sb]at hF; dsimp only[aY,aX]at hF
     exact QK hF
   rw[Sb]
   try rw[Sb]at hF; dsimp only[aY,aX]at hF
   refine bf ?_
   refine bnd hF fun r29 Ra hF=>uV (.cons .q4 (.cons .q3 (.cons .q5 (.cons .q4 .nil)))) (iW (pre:=[]) (.cons bi (.cons bi (.cons bi (.cons bi .nil)))) (fun _=>.nil) (bP axT.h bz (amM Ra))) (fun _=>?_)
   refine aL ?_
   rcases df (!r29)with xZ|xZ
   · rw[xZ]
     try rw[xZ]at hF; dsimp only[aY,aX]at hF
     exact QK hF
   rw[xZ]
   try rw[xZ]at hF; dsimp only[aY,aX]at hF
   refine bG ?_
   rcases df fo with xX|xX
   · rw[xX]
     try rw[xX]at hF; dsimp only[aY,aX]at hF
     refine bf ?_
     refine bnd hF fun Nf I6 hF=>dC (.cons .q8 (.rd .q10 rfl .nil)) (eY bi (fun _=>.nil) (fM (.rd (.t .h) rfl (.rd .h rfl .nil)) (bP axU.h bz (KF I6)))) (fun _=>?_)
     refine aZ ?_
     refine aK (P_ (a:=r8.2) (b:=Nf) Tryz.underlying4 (.tmp rfl rfl) (.tmp rfl rfl)) ?_
     exact QK hF
   rw[xX]
   try rw[xX]at hF; dsimp only[aY,aX]at hF
   refine bG ?_
   refine aK (P_ (a:=r8.2) (b:=false) Tryz.underlying4 (.tmp rfl rfl) (.tmp rfl rfl)) ?_
   exact QK hF
 rintro _ _ ⟨c37,Tj,aFR,rfl,rfl,hE⟩
 replace hF:=acK
 try dsimp only at hF
 refine bM hE ?_
 refine Ci hF (fun awU hF=>?_) (fun awU hF=>?_)
 · exact ze hF
 refine bf ?_
 refine bnd hF fun jR sH hF=>Bu (.cons .q6 (.cons .q4 (.rd (.t .h) rfl (.rd .q4 rfl .nil)))) (iW (pre:=_) (.cons bi (.cons bi .nil)) (fun _=>(.cons .nil)) (fM (.rd .q2 rfl (.rd .h rfl (.rd .q3 rfl (.rd (.t .h) rfl .nil)))) (bP axV.h bz (Yz sH)))) (fun p41=>?_)
 refine aZ ?_
 obtain⟨Cx,aa',acL⟩:=bind_some hF
 refine au ?_
 refine gB (fun f' cs'=>∃(c59:Bool)(g:Fr),c59=Cx/\f'=aR g [(0,aa.v),(3,p6.1.v),(4,p6.2.1.v),(5,(pz k7)),(9,(.bool c37)),(114,(.bool c59))]/\aP cs' [iZ aa iR,ah p6.1 r4.1,Et p6.2.2.1 p6.2.1 r4.2.1,bq k7 28 (zg [p6.2.2.2.1.v,p6.2.2.2.2.2.1.v]),bv p6.2.2.2.2.1 p6.2.2.2.1 r4.2.2.1.Head,bX p6.2.2.2.2.2.1 r4.2.2.1.Atoms]) ?_ ?_
 · replace hF:=aa'
   refine aT ?_
   rcases df r8.2 with x9|x9
   · rw[x9]
     try rw[x9]at hF; dsimp only[aY,aX]at hF
     refine bf ?_
     refine bnd hF fun yu wD hF=>jM (.cons .q2 (.cons .q7 .nil)) (iW (pre:=[]) (.cons bi (.cons bi .nil)) (fun _=>.nil) (bP ajG.h bz (ad5 wD))) (fun _=>?_)
     refine aL ?_
     rcases df (!yu)with Sc|Sc
     · rw[Sc]
       try rw[Sc]at hF; dsimp only[aY,aX]at hF
       exact cK hF
     rw[Sc]
     try rw[Sc]at hF; dsimp only[aY,aX]at hF
     refine eU ?_
     refine bnd hF fun r49 Wn hF=>uV (.cons .q2 (.cons .q2 (.cons .q4 (.rd .q3 rfl (.rd .q5 rfl .nil))))) (iW (pre:=_) (.cons bi (.cons bi (.cons bi .nil))) (fun _=>(.cons .nil)) (fM (.rd .q3 rfl (.rd .h rfl (.rd (.t .h) rfl (.rd .q4 rfl (.rd .q2 rfl .nil))))) (bP axY.h bz (ads Wn)))) (fun p51=>?_)
     refine aZ ?_
     refine bnd hF fun qy xO hF=>jM (.cons .q4 (.cons .q3 .nil)) (iW (pre:=[]) (.cons bi (.cons bi .nil)) (fun _=>.nil) (bP ajG.h bz (ad5 xO))) (fun _=>?_)
     refine bG ?_
     rcases df (!qy)with Sd|Sd
     · rw[Sd]
       try rw[Sd]at hF; dsimp only[aY,aX]at hF
       exact cK hF
     rw[Sd]
     try rw[Sd]at hF; dsimp only[aY,aX]at hF
     refine eU ?_
     refine bnd hF fun Td Ev hF=>uV (.cons .q2 (.cons .q2 (.cons .q2 (.rd .q4 rfl (.rd .q6 rfl .nil))))) (iW (pre:=_) (.cons bi (.cons bi (.cons bi .nil))) (fun _=>(.cons .nil)) (fM (.rd .q3 rfl (.rd .h rfl (.rd (.t .h) rfl (.rd .q4 rfl (.rd .q2 rfl .nil))))) (bP ax1.h bz (amN Ev)))) (fun p58=>?_)
     exact cK hF
   rw[x9]
   try rw[x9]at hF; dsimp only[aY,aX]at hF
   exact cK hF
 rintro _ _ ⟨c59,aFS,rfl,rfl,hE⟩
 replace hF:=acL
 try dsimp only at hF
 refine bM hE ?_
 refine Ci hF (fun awV hF=>?_) (fun awV hF=>?_)
 · exact ze hF
 refine bf ?_
 refine bnd hF fun iQ wz hF=>abt (.cons .q4 (.cons .q2 (.rd (.t .h) rfl (.rd .q3 rfl .nil)))) (iW (pre:=_) (.cons bi (.cons bi .nil)) (fun _=>(.cons (.cons (.cons .nil)))) (fM (.rd .q2 rfl (.rd .h rfl (.rd (.t .h) rfl (.rd .q3 rfl .nil)))) (bP ax3.h bz (ami wz)))) (fun p62=>?_)
 refine au ?_
 refine zx ?_
 refine zx ?_
 refine cO (fun k63=>?_)
 refine As (zg [p62.1.v,p62.2.2.1.v,p62.2.2.2.2.1.v]) ?_
 refine aT ?_
 iterate 2 refine lS .q2 bi ?_
 refine aL ?_
 refine bnd hF fun lJ I1 hF=>sQ (adt I1) (fun p66=>?_)
 refine au ?_
 refine zx ?_
 refine zx ?_
 refine cO (fun k67=>?_)
 refine As (zg [p66.1.v,p66.2.1.v,p66.2.2.1.v]) ?_
 refine aZ ?_
 obtain⟨Tk,awW,azZ⟩:=bind_some hF
 refine au ?_
 refine gB (fun f' cs'=>∃(R9:Bool)(g:Fr),R9=Tk/\f'=aR g [(0,aa.v),(181,(.bool R9))]/\aP cs' [iZ aa iR]) ?_ ?_
 · replace hF:=awW
   refine aT ?_
   refine aK (P_ (a:=iQ.2) (b:=lJ.2) Tryz.underlying4 (.tmp rfl rfl) (.tmp rfl rfl)) ?_
   refine au ?_
   rcases df (!(iQ.2==lJ.2))with Sg|Sg
   · rw[Sg]
     try rw[Sg]at hF; dsimp only[aY,aX]at hF
     exact cK hF
   rw[Sg]
   try rw[Sg]at hF; dsimp only[aY,aX]at hF
   refine eU ?_
   refine bnd hF fun JW acR hF=>dC (.cons .q7 (.rd (.t .h) rfl .nil)) (eY bi (fun _=>.nil) (bP ajI.h bz (YA acR))) (fun _=>?_)
   refine aL ?_
   rcases df (!JW)with Si|Si
   · rw[Si]
     try rw[Si]at hF; dsimp only[aY,aX]at hF
     exact cK hF
   rw[Si]
   try rw[Si]at hF; dsimp only[aY,aX]at hF
   refine eU ?_
   refine bnd hF fun JX acM hF=>dC (.cons .q8 (.rd .q3 rfl .nil)) (eY bi (fun _=>.nil) (bP ajI.h bz (YA acM))) (fun _=>?_)
   refine aL ?_
   rcases df (!JX)with Sj|Sj
   · rw[Sj]
     try rw[Sj]at hF; dsimp only[aY,aX]at hF
     exact cK hF
   rw[Sj]
   try rw[Sj]at hF; dsimp only[aY,aX]at hF
   refine eU ?_
   refine bnd hF fun JY Mx hF=>jM (.cons .q5 (.cons .q8 .nil)) (iW (pre:=[]) (.cons bi (.cons bi .nil)) (fun _=>.nil) (bP ax5.h bz (an7 Mx))) (fun _=>?_)
   refine aL ?_
   rcases df (!JY)with Sk|Sk
   · rw[Sk]
     try rw[Sk]at hF; dsimp only[aY,aX]at hF
     exact cK hF
   rw[Sk]
   try rw[Sk]at hF; dsimp only[aY,aX]at hF
   refine bf ?_
   refine aK (aiq (a:=iQ.2) (b:=c37) Tryz.underlying4 (.tmp rfl rfl) (.tmp rfl rfl)) ?_
   refine aT ?_
   rcases df (iQ.2==c37)with Sl|Sl
   · rw[Sl]
     try rw[Sl]at hF; dsimp only[aY,aX]at hF
     refine bf ?_
     refine bnd hF fun uJ EE hF=>bR (Yv EE) (fun _=>?_)
     refine aL ?_
     rcases df uJ with Sm|Sm
     · rw[Sm]
       try rw[Sm]at hF; dsimp only[aY,aX]at hF
       refine bf ?_
       refine bnd hF fun zA ac6 hF=>bR (KN ac6) (fun _=>?_)
       refine aL ?_
       rcases df zA with Sn|Sn
       · rw[Sn]
         try rw[Sn]at hF; dsimp only[aY,aX]at hF
         exact cK hF
       rw[Sn]
       try rw[Sn]at hF; dsimp only[aY,aX]at hF
       refine aL ?_
       rcases df iQ.2 with x_|x_
       · rw[x_]
         try rw[x_]at hF; dsimp only[aY,aX]at hF
         refine eU ?_
         refine bnd hF fun zy Rq hF=>dC (.cons .h (.rd .q10 rfl (.rd .q7 rfl (.rd .q6 rfl (.rd .q12 rfl (.rd .q4 rfl (.rd .q5 rfl .nil))))))) (eY bi (fun _=>.nil) (fM (.rd (.t .h) rfl (.rd .q2 rfl (.rd .q3 rfl (.rd .q4 rfl (.rd .q5 rfl (.rd .q6 rfl (.rd .h rfl .nil))))))) (bP Wl.h bz (TR Rq)))) (fun _=>?_)
         exact cK hF
       rw[x_]
       try rw[x_]at hF; dsimp only[aY,aX]at hF
       exact cK hF
     rw[Sm]
     try rw[Sm]at hF; dsimp only[aY,aX]at hF
     refine v_ ?_
     rcases df iQ.2 with Sq|Sq
     · rw[Sq]
       try rw[Sq]at hF; dsimp only[aY,aX]at hF
       refine eU ?_
       refine bnd hF fun Nh hx98 hF=>dC (.cons .h (.rd .q10 rfl (.rd .q7 rfl (.rd .q6 rfl (.rd .q12 rfl (.rd .q4 rfl (.rd .q5 rfl .nil))))))) (eY bi (fun _=>.nil) (fM (.rd (.t .h) rfl (.rd .q2 rfl (.rd .q3 rfl (.rd .q4 rfl (.rd .q5 rfl (.rd .q6 rfl (.rd .h rfl .nil))))))) (bP Wl.h bz (TR hx98)))) (fun _=>?_)
       exact cK hF
     rw[Sq]
     try rw[Sq]at hF; dsimp only[aY,aX]at hF
     exact cK hF
   rw[Sl]
   try rw[Sl]at hF; dsimp only[aY,aX]at hF
   refine aaN ?_
   rcases df iQ.2 with Qy|Qy
   · rw[Qy]
     try rw[Qy]at hF; dsimp only[aY,aX]at hF
     refine eU ?_
     refine bnd hF fun MR hx102 hF=>dC (.cons .h (.rd .q10 rfl (.rd .q7 rfl (.rd .q6 rfl (.rd .q12 rfl (.rd .q4 rfl (.rd .q5 rfl .nil))))))) (eY bi (fun _=>.nil) (fM (.rd (.t .h) rfl (.rd .q2 rfl (.rd .q3 rfl (.rd .q4 rfl (.rd .q5 rfl (.rd .q6 rfl (.rd .h rfl .nil))))))) (bP Wl.h bz (TR hx102)))) (fun _=>?_)
     exact cK hF
   rw[Qy]
   try rw[Qy]at hF; dsimp only[aY,aX]at hF
   exact cK hF
 rintro _ _ ⟨R9,azt,rfl,rfl,hE⟩
 replace hF:=azZ
 try dsimp only at hF
 refine bM hE ?_
 refine Ci hF (fun aa9 hF=>?_) (fun aa9 hF=>?_)
 · exact ze hF
 refine aZ ?_
 refine bnd hF fun ic awX hF=>Cx7 (al4 awX) (fun Sr=>?_)
 refine au ?_
 refine zx ?_
 refine zx ?_
 refine zx ?_
 refine zx ?_
 refine cO (fun aFT=>?_)
 refine cO (fun aFU=>?_)
 refine aT ?_
 refine As (zg [Sr.2.2.1.v,Sr.2.2.2.1.v]) ?_
 refine As (zg [Sr.2.2.2.2.1.v,Sr.2.2.2.2.2.1.v,Sr.2.2.2.2.2.2.1.v]) ?_
 refine au ?_
 obtain⟨Jo,asg,awY⟩:=bind_some hF
 refine dM [0,1,2,3,5,6,7,8,4,9,10,11,12,13,14,15,16,17,18,19,20,21,22,23,24,25,26] [0,0,0,0,15,0,0,0,0,511,1023,2047,4095,4095,4095,4095,65535,131071,262143,524287,524287,524287,4194303,8388607,16777215,33554431,67108863] [4,9,16,22] mixed (by decide+kernel) ?_
 refine qH (fun f' cs'=>∃(R_:Bool)(g:Fr),R_=Jo/\f'=aR g [(2,(.bool R_))]/\aP cs' []) ?_ ?_
 · replace hF:=asg
   refine bV ?_
   refine dH rfl .no (.t .h) (fun ha hp=>gM jo.h gI.h.sz rfl (EN ha (.tmp rfl rfl) rfl) hp.2 rfl) ?_
   refine dH rfl .no .h (fun ha hp=>gM sF.h lD.h.sz rfl (EN ha (.tmp rfl rfl) rfl) hp.2 rfl) ?_
   refine bV ?_
   refine dH rfl .no (.t .h) (fun ha hp=>gM jo.h gI.h.sz rfl (EN ha (.tmp rfl rfl) rfl) hp.2 rfl) ?_
   refine dH rfl .no .h (fun ha hp=>gM sF.h lD.h.sz rfl (EN ha (.tmp rfl rfl) rfl) hp.2 rfl) ?_
   refine bnd hF fun EO hx113 hF=>bZ rfl rfl .no (.cons .q8 (.rd .q2 rfl (.rd .q3 rfl (.rd .q4 rfl (.rd .q5 rfl (.rd .q6 rfl (.rd .q7 rfl .nil))))))) (.own .h (fun _ h=>h) (.own (.t .h) (fun _ h=>h) (.dep rfl (.dep rfl .nil)))) (fun ha=>eY bi (fun _=>.nil) (fM (.rd (.t .h) rfl (.rd .q2 rfl (.rd .q3 rfl (.rd .q4 rfl (.rd .q5 rfl (.rd .q6 rfl (.rd .h rfl .nil))))))) (bP Wl.h (.cons (EN ha (.tmp rfl rfl) rfl) (.cons (EN ha (.tmp rfl rfl) rfl) (.cons (EN ha (.tmp rfl rfl) rfl) (.cons (EN ha (.tmp rfl rfl) rfl) .nil)))) (TR hx113)))) (fun _=>?_)
   refine bnd hF fun EP aaY hF=>bZ rfl rfl .no (.cons .h (.rd .q2 rfl (.rd .q3 rfl (.rd .q4 rfl (.rd .q5 rfl (.rd .q6 rfl (.rd .q7 rfl .nil))))))) (.dep rfl (.dep rfl (.dep rfl (.dep rfl .nil)))) (fun ha=>eY bi (fun _=>.nil) (fM (.rd (.t .h) rfl (.rd .q2 rfl (.rd .q3 rfl (.rd .q4 rfl (.rd .q5 rfl (.rd .q6 rfl (.rd .h rfl .nil))))))) (bP ajJ.h (.cons (EN ha (.tmp rfl rfl) rfl) (.cons (EN ha (.tmp rfl rfl) rfl) (.cons (EN ha (.tmp rfl rfl) rfl) (.cons (EN ha (.tmp rfl rfl) rfl) .nil)))) (adi aaY)))) (fun _=>?_)
   refine dJ rfl .no (fun ha=>aiq (a:=EO) (b:=EP) Tryz.underlying4 (EN ha (.tmp rfl rfl) rfl) (EN ha (.tmp rfl rfl) rfl)) ?_
   refine du ?_
   rcases df (EO==EP)with Qz|Qz
   · rw[Qz]
     try rw[Qz]at hF; dsimp only[aY,aX]at hF
     refine bV ?_
     refine dH rfl (.on 200 rfl rfl rfl) .q2 (fun ha hp=>gM jo.h gI.h.sz rfl (EN ha (.tmp rfl rfl) rfl) hp.2 rfl) ?_
     refine dH rfl (.on 200 rfl rfl rfl) (.t .h) (fun ha hp=>gM sF.h lD.h.sz rfl (EN ha (.tmp rfl rfl) rfl) hp.2 rfl) ?_
     refine bnd hF fun Jn awZ hF=>bZ rfl rfl (.on 200 rfl rfl rfl) (.cons .h (.rd .q2 rfl (.rd .q3 rfl (.rd .q4 rfl (.rd .q5 rfl (.rd .q6 rfl (.rd .q7 rfl .nil))))))) (.dep rfl (.dep rfl (.dep rfl (.dep rfl (.dep rfl (.dep rfl .nil)))))) (fun ha=>eY bi (fun _=>.nil) (fM (.rd (.t .h) rfl (.rd .q2 rfl (.rd .q3 rfl (.rd .q4 rfl (.rd .q5 rfl (.rd .q6 rfl (.rd .h rfl .nil))))))) (bP ajJ.h (.cons (EN ha (.tmp rfl rfl) rfl) (.cons (EN ha (.tmp rfl rfl) rfl) (.cons (EN ha (.tmp rfl rfl) rfl) (.cons (EN ha (.tmp rfl rfl) rfl) .nil)))) (adi awZ)))) (fun _=>?_)
     refine bV ?_
     rcases df (!Jn)with QA|QA
     · rw[QA]
       try rw[QA]at hF; dsimp only[aY,aX]at hF
       exact iC hF
     rw[QA]
     try rw[QA]at hF; dsimp only[aY,aX]at hF
     refine bV ?_
     refine dH rfl (.on 207 rfl rfl rfl) .q2 (fun ha hp=>gM jo.h gI.h.sz rfl (EN ha (.tmp rfl rfl) rfl) hp.2 rfl) ?_
     refine bnd hF fun MS Qj hF=>jB (Ub Qj) (fun _=>?_)
     exact iC hF
   rw[Qz]
   try rw[Qz]at hF; dsimp only[aY,aX]at hF
   exact iC hF
 rintro _ _ ⟨R_,azp,rfl,rfl,hE⟩
 replace hF:=awY
 try dsimp only at hF
 refine bM hE ?_
 exact ze hF
end Go.Proofs.YtgcphpodckldbaaGreat
